import PyProof.Rows.All
import Wide.All
import OpenK.AllK
import HandS.ForMost
import HandS.ForExc
import HandS.Flow
import HandS.IsInst
import HandS.More
import HandS.Deep
import HandS.TupAny
import HandS.TupMul
import HandS.Style
import HandS.Wide
import HandS.WideBits
import HandS.Lambda
import KE.KeyNested
import HandS.HeadHook1
import HandS.HeadHook4
import HandS.TupLe
import HandS.NoneIn
import HandS.TupLen
import HandS.DictComp
import PyProof.DictTruth
import HandS.RaiseMore
import HandS.Defaults
import HandS.ExcInit
import KE.KExcSuper
import HandS.ExcSuper
import KE.KExcIs
import HandS.ExcField
import KE.KIsAll
import HandS.Zip
import HandS.MakeKw
import OpenK.KOps
import PyProof.InstEq
import KE.KDflt
import HandS.EndBits
import HandS.NestedK
import HandS.HeadEnd
import HandS.Head0
import HandS.Head1
import HandS.Head2
import PySem.Challenge.RW_ownhearing_k51_codes_made_and_refused
section
set_option Elab.async false
set_option linter.all false
set_option maxRecDepth 100000
set_option maxHeartbeats 2000000
/-! Qv: values without a heap, what a piece of a program does to them (no syntax: each construct is a function of the slots and the store). -/
namespace Qv
open PySem L2
/-- the written part, and the world (hashes) -/
structure Kx where
  K : PySem.W.Frag
  w : World
abbrev kx (X : Cx) : Kx := ⟨X.K, X.w⟩

/-- at a: an exception of the class cls, its dict at d, that flies no more -/
def exq (a : Addr) (cls : Value) (d : Option Addr) : HO := .ext fun h => ∃ oe vs, h.get? a = some oe ∧ oe.cls = cls ∧ oe.dict = d ∧ oe.data = .fields vs

/-- a value: what is frozen stands inline; mrf k is the thing of the store that bears the number k -/
inductive D where
  | non | bl (b : Bool) | int (i : Int) | str (x : Str) | tup (xs : List D) | lst (xs : List D) | rol (xs : List D) | dct (ks vs : List D) | mrf (k : Nat) | exn (c : Str) (ns : List Str) (ds : List D) | ins (c : Str) (ns : List Str) (ds : List D)

/-- a thing of the store -/
inductive MO where
  | lst (xs : List D) | dct (ks vs : List D) | obj (c : Str) (ns : List Str) (ds : List D)
/-- the store: the next number; the things, the newest ahead; the defs that make lambdas -/
structure Sto where
  n : Nat
  th : List (Nat × MO)
  tn : List Str
namespace Sto
def lk : List (Nat × MO) → Nat → Option MO
  | [], _ => none
  | (j, m) :: r, k => if j = k then some m else lk r k
def pt (k : Nat) (m : MO) : List (Nat × MO) → List (Nat × MO)
  | [] => []
  | (j, u) :: r => (if j = k then (k, m) else (j, u)) :: pt k m r
def rm (k : Nat) : List (Nat × MO) → List (Nat × MO)
  | [] => []
  | (j, u) :: r => if j = k then rm k r else (j, u) :: rm k r
def get (st : Sto) (k : Nat) : Option MO := lk st.th k
def set (st : Sto) (k : Nat) (m : MO) : Sto := ⟨st.n, pt k m st.th, st.tn⟩
def del (st : Sto) (k : Nat) : Sto := ⟨st.n, rm k st.th, st.tn⟩
def new (st : Sto) (m : MO) : Sto := ⟨st.n + 1, (st.n, m) :: st.th, st.tn⟩
/-- what came behind the first m things is forgotten -/
def cut (st : Sto) (m : Nat) : Sto := ⟨st.n, st.th.drop (st.th.length - m), st.tn⟩
end Sto

/-- an outcome -/
inductive R (α : Type) where
  | stuck | ok (a : α) (st : Sto) | exc (c : Str) (ns : List Str) (ds : List D) (st : Sto)
/-- what is wanted of what is raised -/
abbrev XW := Str → List Str → List D → Sto → Prop
namespace R
variable {α β : Type}
def bind : R α → (α → Sto → R β) → R β
  | .stuck, _ => .stuck
  | .ok a st, f => f a st
  | .exc c ns ds st, _ => .exc c ns ds st
@[simp] theorem bind_ok (a : α) (st : Sto) (f : α → Sto → R β) : (R.ok a st).bind f = f a st := rfl
@[simp] theorem bind_stuck (f : α → Sto → R β) : (R.stuck : R α).bind f = .stuck := rfl
@[simp] theorem bind_exc (c : Str) (ns : List Str) (ds : List D) (st : Sto) (f : α → Sto → R β) : (R.exc c ns ds st : R α).bind f = .exc c ns ds st := rfl
/-- what holds of the outcome -/
def wp (r : R α) (Q : α → Sto → Prop) (E : XW) : Prop := match r with
  | .stuck => False
  | .ok a st => Q a st
  | .exc c ns ds st => E c ns ds st
theorem wp_bind {r : R α} {f : α → Sto → R β} {Q : β → Sto → Prop} {E : XW} : (r.bind f).wp Q E ↔ r.wp (fun a st => (f a st).wp Q E) E := by
  cases r <;> exact Iff.rfl
theorem wp_mono {r : R α} {Q Q' : α → Sto → Prop} {E E' : XW} (h : r.wp Q E) (k : ∀ a st, Q a st → Q' a st) (ke : ∀ c ns ds st, E c ns ds st → E' c ns ds st) : r.wp Q' E' := by
  cases r with
  | stuck => exact h
  | ok a st => exact k a st h
  | exc c ns ds st => exact ke c ns ds st h
/-- nothing is raised -/
def calm : R α → R α
  | .stuck => .stuck
  | .ok a st => .ok a st
  | .exc .. => .stuck
theorem wp_calm {r : R α} {Q : α → Sto → Prop} {E E' : XW} (h : r.calm.wp Q E) : r.wp Q E' := by
  cases r with
  | stuck => exact h
  | ok a st => exact h
  | exc c ns ds st => exact h.elim
end R
def may {α β : Type} (o : Option α) (k : α → R β) : R β := match o with
  | some a => k a
  | none => .stuck
@[simp] theorem may_some {α β : Type} (a : α) (k : α → R β) : may (some a) k = k a := rfl
@[simp] theorem may_none {α β : Type} (k : α → R β) : may none k = .stuck := rfl
def must {α : Type} (p : Prop) [Decidable p] (r : R α) : R α := if p then r else .stuck
theorem must_pos {α : Type} {p : Prop} [Decidable p] (h : p) (r : R α) : must p r = r := if_pos h
theorem must_wp {α : Type} {p : Prop} [Decidable p] {r : R α} {Q : α → Sto → Prop} {E : XW} (h : (must p r).wp Q E) : p ∧ r.wp Q E := by
  unfold must at h
  split at h
  · rename_i hp; exact ⟨hp, h⟩
  · exact h.elim
theorem may_wp {α β : Type} {o : Option α} {k : α → R β} {Q : β → Sto → Prop} {E : XW} (h : (may o k).wp Q E) : ∃ a, o = some a ∧ (k a).wp Q E := by
  cases o with
  | none => exact h.elim
  | some a => exact ⟨a, rfl, h⟩
def omust {α : Type} (p : Prop) [Decidable p] (o : Option α) : Option α := if p then o else none
theorem omust_some {α : Type} {p : Prop} [Decidable p] {o : Option α} {a : α} (h : omust p o = some a) : p ∧ o = some a := by
  unfold omust at h
  split at h
  · rename_i hp; exact ⟨hp, h⟩
  · cases h

/-! ### data -/
mutual
def toP : D → Option PyData
  | .non => some .none
  | .bl b => some (.bool b)
  | .int i => some (.int i)
  | .str x => some (.str x)
  | .tup xs => (toPs xs).map .tuple
  | .lst xs => (toPs xs).map .list
  | _ => none
def toPs : List D → Option (List PyData)
  | [] => some []
  | x :: xs => match toP x, toPs xs with
    | some p, some ps => some (p :: ps)
    | _, _ => none
end
mutual
/-- a dict's key -/
def toK : D → Option NestedKey
  | .non => some .none
  | .bl b => some (.num (if b then 1 else 0))
  | .int i => some (.num i)
  | .str x => some (.text x)
  | .tup xs => (toKs xs).map .tup
  | _ => none
def toKs : List D → Option (List NestedKey)
  | [] => some []
  | x :: xs => match toK x, toKs xs with
    | some p, some ps => some (p :: ps)
    | _, _ => none
end
/-- a dict's keys are all flat (no bools), or all tuples -/
def flatD : D → Bool
  | .non => true | .int _ => true | .str _ => true | _ => false
def tupD (d : D) : Bool := match d with
  | .tup xs => (match toKs xs with
    | some ks => decide ((NestedKey.tup ks).depth ≤ 8)
    | none => false)
  | _ => false
def uniD (ks : List D) : Bool := ks.all flatD || ks.all tupD
/-- a list's items (a frozen one, or one of the store) -/
def asLst (st : Sto) : D → Option (List D)
  | .lst xs => some xs
  | .mrf k => match st.get k with
    | some (.lst xs) => some xs
    | _ => none
  | _ => none
def asTup : D → Option (List D)
  | .tup xs => some xs
  | _ => none
def asSeq (st : Sto) : D → Option (List D)
  | .tup xs => some xs
  | .rol xs => some xs
  | d => asLst st d
def asI : D → Option Int
  | .int i => some i
  | _ => none
/-- a dict's keys and values -/
def asDct (st : Sto) : D → Option (List D × List D)
  | .dct ks vs => some (ks, vs)
  | .mrf k => match st.get k with
    | some (.dct ks vs) => some (ks, vs)
    | _ => none
  | _ => none
def truth (st : Sto) : D → Option Bool
  | .non => some false
  | .bl b => some b
  | .int i => some (i != 0)
  | .str x => if x.length ≤ sizeLine then some ((x.length : Int) != 0) else none
  | .tup xs => some (!xs.isEmpty)
  | .rol xs => some (!xs.isEmpty)
  | d => (asLst st d).map fun xs => !xs.isEmpty
def flat? : D → Option V
  | .non => some .non
  | .bl b => some (.bl b)
  | .int i => some (.int i)
  | .str x => some (.str x)
  | _ => none

/-! ### operators -/
abbrev Op2 := Sto → D → D → Option D
def bAdd : Op2 := fun st x y => match x, y with
  | .int i, .int j => some (.int (i + j))
  | .str x, .str y => omust (x.length + y.length ≤ sizeLine) (some (.str (x ++ y)))
  | .tup xs, .tup ys => omust (xs.length + ys.length ≤ sizeLine) (some (.tup (xs ++ ys)))
  | a, b => match asLst st a, asLst st b with
    | some xs, some ys => omust (xs.length + ys.length ≤ sizeLine) (some (.lst (xs ++ ys)))
    | _, _ => none
def bSub : Op2 := fun _ x y => match x, y with
  | .int i, .int j => some (.int (i - j))
  | _, _ => none
def bMul : Op2 := fun st x y => match x, y with
  | .int i, .int j => omust ((-(2 ^ 64) < i ∧ i < 2 ^ 64) ∨ (-(2 ^ 64) < j ∧ j < 2 ^ 64)) (some (.int (i * j)))
  | .tup xs, .int k => omust (xs.length ≠ 0 ∧ 2 ≤ k ∧ k ≤ 1000 ∧ xs.length ≤ 1000) (some (.tup (List.replicate k.toNat xs).flatten))
  | a, .int k => match asLst st a with
    | some xs => omust (-(2 ^ 63) ≤ k ∧ k < 2 ^ 63 ∧ xs.length * k.toNat ≤ sizeLine) (some (.lst (List.replicate k.toNat xs).flatten))
    | none => none
  | _, _ => none
def bFdiv : Op2 := fun _ x y => match x, y with
  | .int i, .int j => omust (0 < j ∧ j < 1073741824) (some (.int (i / j)))
  | _, _ => none
def bMod : Op2 := fun _ x y => match x, y with
  | .int i, .int j => omust (0 < j) (some (.int (i % j)))
  | _, _ => none
def bPow : Op2 := fun _ x y => match x, y with
  | .int i, .int j => omust (0 ≤ j ∧ j ≤ 1000000 ∧ i.natAbs < 2 ^ 64) (some (.int (i ^ j.toNat)))
  | _, _ => none
abbrev Cm2 := Sto → D → D → Option Bool
def eqD (a b : D) : Option Bool := match toP a, toP b with
  | some p, some q => if SeqAt.shaped p = true ∧ SeqAt.shaped q = true then some (PyData.eqv p q) else none
  | _, _ => none
/-- lists of unlike lengths are unlike, whatever stands in them -/
def eqS : Cm2 := fun st a b => match eqD a b with
  | some r => some r
  | none => match asLst st a, asLst st b with
    | some xs, some ys => if xs.length ≠ ys.length then some false else if xs.isEmpty then some true else none
    | _, _ => none
def inS (a z : Str) : Option Bool := match a.cps.toList with
  | [c] => some (decide (c ∈ z.cps.toList))
  | _ => none
def inD : Cm2 := fun st x y => match y with
  | .str z => match x with
    | .str a => inS a z
    | _ => none
  | .tup ys => match flat? x, ys.mapM flat? with
    | some v, some vs => some (inV v vs)
    | _, _ => none
  | .lst ys => match toP x, toPs ys with
    | some p, some qs => if SeqAt.shaped p = true ∧ SeqAt.shaped (.list qs) = true then some (qs.any fun z => PyData.eqv z p) else none
    | _, _ => none
  | _ => none
def isD (a b : D) : Option Bool := match a, b with
  | .non, .non => some true
  | _, .non => some false
  | .bl a, .bl b => some (decide (a = b))
  | _, _ => none
def cEq : Cm2 := eqS
def cNe : Cm2 := fun _ a b => (eqD a b).map (!·)
def cLt : Cm2 := fun _ x y => match x, y with
  | .int i, .int j => some (decide (i < j))
  | _, _ => none
def cLe : Cm2 := fun _ x y => match x, y with
  | .int i, .int j => some (decide (i ≤ j))
  | _, _ => none
def cGt : Cm2 := fun _ x y => match x, y with
  | .int i, .int j => some (decide (j < i))
  | _, _ => none
def cGe : Cm2 := fun _ x y => match x, y with
  | .int i, .int j => some (decide (j ≤ i))
  | _, _ => none
def cIs : Cm2 := fun _ a b => isD a b
def cNis : Cm2 := fun _ a b => (isD a b).map (!·)
def cIn : Cm2 := inD
def cNin : Cm2 := fun st a b => (inD st a b).map (!·)
def cmpD (c : Cm2) : Op2 := fun st x y => (c st x y).map .bl
def ixD : Op2 := fun st a b => match a, b with
  | .str x, .int i => if x.length ≤ sizeLine then (atI x.cps.toList i).map fun c => .str ⟨#[c]⟩ else none
  | a, .int i => (asSeq st a).bind fun xs => atI xs i
  | _, _ => none
def cutD {α : Type} (xs : List α) (lo hi : Option Int) : List α := (xs.drop (HT.sIx xs.length 0 lo)).take (HT.sIx xs.length xs.length hi - HT.sIx xs.length 0 lo)
def slD (st : Sto) (a : D) (lo hi : Option Int) : Option D := match a with
  | .tup xs => some (.tup (cutD xs lo hi))
  | .rol xs => some (.lst (cutD xs lo hi))
  | a => (asLst st a).map fun xs => .lst (cutD xs lo hi)
def ints? : List D → Option (List Int)
  | [] => some []
  | .int i :: r => (ints? r).map (i :: ·)
  | _ :: _ => none
def bools? : List D → Option (List Bool)
  | [] => some []
  | .bl b :: r => (bools? r).map (b :: ·)
  | _ :: _ => none
def maxL : List Int → Option Int
  | [] => none
  | i :: r => some (r.foldl max i)
abbrev Op1 := Sto → D → Option D
def fLen : Op1 := fun st x => match x with
  | .str x => omust (x.length ≤ sizeLine) (some (.int x.length))
  | a => match asDct st a with
    | some p => omust (p.1.length ≤ sizeLine) (some (.int p.1.length))
    | none => (asSeq st a).map fun xs => .int xs.length
def fInt : Op1 := fun _ x => match x with
  | .int i => some (.int i)
  | .bl b => some (.int (if b then 1 else 0))
  | _ => none
def fAbs : Op1 := fun _ x => match x with
  | .int i => some (.int (if i < 0 then -i else i))
  | _ => none
def fAll : Op1 := fun st x => ((asLst st x).bind bools?).map fun bs => .bl (bs.all id)
def fAny : Op1 := fun st x => ((asLst st x).bind bools?).map fun bs => .bl (bs.any id)
def fSum : Op1 := fun st x => ((asLst st x).bind ints?).map fun bs => .int bs.sum
def fMax : Op1 := fun st x => (((asLst st x).bind ints?).bind maxL).map .int
def fList : Op1 := fun st x => (asSeq st x).map .lst
def fTuple : Op1 := fun st x => (asSeq st x).map .tup
def fRepr : Op1 := fun _ x => match toP x with
  | some p => omust (p.showable = true ∧ p.shown.length ≤ sizeLine ∧ p.depth ≤ 60) (some (.str p.shown))
  | none => none

/-- a class that is asked for -/
inductive Cl where
  | int | bool | str | list | tuple | dict
/-- a value's kind -/
inductive Kd where
  | non | bl | int | str | tup | lst | dct
def kdOf (st : Sto) : D → Option Kd
  | .non => some .non | .bl _ => some .bl | .int _ => some .int | .str _ => some .str | .tup _ => some .tup | .lst _ => some .lst | .rol _ => some .lst | .dct _ _ => some .dct
  | .mrf k => match st.get k with
    | some (.lst _) => some .lst
    | some (.dct _ _) => some .dct
    | _ => none
  | _ => none
def isiK : Cl → Kd → Bool
  | .int, .int => true
  | .int, .bl => true
  | .bool, .bl => true
  | .str, .str => true
  | .list, .lst => true
  | .tuple, .tup => true
  | .dict, .dct => true
  | _, _ => false
/-- the class of an instance; kn: the exceptions' classes that are known, ki: the others -/
def instOf (kn ki : List Str) (st : Sto) : D → Option Str
  | .exn c _ _ => if c ∈ kn then some c else none
  | .ins c _ _ => if c ∈ ki then some c else none
  | .mrf k => match st.get k with
    | some (.obj c _ _) => if c ∈ ki then some c else none
    | _ => none
  | _ => none
/-- isinstance(x, built-in classes) -/
def fIsi (kn ki : List Str) (cs : List Cl) : Op1 := fun st x => match kdOf st x with
  | some k => some (.bl (cs.any fun c => isiK c k))
  | none => (instOf kn ki st x).map fun _ => .bl false
/-- isinstance(x, C), C an own class; su: those below it -/
def fIsc (kn ki su : List Str) : Op1 := fun st x => match kdOf st x with
  | some _ => some (.bl false)
  | none => (instOf kn ki st x).map fun c => .bl (decide (c ∈ su))

/-! ### pieces of a program -/
inductive Tg where
  | nm (i : Nat) | tup (ts : List Tg)
/-- what the slots hold -/
abbrev En := List (Option D)
abbrev Ev (α : Type) := En → Sto → R α
def wipeE (env : En) : List Nat → En
  | [] => env
  | v :: vs => (wipeE env vs).set v none
mutual
def bindT : Tg → D → En → Option En
  | .nm i, d, env => some (env.set i (some d))
  | .tup ts, .tup ds, env => bindTs ts ds env
  | .tup ts, .lst ds, env => bindTs ts ds env
  | .tup _, _, _ => none
def bindTs : List Tg → List D → En → Option En
  | [], [], env => some env
  | t :: ts, d :: ds, env => (bindT t d env).bind fun env => bindTs ts ds env
  | _, _, _ => none
end
/-- what is walked -/
def itemsOf (st : Sto) : D → Option (List D)
  | .lst xs => some xs
  | .tup xs => some xs
  | .rol xs => some xs
  | .str x => some (x.cps.toList.map fun c => .str ⟨#[c]⟩)
  | _ => none
def rangeD (n : Nat) : List D := (List.range n).map fun i => .int (i : Nat)
/-- one comprehension's turns: acc holds what is made so far -/
def compR (tg : Tg) (env : En) (tests : Ev Bool) (elt : Ev D) : List D → List D → Sto → R (List D)
  | acc, [], st => .ok acc st
  | acc, d :: ds, st => may (bindT tg d env) fun env' => (tests env' st).bind fun c st =>
      if c then (elt env' st).bind fun y st => must (acc.length < sizeLine) (compR tg env tests elt (acc ++ [y]) ds st) else compR tg env tests elt acc ds st
/-- a living list of the store -/
def liveM (st : Sto) : D → Bool
  | .mrf k => match st.get k with
    | some (.lst _) => true
    | _ => false
  | _ => false
def lkF (f : Str) : List Str → List D → Option D
  | n :: ns, d :: ds => if f = n then some d else lkF f ns ds
  | _, _ => none
/-- x.f -/
def fFld (kn ki : List Str) (f : Str) : Op1 := fun st x => match x with
  | .exn c ns ds => if c ∈ kn then lkF f ns ds else none
  | .ins c ns ds => if c ∈ ki then lkF f ns ds else none
  | .mrf k => match st.get k with
    | some (.obj c ns ds) => if c ∈ ki then lkF f ns ds else none
    | _ => none
  | _ => none
/-- o.append(d), o.pop(i): o a thing of the store -/
def appD (st : Sto) (o d : D) : Option Sto := match o with
  | .mrf k => match st.get k with
    | some (.lst xs) => if xs.length < sizeLine then some (st.set k (.lst (xs ++ [d]))) else none
    | _ => none
  | _ => none
def popD (st : Sto) (o i : D) : Option (D × Sto) := match o, i with
  | .mrf k, .int j => match st.get k with
    | some (.lst xs) => (ixN xs.length j).bind fun n => if xs.length < 9223372036854775808 then (xs[n]?).map fun d => (d, st.set k (.lst (xs.eraseIdx n))) else none
    | _ => none
  | _, _ => none
/-- the calls of defs -/
abbrev Ca := Nat → List D → Sto → R D
def xVar (i : Nat) : Ev D := fun env st => match env[i]? with
  | some (some d) => .ok d st
  | _ => .stuck
def xLit (d : D) : Ev D := fun _ st => .ok d st
def x2 (g : Op2) (a b : Ev D) : Ev D := fun env st => (a env st).bind fun x st => (b env st).bind fun y st => may (g st x y) fun d => .ok d st
def xCmp (c : Cm2) (a b : Ev D) : Ev D := x2 (cmpD c) a b
def xChain (o o' : Cm2) (a b c : Ev D) : Ev D := fun env st => (a env st).bind fun x st => (b env st).bind fun y st => may (o st x y) fun r =>
  if r then (c env st).bind fun z st => may (o' st y z) fun r => .ok (.bl r) st else .ok (.bl false) st
def xAnd (a b : Ev D) : Ev D := fun env st => (a env st).bind fun x st => may (truth st x) fun r => if r then b env st else .ok x st
def xOr (a b : Ev D) : Ev D := fun env st => (a env st).bind fun x st => may (truth st x) fun r => if r then .ok x st else b env st
def xNot (a : Ev D) : Ev D := fun env st => (a env st).bind fun x st => may (truth st x) fun r => .ok (.bl (!r)) st
def xNeg (a : Ev D) : Ev D := fun env st => (a env st).bind fun x st => may (asI x) fun i => .ok (.int (-i)) st
def xIfe (c a b : Ev D) : Ev D := fun env st => (c env st).bind fun x st => may (truth st x) fun r => if r then a env st else b env st
def xNil : Ev (List D) := fun _ st => .ok [] st
def xCons (a : Ev D) (r : Ev (List D)) : Ev (List D) := fun env st => (a env st).bind fun d st => (r env st).bind fun ds st => .ok (d :: ds) st
def xAp (a b : Ev (List D)) : Ev (List D) := fun env st => (a env st).bind fun ds st => (b env st).bind fun es st => .ok (ds ++ es) st
/-- some of a row, by their places -/
def pickN {α : Type} (l : List α) : List Nat → List α
  | [] => []
  | i :: r => match l[i]? with
    | some x => x :: pickN l r
    | none => pickN l r
def xSel (sel : List Nat) (es : Ev (List D)) : Ev (List D) := fun env st => (es env st).bind fun ds st => .ok (pickN ds sel) st
def xTup (es : Ev (List D)) : Ev D := fun env st => (es env st).bind fun ds st => must (ds.length ≤ sizeLine) (.ok (.tup ds) st)
def xLst (es : Ev (List D)) : Ev D := fun env st => (es env st).bind fun ds st => must (ds.length ≤ sizeLine) (.ok (.lst ds) st)
def xMlst (es : Ev (List D)) : Ev D := fun env st => (es env st).bind fun ds st => must (ds.length ≤ sizeLine) (.ok (.mrf st.n) (st.new (.lst ds)))
def xMcopy (a : Ev D) : Ev D := fun env st => (a env st).bind fun x st => may (asSeq st x) fun xs => .ok (.mrf st.n) (st.new (.lst xs))
def xIx (a b : Ev D) : Ev D := x2 ixD a b
def xONone : Ev (Option Int) := fun _ st => .ok none st
def xOSome (a : Ev D) : Ev (Option Int) := fun env st => (a env st).bind fun x st => may (asI x) fun i => .ok (some i) st
def xSl (a : Ev D) (lo hi : Ev (Option Int)) : Ev D := fun env st => (a env st).bind fun x st => (lo env st).bind fun l st => (hi env st).bind fun h st => may (slD st x l h) fun d => .ok d st
def xCall (call : Ca) (f : Nat) (es : Ev (List D)) : Ev D := fun env st => (es env st).bind fun ds st => call f ds st
def xFn (g : Op1) (a : Ev D) : Ev D := fun env st => (a env st).bind fun x st => may (g st x) fun d => .ok d st
/-- all tests -/
def qNil : Ev Bool := fun _ st => .ok true st
def qCons (a : Ev D) (r : Ev Bool) : Ev Bool := fun env st => (a env st).bind fun d st => may (truth st d) fun b => if b then r env st else .ok false st
/-- pairs, as many as both have -/
def zip0 : List D → List D → List D
  | x :: xs, y :: ys => .tup [x, y] :: zip0 xs ys
  | _, _ => []
def lstOf : D → Option (List D)
  | .rol xs => some xs
  | .lst xs => some xs
  | _ => none
/-- both lists, or both tuples -/
def zip2 (x y : D) : Option (List D) := match asTup x, asTup y with
  | some xs, some ys => some (zip0 xs ys)
  | none, none => (lstOf x).bind fun xs => (lstOf y).map fun ys => zip0 xs ys
  | _, _ => none
def xZcomp (own : List Nat) (tg : Tg) (a b : Ev D) (cs : Ev Bool) (e : Ev D) : Ev D := fun env st => (a env st).bind fun x st => (b env st).bind fun y st => may (zip2 x y) fun ds =>
  ((compR tg (wipeE env own) cs e [] ds st).calm).bind fun ys st => .ok (.lst ys) st
def xComp (own : List Nat) (tg : Tg) (it : Ev D) (cs : Ev Bool) (e : Ev D) : Ev D := fun env st => (it env st).bind fun x st => may (itemsOf st x) fun ds =>
  ((compR tg (wipeE env own) cs e [] ds st).calm).bind fun ys st => .ok (.lst ys) st
def xRcomp (own : List Nat) (tg : Tg) (n : Ev D) (cs : Ev Bool) (e : Ev D) : Ev D := fun env st => (n env st).bind fun x st => may (asI x) fun j => must (-(2 ^ 62) ≤ j ∧ j < 2 ^ 62)
  (((compR tg (wipeE env own) cs e [] (rangeD j.toNat) st).calm).bind fun ys st => .ok (.lst ys) st)
def xApp (o e : Ev D) : Ev D := fun env st => (o env st).bind fun x st => must (liveM st x = true) ((e env st).bind fun d st => may (appD st x d) fun st' => .ok .non st')
def xPopAt (o i : Ev D) : Ev D := fun env st => (o env st).bind fun x st => must (liveM st x = true) ((i env st).bind fun y st => may (popD st x y) fun p => .ok p.1 p.2)

/-- the instance that was made, changed no more -/
def madeD (st : Sto) (k : Nat) : Option (D × Sto) := match st.get k with
  | some (.obj c ns ds) => some (.ins c ns ds, st.del k)
  | _ => none
/-- C(..): a new thing, its __init__ -/
def mkR (call : Ca) (c : Str) (f : Nat) (sel : List Nat) (ds : List D) (st : Sto) : R D := match call f (pickN (.mrf st.n :: ds) sel) (st.new (.obj c [] [])) with
  | .ok .non st' => .ok (.mrf st.n) st'
  | .exc c ns xs st' => .exc c ns xs (st'.cut st.th.length)
  | _ => .stuck
/-- .. and stays in the store -/
def xMkM (call : Ca) (c : Str) (f : Nat) (sel : List Nat) (es : Ev (List D)) : Ev D := fun env st => (es env st).bind fun ds st => mkR call c f sel ds st
/-- .. and is changed no more -/
def xMk (call : Ca) (c : Str) (f : Nat) (sel : List Nat) (es : Ev (List D)) : Ev D := fun env st => (es env st).bind fun ds st => (mkR call c f sel ds st).bind fun d st => match d with
  | .mrf k => may (madeD st k) fun p => .ok p.1 p.2
  | _ => .stuck
/-- the class of an instance -/
def clsD (st : Sto) : D → Option (Str × List Str)
  | .ins c ns _ => some (c, ns)
  | .mrf k => match st.get k with
    | some (.obj c ns _) => some (c, ns)
    | _ => none
  | _ => none
/-- the def of a class, by its name -/
def lkM (c : Str) : List (Str × Nat × List Nat) → Option (Nat × List Nat)
  | [] => none
  | (c', p) :: r => if c = c' then some p else lkM c r
/-- o.m(..) -/
def xMeth (call : Ca) (m : Str) (tbl : List (Str × Nat × List Nat)) (o : Ev D) (es : Ev (List D)) : Ev D := fun env st => (o env st).bind fun x st => may (clsD st x) fun cn => must (m ∉ cn.2) (may (lkM cn.1 tbl) fun p => (es env st).bind fun ds st => call p.1 (pickN (x :: ds) p.2) st)

/-- x == y (neg: x != y), x perhaps an instance whose class has its own ==; kn, ki: the known classes of y -/
def oEq (call : Ca) (neg : Bool) (tbl : List (Str × Nat × List Nat)) (kn ki : List Str) (st : Sto) (x y : D) : R D := match clsD st x with
  | none => may (if neg then cNe st x y else cEq st x y) fun r => .ok (.bl r) st
  | some cn => may (lkM cn.1 tbl) fun p => must ((kdOf st y).isSome = true ∨ (instOf kn ki st y).isSome = true) ((call p.1 (pickN [x, y] p.2) st).bind fun d st => match d with
    | .bl r => .ok (.bl (if neg then !r else r)) st
    | _ => .stuck)
def x2R (g : Sto → D → D → R D) (a b : Ev D) : Ev D := fun env st => (a env st).bind fun x st => (b env st).bind fun y st => (g st x y).calm
/-- len(x), bool(x) of an instance whose class says so -/
def oLen (call : Ca) (tbl : List (Str × Nat × List Nat)) (st : Sto) (x : D) : R D := match clsD st x with
  | none => may (fLen st x) fun d => .ok d st
  | some cn => may (lkM cn.1 tbl) fun p => (call p.1 (pickN [x] p.2) st).bind fun d st => match d with
    | .int i => must (0 ≤ i ∧ i < 2 ^ 63) (.ok (.int i) st)
    | _ => .stuck
/-- truth -/
def oBool (call : Ca) (tbl : List (Str × Nat × List Nat)) (st : Sto) (x : D) : R D := match clsD st x with
  | none => may (truth st x) fun b => .ok (.bl b) st
  | some cn => may (lkM cn.1 tbl) fun p => (call p.1 (pickN [x] p.2) st).bind fun d st => match d with
    | .bl b => .ok (.bl b) st
    | _ => .stuck
def x1R (g : Sto → D → R D) (a : Ev D) : Ev D := fun env st => (a env st).bind fun x st => (g st x).calm

/-! ### statements -/
/-- o[i] = v -/
def putD (st : Sto) (o i v : D) : Option Sto := match o, i with
  | .mrf k, .int j => match st.get k with
    | some (.lst xs) => (ixN xs.length j).map fun n => st.set k (.lst (xs.set n v))
    | _ => none
  | _, _ => none
def addN (f : Str) : List Str → List Str
  | [] => [f]
  | n :: ns => if n = f then n :: ns else n :: addN f ns
def putL {α : Type} (f : Str) (y : α) : List Str → List α → List α
  | n :: ns, x :: xs => if n = f then y :: xs else x :: putL f y ns xs
  | _, _ => [y]
/-- o.f = d -/
def fsetD (ki : List Str) (f : Str) (st : Sto) (x d : D) : Option Sto := match x with
  | .mrf k => match st.get k with
    | some (.obj c ns ds) => if c ∈ ki ∧ ns.length < 900 then some (st.set k (.obj c (addN f ns) (putL f d ns ds))) else none
    | _ => none
  | _ => none
/-- a thing of the store as a frozen value -/
def stillD (st : Sto) (k : Nat) : Option D := match st.get k with
  | some (.lst xs) => some (.lst xs)
  | some (.dct ks vs) => some (.dct ks vs)
  | _ => none
/-- what stands in slot i of the store is changed no more -/
def frzD (env : En) (st : Sto) (i : Nat) : Option (En × Sto) := match env[i]? with
  | some (some (.mrf k)) => (stillD st k).map fun d => (env.set i (some d), st.del k)
  | _ => none
/-- a field of what stands in slot i is changed no more -/
def frzF (env : En) (st : Sto) (i : Nat) (f : Str) : Option Sto := match env[i]? with
  | some (some (.mrf k)) => match st.get k with
    | some (.obj c ns ds) => match lkF f ns ds with
      | some (.mrf j) => if j = k then none else (stillD st j).map fun d => (st.del j).set k (.obj c ns (putL f d ns ds))
      | _ => none
    | _ => none
  | _ => none
/-- .. is forgotten -/
def dropD (env : En) (st : Sto) (i : Nat) : Sto := match env[i]? with
  | some (some (.mrf k)) => st.del k
  | _ => st
inductive Fl where
  | next (env : En) | ret (d : D) | brk (env : En) | cont (env : En)
abbrev Ex := En → Sto → R Fl
def forR (tg : Tg) (body : Ex) : En → List D → Sto → R Fl
  | env, [], st => .ok (.next env) st
  | env, d :: ds, st => may (bindT tg d env) fun env => (body env st).bind fun f st => match f with
    | .next env => forR tg body env ds st
    | .cont env => forR tg body env ds st
    | .brk env => .ok (.next env) st
    | .ret d => .ok (.ret d) st
def whileR (test : Ev Bool) (body : Ex) : Nat → Ex
  | 0, _, _ => .stuck
  | n + 1, env, st => (test env st).bind fun b st => if b then (body env st).bind fun f st => match f with
    | .next env => whileR test body n env st
    | .cont env => whileR test body n env st
    | .brk env => .ok (.next env) st
    | .ret d => .ok (.ret d) st
    else .ok (.next env) st
/-- behind a statement the next ones -/
def goOn (ss : Ex) (f : Fl) (st : Sto) : R Fl := match f with
  | .next env => ss env st
  | f => .ok f st
def sNil : Ex := fun env st => .ok (.next env) st
def sCons (s ss : Ex) : Ex := fun env st => (s env st).bind fun f st => goOn ss f st
def sSet (t : Tg) (e : Ev D) : Ex := fun env st => (e env st).bind fun d st => may (bindT t d env) fun env => .ok (.next env) st
def sPar (i j : Nat) (a b : Ev D) : Ex := fun env st => (a env st).bind fun x st => (b env st).bind fun y st => .ok (.next ((env.set i (some x)).set j (some y))) st
def sIf (c : Ev D) (a b : Ex) : Ex := fun env st => (c env st).bind fun x st => may (truth st x) fun r => if r then a env st else b env st
def sRet (e : Ev D) : Ex := fun env st => (e env st).bind fun d st => .ok (.ret d) st
def sRetN : Ex := fun _ st => .ok (.ret .non) st
def sFor (t : Tg) (it : Ev D) (b : Ex) : Ex := fun env st => (it env st).bind fun x st => may (itemsOf st x) fun ds => forR t b env ds st
def sRange (t : Tg) (n : Ev D) (b : Ex) : Ex := fun env st => (n env st).bind fun x st => may (asI x) fun j => must (-(2 ^ 62) ≤ j ∧ j < 2 ^ 62) (forR t b env (rangeD j.toNat) st)
def tVal (e : Ev D) : Ev Bool := fun env st => (e env st).bind fun x st => may (truth st x) fun r => .ok r st
def sWhile (e : Ev D) (b : Ex) : Ex := whileR (tVal e) b 1000000
def sExp (e : Ev D) : Ex := fun env st => (e env st).bind fun _ st => .ok (.next env) st
def sPass : Ex := fun env st => .ok (.next env) st
def sBrk : Ex := fun env st => .ok (.brk env) st
def sCont : Ex := fun env st => .ok (.cont env) st
def sPut (o i e : Ev D) : Ex := fun env st => (e env st).bind fun v st => (o env st).bind fun o st => (i env st).bind fun i st => may (putD st o i v) fun st' => .ok (.next env) st'
def sFrz (i : Nat) : Ex := fun env st => may (frzD env st i) fun p => .ok (.next p.1) p.2
def sFset (ki : List Str) (f : Str) (o e : Ev D) : Ex := fun env st => (e env st).bind fun d st => (o env st).bind fun x st => may (fsetD ki f st x d) fun st' => .ok (.next env) st'
def sFrzF (i : Nat) (f : Str) : Ex := fun env st => may (frzF env st i f) fun st' => .ok (.next env) st'
def sDrop (i : Nat) : Ex := fun env st => .ok (.next env) (dropD env st i)
def sRaise (c : Str) (ns : List Str) (es : Ev (List D)) : Ex := fun env st => (es env st).bind fun ds st => .exc c ns ds st

/-- a def: how many parameters, how many slots, its body -/
structure Df where
  ps : Nat
  ns : Nat
  body : Ca → Ex
/-- what a body's end hands back; what is raised leaves no new things -/
def resOf (m : Nat) : R Fl → R D
  | .stuck => .stuck
  | .ok (.next _) st => .ok .non st
  | .ok (.ret d) st => .ok d st
  | .ok _ _ => .stuck
  | .exc c ns ds st => .exc c ns ds (st.cut m)
def startE (n : Nat) (ds : List D) : En := ds.map some ++ List.replicate (n - ds.length) none
def runD (d : Df) (call : Ca) (ds : List D) (st : Sto) : R D := if ds.length = d.ps then resOf st.th.length (d.body call (startE d.ns ds) st) else .stuck
def evCall (T : List Df) : Nat → Ca
  | 0, _, _, _ => .stuck
  | n + 1, f, ds, st => match T[f]? with
    | some d => runD d (evCall T n) ds st
    | none => .stuck
end Qv
end
section
set_option Elab.async false
set_option autoImplicit false
set_option linter.all false
set_option maxRecDepth 100000
set_option maxHeartbeats 2000000
/-! Qv: how values stand in the heap. -/
namespace Qv
open PySem L2

/-- where the store's things stood or stand, by their numbers; what is frozen -/
structure Wd where
  th : List Addr
  fz : Addr → Prop

theorem nef {w : Wd} {a b : Addr} (h : ¬ w.fz a) (f : w.fz b) : b ≠ a := fun z => h (by rw [← z]; exact f)
theorem net {w : Wd} {a b : Addr} (h : a ∉ w.th) (f : b ∈ w.th) : b ≠ a := fun z => h (by rw [← z]; exact f)
/-- a sequence of the written part -/
def KL (K : PySem.W.Frag) (a : Addr) (vs : List V) : Prop := SqL K (fun _ => none) a vs
def KT (K : PySem.W.Frag) (a : Addr) (vs : List V) : Prop := SqT K (fun _ => none) a vs
theorem KL.sq {K : PySem.W.Frag} {a : Addr} {vs : List V} {H : Hp} (h : KL K a vs) : SqL K H a vs := by
  rcases h with (h | ⟨o, h⟩) | h
  · cases h
  · cases h
  · exact .inr h
theorem KT.sq {K : PySem.W.Frag} {a : Addr} {vs : List V} {H : Hp} (h : KT K a vs) : SqT K H a vs := by
  rcases h with (h | ⟨o, h⟩) | h
  · cases h
  · cases h
  · exact .inr h

/-- a dict's entries: keys (as keys, as values), values -/
inductive Ents (w : World) : List NestedKey → List V → List V → List DictEntry → Prop where
  | nil : Ents w [] [] [] []
  | cons {k : NestedKey} {x y : V} {e : DictEntry} {ks : List NestedKey} {xs ys : List V} {es : List DictEntry} : e.hash = k.hash w → RelV x e.key → RelV y e.val → Ents w ks xs ys es → Ents w (k :: ks) (x :: xs) (y :: ys) (e :: es)
/-- at a: a dict -/
def dcq (w : World) (a : Addr) (ks : List NestedKey) (xs ys : List V) : HO := .ext fun h => (a == sysModules) = false ∧ ∃ o es ep, h.get? a = some o ∧ o.ExactDict ∧ o.data = .dict es ep ∧ Ents w ks xs ys es.toList

mutual
inductive Dv (K : Kx) (w : Wd) (H : Hp) : V → D → Prop where
  | non : Dv K w H .non .non
  | bl (b : Bool) : Dv K w H (.bl b) (.bl b)
  | int (i : Int) : Dv K w H (.int i) (.int i)
  | str (x : Str) : Dv K w H (.str x) (.str x)
  | tup {a : Addr} {vs : List V} {ds : List D} : w.fz a → H a = some (.tup vs) → Dvs K w H vs ds → Dv K w H (.ref a) (.tup ds)
  | ktup {a : Addr} {vs : List V} {ds : List D} : KT K.K a vs → Dvs K w H vs ds → Dv K w H (.ref a) (.tup ds)
  | lst {a : Addr} {vs : List V} {ds : List D} : w.fz a → H a = some (.lst vs) → Dvs K w H vs ds → Dv K w H (.ref a) (.lst ds)
  | rol {a : Addr} {vs : List V} {ds : List D} {o : Obj} : w.fz a → H a = some (.frz o (.lst vs)) → Dvs K w H vs ds → Dv K w H (.ref a) (.rol ds)
  | krol {a : Addr} {vs : List V} {ds : List D} : KL K.K a vs → Dvs K w H vs ds → Dv K w H (.ref a) (.rol ds)
  | dct0 {a : Addr} : w.fz a → H a = some (.dK []) → Dv K w H (.ref a) (.dct [] [])
  | dct {a : Addr} {nk : List NestedKey} {xs ys : List V} {ks vs : List D} : w.fz a → H a = some (dcq K.w a nk xs ys) → toKs ks = some nk → nk.Nodup → uniD ks = true → Dvs K w H xs ks → Dvs K w H ys vs → Dv K w H (.ref a) (.dct ks vs)
  | mrf {k : Nat} {a : Addr} : w.th[k]? = some a → Dv K w H (.ref a) (.mrf k)
  | exn {a dd : Addr} {c : Str} {ns : List Str} {vs : List V} {ds : List D} : w.fz a → H a = some (exq a (.ref (He.ga K.K c)) (some dd)) → w.fz dd → H dd = some (.xd (ns.zip vs)) → ns.length = ds.length → Dvs K w H vs ds → Dv K w H (.ref a) (.exn c ns ds)
  | ins {a dx : Addr} {c : Str} {ns : List Str} {vs : List V} {ds : List D} : w.fz a → H a = some (.ins (He.ga K.K c) dx (ns.zip vs)) → ns.length = ds.length → Dvs K w H vs ds → Dv K w H (.ref a) (.ins c ns ds)
inductive Dvs (K : Kx) (w : Wd) (H : Hp) : List V → List D → Prop where
  | nil : Dvs K w H [] []
  | cons {v : V} {vs : List V} {d : D} {ds : List D} : Dv K w H v d → Dvs K w H vs ds → Dvs K w H (v :: vs) (d :: ds)
end

/-- what was there is there -/
structure Le (w : Wd) (H : Hp) (w' : Wd) (H' : Hp) : Prop where
  th : ∀ (k : Nat) (a : Addr), w.th[k]? = some a → w'.th[k]? = some a
  fz : ∀ a, w.fz a → w'.fz a
  ob : ∀ a o, w.fz a → H a = some o → H' a = some o
/-- a run from here to there; tables of code objects may grow -/
structure Ext (w : Wd) (H : Hp) (w' : Wd) (H' : Hp) : Prop extends Le w H w' H' where
  keep : ∀ a o, H a = some o → a ∉ w.th → (∀ ps, o ≠ .tbl ps) → H' a = some o
  sm : ∀ a, H a ≠ none → H' a ≠ none
  tb : ∀ a ps, H a = some (.tbl ps) → ∃ ps', H' a = some (.tbl ps')
  newF : ∀ a, w'.fz a → w.fz a ∨ a ∈ w.th ∨ H a = none ∨ ∃ q, H a = some (LamX.CodeO a q)
  newT : ∀ a, a ∈ w'.th → a ∈ w.th ∨ H a = none
theorem Le.refl (w : Wd) (H : Hp) : Le w H w H := ⟨fun _ _ h => h, fun _ h => h, fun _ _ _ h => h⟩
theorem Le.trans {w w1 w2 : Wd} {H H1 H2 : Hp} (a : Le w H w1 H1) (b : Le w1 H1 w2 H2) : Le w H w2 H2 :=
  ⟨fun k x h => b.th k x (a.th k x h), fun x h => b.fz x (a.fz x h), fun x o h e => b.ob x o (a.fz x h) (a.ob x o h e)⟩
theorem Ext.refl (w : Wd) (H : Hp) : Ext w H w H := ⟨Le.refl w H, fun _ _ h _ _ => h, fun _ h => h, fun _ ps h => ⟨ps, h⟩, fun _ h => .inl h, fun _ h => .inl h⟩
theorem mem_th {w w' : Wd} {H H' : Hp} (e : Le w H w' H') {a : Addr} (h : a ∈ w.th) : a ∈ w'.th := by
  obtain ⟨k, hk⟩ := List.getElem?_of_mem h
  exact List.mem_of_getElem? (e.th k a hk)
theorem Ext.trans {w w1 w2 : Wd} {H H1 H2 : Hp} (a : Ext w H w1 H1) (b : Ext w1 H1 w2 H2) : Ext w H w2 H2 := by
  have back : ∀ x, H1 x = none → H x = none := fun x h => by
    cases e : H x with
    | none => rfl
    | some o => exact absurd h (a.sm x (by rw [e]; intro z; cases z))
  refine ⟨a.toLe.trans b.toLe, fun x o h n t => ?_, fun x h => b.sm x (a.sm x h), fun x ps h => let ⟨p1, h1⟩ := a.tb x ps h; b.tb x p1 h1, fun x h => ?_, fun x h => ?_⟩
  · have h1 := a.keep x o h n t
    refine b.keep x o h1 (fun m => ?_) t
    rcases a.newT x m with m | m
    · exact n m
    · rw [m] at h; cases h
  · rcases b.newF x h with h | h | h | ⟨q, h⟩
    · exact a.newF x h
    · rcases a.newT x h with h | h
      · exact .inr (.inl h)
      · exact .inr (.inr (.inl h))
    · exact .inr (.inr (.inl (back x h)))
    · cases e : H x with
      | none => exact .inr (.inr (.inl rfl))
      | some o =>
        by_cases m : x ∈ w.th
        · exact .inr (.inl m)
        · by_cases t : ∀ ps, o ≠ .tbl ps
          · rw [a.keep x o e m t] at h; exact .inr (.inr (.inr ⟨q, h⟩))
          · obtain ⟨ps, t⟩ := Classical.not_forall.mp t
            have t := Classical.not_not.mp t
            subst t
            obtain ⟨p1, h1⟩ := a.tb x ps e
            rw [h1] at h
            exact absurd (Option.some.inj h).symm (LamX.codeO_ne p1)
  · rcases b.newT x h with h | h
    · exact a.newT x h
    · exact .inr (back x h)
mutual
theorem Dv.mono {K : Kx} {w w' : Wd} {H H' : Hp} (e : Le w H w' H') : ∀ (d : D) (v : V), Dv K w H v d → Dv K w' H' v d
  | .non, _, h => by cases h; exact .non
  | .bl _, _, h => by cases h; exact .bl _
  | .int _, _, h => by cases h; exact .int _
  | .str _, _, h => by cases h; exact .str _
  | .tup ds, _, h => by
    cases h with
    | tup f o r => exact .tup (e.fz _ f) (e.ob _ _ f o) (Dvs.mono e ds _ r)
    | ktup k r => exact .ktup k (Dvs.mono e ds _ r)
  | .lst ds, _, h => by
    cases h with
    | lst f o r => exact .lst (e.fz _ f) (e.ob _ _ f o) (Dvs.mono e ds _ r)
  | .rol ds, _, h => by
    cases h with
    | rol f o r => exact .rol (e.fz _ f) (e.ob _ _ f o) (Dvs.mono e ds _ r)
    | krol k r => exact .krol k (Dvs.mono e ds _ r)
  | .dct ks vs, _, h => by
    cases h with
    | dct0 f o => exact .dct0 (e.fz _ f) (e.ob _ _ f o)
    | dct f o k n u r s => exact .dct (e.fz _ f) (e.ob _ _ f o) k n u (Dvs.mono e ks _ r) (Dvs.mono e vs _ s)
  | .mrf k, _, h => by
    cases h with
    | mrf o => exact .mrf (e.th _ _ o)
  | .exn c ns ds, _, h => by
    cases h with
    | exn f o f2 o2 l r => exact .exn (e.fz _ f) (e.ob _ _ f o) (e.fz _ f2) (e.ob _ _ f2 o2) l (Dvs.mono e ds _ r)
  | .ins c ns ds, _, h => by
    cases h with
    | ins f o l r => exact .ins (e.fz _ f) (e.ob _ _ f o) l (Dvs.mono e ds _ r)
theorem Dvs.mono {K : Kx} {w w' : Wd} {H H' : Hp} (e : Le w H w' H') : ∀ (ds : List D) (vs : List V), Dvs K w H vs ds → Dvs K w' H' vs ds
  | [], _, h => by cases h; exact .nil
  | d :: ds, _, h => by
    cases h with
    | cons a b => exact .cons (Dv.mono e d _ a) (Dvs.mono e ds _ b)
end
theorem Dv.le {K : Kx} {w w' : Wd} {H H' : Hp} {v : V} {d : D} (h : Dv K w H v d) (e : Le w H w' H') : Dv K w' H' v d := Dv.mono e d v h
theorem Dvs.le {K : Kx} {w w' : Wd} {H H' : Hp} {v : List V} {d : List D} (h : Dvs K w H v d) (e : Le w H w' H') : Dvs K w' H' v d := Dvs.mono e d v h
theorem Dvs.length {K : Kx} {w : Wd} {H : Hp} : ∀ {vs : List V} {ds : List D}, Dvs K w H vs ds → vs.length = ds.length
  | _, _, .nil => rfl
  | _, _, .cons _ r => congrArg (· + 1) (Dvs.length r)
theorem Dvs.get {K : Kx} {w : Wd} {H : Hp} : ∀ {vs : List V} {ds : List D} {i : Nat} {d : D}, Dvs K w H vs ds → ds[i]? = some d → ∃ v, vs[i]? = some v ∧ Dv K w H v d
  | _, _, i, d, .nil, e => by simp at e
  | _, _, 0, d, .cons a r, e => ⟨_, rfl, by simp at e; subst e; exact a⟩
  | _, _, i + 1, d, .cons a r, e => by
    obtain ⟨v, h1, h2⟩ := Dvs.get (i := i) r (by simpa using e)
    exact ⟨v, by simpa using h1, h2⟩
theorem Dvs.append {K : Kx} {w : Wd} {H : Hp} : ∀ {vs us : List V} {ds es : List D}, Dvs K w H vs ds → Dvs K w H us es → Dvs K w H (vs ++ us) (ds ++ es)
  | _, _, _, _, .nil, s => s
  | _, _, _, _, .cons a r, s => .cons a (r.append s)
theorem Dvs.take {K : Kx} {w : Wd} {H : Hp} : ∀ {vs : List V} {ds : List D} (n : Nat), Dvs K w H vs ds → Dvs K w H (vs.take n) (ds.take n)
  | _, _, 0, _ => by simp; exact .nil
  | _, _, n + 1, .nil => .nil
  | _, _, n + 1, .cons a r => .cons a (r.take n)
theorem Dvs.drop {K : Kx} {w : Wd} {H : Hp} : ∀ {vs : List V} {ds : List D} (n : Nat), Dvs K w H vs ds → Dvs K w H (vs.drop n) (ds.drop n)
  | _, _, 0, h => h
  | _, _, n + 1, .nil => .nil
  | _, _, n + 1, .cons a r => Dvs.drop n r
theorem Dvs.set {K : Kx} {w : Wd} {H : Hp} {v : V} {d : D} (h : Dv K w H v d) : ∀ {vs : List V} {ds : List D} (n : Nat), Dvs K w H vs ds → Dvs K w H (vs.set n v) (ds.set n d)
  | _, _, _, .nil => .nil
  | _, _, 0, .cons a r => .cons h r
  | _, _, n + 1, .cons a r => .cons a (Dvs.set h n r)
theorem Dvs.flat {K : Kx} {w : Wd} {H : Hp} {vs : List V} {ds : List D} (h : Dvs K w H vs ds) : ∀ n : Nat, Dvs K w H (List.replicate n vs).flatten (List.replicate n ds).flatten
  | 0 => .nil
  | n + 1 => by
    rw [List.replicate_succ, List.replicate_succ, List.flatten_cons, List.flatten_cons]
    exact h.append (h.flat n)

/-- the code object of a def, its table, its lambdas' name -/
def ca (K : PySem.W.Frag) (x : Str) : Addr := (He.cT K (x, none)).1
def pa (K : PySem.W.Frag) (x : Str) : Addr := (He.cT K (x, none)).2
def lq (x : Str) : Str := x ++ Str.ofString ".<locals>." ++ Str.ofString "<lambda>"
/-- the table at P: each code object that it tells is frozen and bears the name q -/
def TabF (w : Wd) (H : Hp) (P : Addr) (q : Str) : Prop := ∃ ps : Array Value, H P = some (.tbl ps) ∧ TriplesOk ps.toList ∧ ∀ (pos : Pos) (cv : Value), codeAmong pos ps.toList = some cv → ∃ c, cv = .ref c ∧ w.fz c ∧ H c = some (LamX.CodeO c q)
/-- what stands at a thing of the store -/
def MOk (K : Kx) (w : Wd) (H : Hp) (a : Addr) : MO → Prop
  | .lst ds => ∃ vs, H a = some (.lst vs) ∧ Dvs K w H vs ds
  | .dct ks vs => ∃ nk xs ys, H a = some (dcq K.w a nk xs ys) ∧ toKs ks = some nk ∧ nk.Nodup ∧ uniD ks = true ∧ Dvs K w H xs ks ∧ Dvs K w H ys vs
  | .obj c ns ds => ∃ dx vs, H a = some (.ins (He.ga K.K c) dx (ns.zip vs)) ∧ ns.length = ds.length ∧ Dvs K w H vs ds
theorem TabF.le {w w' : Wd} {H H' : Hp} {P : Addr} {q : Str} (t : TabF w H P q) (e : Le w H w' H') (h : H' P = H P) : TabF w' H' P q := by
  obtain ⟨ps, h1, h2, h3⟩ := t
  refine ⟨ps, h.trans h1, h2, fun pos cv hc => ?_⟩
  obtain ⟨c, e1, e2, e3⟩ := h3 pos cv hc
  exact ⟨c, e1, e.fz c e2, e.ob c _ e2 e3⟩
theorem MOk.le {K : Kx} {w w' : Wd} {H H' : Hp} {a : Addr} {m : MO} (t : MOk K w H a m) (e : Le w H w' H') (h : H' a = H a) : MOk K w' H' a m := by
  cases m with
  | lst ds =>
    obtain ⟨vs, h1, h2⟩ := t
    exact ⟨vs, h.trans h1, h2.le e⟩
  | dct ks vs =>
    obtain ⟨nk, xs, ys, h1, h2, h3, hu, h4, h5⟩ := t
    exact ⟨nk, xs, ys, h.trans h1, h2, h3, hu, h4.le e, h5.le e⟩
  | obj c ns ds =>
    obtain ⟨dx, vs, h1, h2, h3⟩ := t
    exact ⟨dx, vs, h.trans h1, h2, h3.le e⟩
theorem MOk.some {K : Kx} {w : Wd} {H : Hp} {a : Addr} {m : MO} (t : MOk K w H a m) : H a ≠ none := by
  cases m with
  | lst ds => obtain ⟨vs, h1, h2⟩ := t; rw [h1]; intro z; cases z
  | dct ks vs => obtain ⟨nk, xs, ys, h1, _⟩ := t; rw [h1]; intro z; cases z
  | obj c ns ds => obtain ⟨dx, vs, h1, _⟩ := t; rw [h1]; intro z; cases z

namespace Sto
theorem lk_mem {k : Nat} {m : MO} : ∀ {l : List (Nat × MO)}, lk l k = some m → (k, m) ∈ l
  | [], h => by cases h
  | (j, u) :: r, h => by
    have h : (if j = k then Option.some u else lk r k) = some m := h
    by_cases hj : j = k
    · rw [if_pos hj] at h; cases h; subst hj; exact List.mem_cons_self
    · rw [if_neg hj] at h; exact List.mem_cons_of_mem _ (lk_mem h)
theorem mem_pt {k j : Nat} {m u : MO} : ∀ {l : List (Nat × MO)}, (j, u) ∈ pt k m l → (j = k ∧ u = m ∧ ∃ v, (k, v) ∈ l) ∨ (j ≠ k ∧ (j, u) ∈ l)
  | [], h => by cases h
  | (i, v) :: r, h => by
    have h : (j, u) ∈ (if i = k then (k, m) else (i, v)) :: pt k m r := h
    rcases List.mem_cons.mp h with h | h
    · by_cases hi : i = k
      · rw [if_pos hi] at h
        cases h
        exact .inl ⟨rfl, rfl, v, by rw [hi]; exact List.mem_cons_self⟩
      · rw [if_neg hi] at h
        cases h
        exact .inr ⟨hi, List.mem_cons_self⟩
    · rcases mem_pt h with ⟨h1, h2, v', h3⟩ | ⟨h1, h2⟩
      · exact .inl ⟨h1, h2, v', List.mem_cons_of_mem _ h3⟩
      · exact .inr ⟨h1, List.mem_cons_of_mem _ h2⟩
theorem mem_rm {k j : Nat} {u : MO} : ∀ {l : List (Nat × MO)}, (j, u) ∈ rm k l → j ≠ k ∧ (j, u) ∈ l
  | [], h => by cases h
  | (i, v) :: r, h => by
    have h : (j, u) ∈ (if i = k then rm k r else (i, v) :: rm k r) := h
    by_cases hi : i = k
    · rw [if_pos hi] at h
      obtain ⟨h1, h2⟩ := mem_rm h
      exact ⟨h1, List.mem_cons_of_mem _ h2⟩
    · rw [if_neg hi] at h
      rcases List.mem_cons.mp h with h | h
      · cases h; exact ⟨hi, List.mem_cons_self⟩
      · obtain ⟨h1, h2⟩ := mem_rm h
        exact ⟨h1, List.mem_cons_of_mem _ h2⟩
theorem len_pt {k : Nat} {m : MO} : ∀ {l : List (Nat × MO)}, (pt k m l).length = l.length
  | [] => rfl
  | _ :: r => congrArg (· + 1) (len_pt (l := r))
end Sto
theorem MOk.notab {K : Kx} {w : Wd} {H : Hp} {a : Addr} {m : MO} (t : MOk K w H a m) (ps : Array Value) : H a ≠ Option.some (HO.tbl ps) := by
  cases m with
  | lst ds => obtain ⟨vs, h1, h2⟩ := t; rw [h1]; intro z; cases z
  | dct ks vs => obtain ⟨nk, xs, ys, h1, _⟩ := t; rw [h1]; intro z; cases z
  | obj c ns ds => obtain ⟨dx, vs, h1, _⟩ := t; rw [h1]; intro z; cases z
/-- the store stands in the heap -/
structure Good (K : Kx) (w : Wd) (H : Hp) (st : Sto) : Prop where
  len : st.n = w.th.length
  nd : w.th.Nodup
  thIn : ∀ a, a ∈ w.th → H a ≠ none
  fzIn : ∀ a, w.fz a → H a ≠ none
  ob : ∀ (k : Nat) (m : MO), (k, m) ∈ st.th → ∃ a, w.th[k]? = some a ∧ ¬ w.fz a ∧ MOk K w H a m
  tab : ∀ x, x ∈ st.tn → pa K.K x ∉ w.th ∧ ¬ w.fz (pa K.K x) ∧ TabF w H (pa K.K x) (lq x)
  tabs : ∀ a ps, H a = some (.tbl ps) → ∃ x, x ∈ st.tn ∧ a = pa K.K x
section
variable {K : Kx} {w : Wd} {H : Hp} {st : Sto}
theorem Good.get (g : Good K w H st) {k : Nat} {m : MO} (h : st.get k = some m) : ∃ a, w.th[k]? = some a ∧ ¬ w.fz a ∧ MOk K w H a m := g.ob k m (Sto.lk_mem h)
theorem Good.at (g : Good K w H st) {k : Nat} {m : MO} {a : Addr} (h : st.get k = some m) (ha : w.th[k]? = some a) : ¬ w.fz a ∧ MOk K w H a m := by
  obtain ⟨b, h1, h2, h3⟩ := g.get h
  rw [ha] at h1
  cases h1
  exact ⟨h2, h3⟩
theorem Good.uniq (g : Good K w H st) {j k : Nat} {a b : Addr} (h : w.th[j]? = some b) (h' : w.th[k]? = some a) (hj : j ≠ k) : b ≠ a := fun z => by
  subst z
  have i1 := List.getElem?_eq_some_iff.mp h
  have i2 := List.getElem?_eq_some_iff.mp h'
  exact hj ((List.getElem_inj g.nd).mp (i1.2.trans i2.2.symm))
/-- no table -/
theorem Good.tbn (g : Good K w H st) {x : Str} (h : x ∈ st.tn) : ∃ ps, H (pa K.K x) = some (.tbl ps) := let ⟨_, _, ps, h1, _⟩ := g.tab x h; ⟨ps, h1⟩
theorem Good.fz_nt (g : Good K w H st) {a : Addr} (h : w.fz a) (ps : Array Value) : H a ≠ some (.tbl ps) := fun z => by
  obtain ⟨x, h1, h2⟩ := g.tabs a ps z
  subst h2
  exact (g.tab x h1).2.1 h
theorem Good.th_nt (g : Good K w H st) {a : Addr} (h : a ∈ w.th) (ps : Array Value) : H a ≠ some (.tbl ps) := fun z => by
  obtain ⟨x, h1, h2⟩ := g.tabs a ps z
  subst h2
  exact (g.tab x h1).1 h
/-- some things are forgotten -/
theorem Good.less (g : Good K w H st) {st' : Sto} (hn : st'.n = st.n) (ht : st'.tn = st.tn) (h : ∀ p, p ∈ st'.th → p ∈ st.th) : Good K w H st' := ⟨hn.trans g.len, g.nd, g.thIn, g.fzIn, fun k m hm => g.ob k m (h _ hm), by rw [ht]; exact g.tab, by rw [ht]; exact g.tabs⟩
theorem Good.del (g : Good K w H st) (k : Nat) : Good K w H (st.del k) := g.less rfl rfl fun p hp => (Sto.mem_rm (j := p.1) (u := p.2) hp).2
theorem Good.cut (g : Good K w H st) (m : Nat) : Good K w H (st.cut m) := g.less rfl rfl fun p hp => List.mem_of_mem_drop hp
/-- a thing beside is changed -/
theorem Le.upd {a : Addr} {o : HO} (h : ¬ w.fz a) : Le w H w (upd H a o) := ⟨fun _ _ h => h, fun _ h => h, fun b u f e => by
  rw [upd_ne (nef h f)]
  exact e⟩
theorem tab_upd {a : Addr} {o : HO} {st : Sto} (hn : ∀ ps, o ≠ .tbl ps) (h : ∀ b ps, H b = some (.tbl ps) → ∃ x, x ∈ st.tn ∧ b = pa K.K x) : ∀ b ps, L2.upd H a o b = some (.tbl ps) → ∃ x, x ∈ st.tn ∧ b = pa K.K x := fun b ps e => by
  by_cases z : b = a
  · subst z
    rw [upd_same] at e
    exact absurd (Option.some.inj e) (hn ps)
  · rw [upd_ne z] at e
    exact h b ps e
theorem Good.upd (g : Good K w H st) {a : Addr} {o : HO} (h : ¬ w.fz a) (t : a ∉ w.th) (hq : ∀ ps, H a ≠ some (.tbl ps)) (hn : ∀ ps, o ≠ .tbl ps := by intro ps z; cases z) : Good K w (upd H a o) st := by
  refine ⟨g.len, g.nd, fun b m => ?_, fun b m => ?_, fun k m e => ?_, fun x hx => ?_, tab_upd hn g.tabs⟩
  · rw [upd_ne (net t m)]; exact g.thIn b m
  · rw [upd_ne (nef h m)]; exact g.fzIn b m
  · obtain ⟨b, h1, h2, h3⟩ := g.ob k m e
    exact ⟨b, h1, h2, h3.le (Le.upd h) (upd_ne (net t (List.mem_of_getElem? h1)))⟩
  · obtain ⟨h1, h2, h3⟩ := g.tab x hx
    obtain ⟨ps, hp⟩ := g.tbn hx
    exact ⟨h1, h2, h3.le (Le.upd h) (upd_ne fun z => hq ps (by rw [← z]; exact hp))⟩
/-- a new thing, frozen -/
def Wd.frz (w : Wd) (p : Addr) : Wd := ⟨w.th, fun a => w.fz a ∨ a = p⟩
theorem Good.no_fz (g : Good K w H st) {p : Addr} (h : H p = none) : ¬ w.fz p := fun z => g.fzIn p z h
theorem Good.no_th (g : Good K w H st) {p : Addr} (h : H p = none) : p ∉ w.th := fun z => g.thIn p z h
theorem Good.no_tb (g : Good K w H st) {p : Addr} (h : H p = none) (ps : Array Value) : H p ≠ some (.tbl ps) := by rw [h]; intro z; cases z
theorem sm_upd {a p : Addr} {o : HO} (h : H a ≠ none) : L2.upd H p o a ≠ none := by
  by_cases z : a = p
  · rw [z, upd_same]; intro z; cases z
  · rw [upd_ne z]; exact h
theorem Ext.frz (g : Good K w H st) {p : Addr} {o : HO} (h : H p = none) : Ext w H (w.frz p) (L2.upd H p o) := by
  refine ⟨⟨fun _ _ e => e, fun _ e => .inl e, fun a u f e => ?_⟩, fun a u e _ _ => ?_, fun a e => sm_upd e, fun a ps e => ⟨ps, ?_⟩, fun a f => ?_, fun a f => .inl f⟩
  · rw [upd_ne (ne_of_none e h)]; exact e
  · rw [upd_ne (ne_of_none e h)]; exact e
  · rw [upd_ne (ne_of_none e h)]; exact e
  · rcases f with f | f
    · exact .inl f
    · subst f; exact .inr (.inr (.inl h))
theorem Good.frz (g : Good K w H st) {p : Addr} {o : HO} (h : H p = none) (hn : ∀ ps, o ≠ .tbl ps := by intro ps z; cases z) : Good K (w.frz p) (L2.upd H p o) st := by
  have e : Ext w H (w.frz p) (L2.upd H p o) := Ext.frz g h
  refine ⟨g.len, g.nd, fun b m => ?_, fun b m => ?_, fun k m q => ?_, fun x hx => ?_, tab_upd hn g.tabs⟩
  · rw [upd_ne (net (g.no_th h) m)]; exact g.thIn b m
  · rcases m with m | m
    · rw [upd_ne (nef (g.no_fz h) m)]; exact g.fzIn b m
    · subst m; rw [upd_same]; intro z; cases z
  · obtain ⟨b, h1, h2, h3⟩ := g.ob k m q
    refine ⟨b, h1, fun z => ?_, h3.le e.toLe (upd_ne (net (g.no_th h) (List.mem_of_getElem? h1)))⟩
    rcases z with z | z
    · exact h2 z
    · subst z; exact g.no_th h (List.mem_of_getElem? h1)
  · obtain ⟨h1, h2, h3⟩ := g.tab x hx
    obtain ⟨ps, hp⟩ := g.tbn hx
    have ne : pa K.K x ≠ p := ne_of_none hp h
    refine ⟨h1, fun z => ?_, h3.le e.toLe (upd_ne ne)⟩
    rcases z with z | z
    · exact h2 z
    · exact ne z
/-- what stands there is changed no more -/
theorem Good.fix (g : Good K w H st) {p : Addr} (h : H p ≠ none) (t : p ∉ w.th) (hq : ∀ ps, H p ≠ some (.tbl ps)) : Good K (w.frz p) H st := by
  have e : Le w H (w.frz p) H := ⟨fun _ _ e => e, fun _ e => .inl e, fun _ _ _ e => e⟩
  refine ⟨g.len, g.nd, g.thIn, fun b m => ?_, fun k m q => ?_, fun x hx => ?_, g.tabs⟩
  · rcases m with m | m
    · exact g.fzIn b m
    · rw [m]; exact h
  · obtain ⟨b, h1, h2, h3⟩ := g.ob k m q
    refine ⟨b, h1, fun z => ?_, h3.le e rfl⟩
    rcases z with z | z
    · exact h2 z
    · exact t (by rw [← z]; exact List.mem_of_getElem? h1)
  · obtain ⟨h1, h2, h3⟩ := g.tab x hx
    obtain ⟨ps, hp⟩ := g.tbn hx
    refine ⟨h1, fun z => ?_, h3.le e rfl⟩
    rcases z with z | z
    · exact h2 z
    · exact hq ps (by rw [← z]; exact hp)
theorem Ext.beside {w w' : Wd} {H H' : Hp} {a : Addr} {o : HO} (e : Ext w H w' H') (h : H a = none) : Ext w H w' (L2.upd H' a o) := by
  refine ⟨⟨e.th, e.fz, fun b u f q => ?_⟩, fun b u q n t => ?_, fun b q => sm_upd (e.sm b q), fun b ps q => ?_, e.newF, e.newT⟩
  · rw [upd_ne (ne_of_none q h)]; exact e.ob b u f q
  · rw [upd_ne (ne_of_none q h)]; exact e.keep b u q n t
  · rw [upd_ne (ne_of_none q h)]; exact e.tb b ps q
theorem Ext.fix {w w' : Wd} {H H' : Hp} {a : Addr} (e : Ext w H w' H') (h : H a = none) : Ext w H (w'.frz a) H' := by
  refine ⟨⟨e.th, fun b f => .inl (e.fz b f), e.ob⟩, e.keep, e.sm, e.tb, fun b f => ?_, e.newT⟩
  rcases f with f | f
  · exact e.newF b f
  · rw [f]; exact .inr (.inr (.inl h))
/-- a thing of the store is frozen -/
theorem Ext.set {a : Addr} (ha : a ∈ w.th) : Ext w H (w.frz a) H := by
  refine ⟨⟨fun _ _ e => e, fun _ e => .inl e, fun _ _ _ e => e⟩, fun _ _ e _ _ => e, fun _ h => h, fun _ ps h => ⟨ps, h⟩, fun b f => ?_, fun b f => .inl f⟩
  rcases f with f | f
  · exact .inl f
  · subst f; exact .inr (.inl ha)
theorem Good.set (g : Good K w H st) {k : Nat} {a : Addr} (ha : w.th[k]? = some a) : Good K (w.frz a) H (st.del k) := by
  have e : Le w H (w.frz a) H := ⟨fun _ _ e => e, fun _ e => .inl e, fun _ _ _ e => e⟩
  refine ⟨g.len, g.nd, g.thIn, fun b m => ?_, fun j m q => ?_, fun x hx => ?_, g.tabs⟩
  · rcases m with m | m
    · exact g.fzIn b m
    · rw [m]; exact g.thIn a (List.mem_of_getElem? ha)
  · obtain ⟨hj, q⟩ := Sto.mem_rm q
    obtain ⟨b, h1, h2, h3⟩ := g.ob j m q
    refine ⟨b, h1, fun z => ?_, h3.le e rfl⟩
    rcases z with z | z
    · exact h2 z
    · exact g.uniq h1 ha hj z
  · obtain ⟨h1, h2, h3⟩ := g.tab x hx
    refine ⟨h1, fun z => ?_, h3.le e rfl⟩
    rcases z with z | z
    · exact h2 z
    · exact h1 (by rw [z]; exact List.mem_of_getElem? ha)
/-- a new thing of the store -/
def Wd.more (w : Wd) (p : Addr) : Wd := ⟨w.th ++ [p], w.fz⟩
theorem Wd.more_at (g : Good K w H st) (p : Addr) : (w.more p).th[st.n]? = some p := by
  show (w.th ++ [p])[st.n]? = some p
  rw [List.getElem?_append_right (by rw [g.len]; exact Nat.le_refl _), g.len, Nat.sub_self]; rfl
theorem Ext.more (g : Good K w H st) {p : Addr} {o : HO} (h : H p = none) : Ext w H (w.more p) (L2.upd H p o) := by
  refine ⟨⟨fun k a e => ?_, fun _ e => e, fun a u f e => ?_⟩, fun a u e _ _ => ?_, fun a e => sm_upd e, fun a ps e => ⟨ps, ?_⟩, fun a f => .inl f, fun a f => ?_⟩
  · show (w.th ++ [p])[k]? = some a
    rw [List.getElem?_append_left (List.getElem?_eq_some_iff.mp e).1]; exact e
  · rw [upd_ne (ne_of_none e h)]; exact e
  · rw [upd_ne (ne_of_none e h)]; exact e
  · rw [upd_ne (ne_of_none e h)]; exact e
  · rcases List.mem_append.mp f with f | f
    · exact .inl f
    · rw [List.mem_singleton.mp f]; exact .inr h
theorem Good.more (g : Good K w H st) {p : Addr} {o : HO} {m : MO} (h : H p = none) (r : MOk K (w.more p) (L2.upd H p o) p m) : Good K (w.more p) (L2.upd H p o) (st.new m) := by
  have e : Ext w H (w.more p) (L2.upd H p o) := Ext.more g h
  have hn : ∀ ps, o ≠ .tbl ps := fun ps z => r.notab ps (by rw [upd_same, z])
  refine ⟨?_, ?_, fun b m => ?_, fun b m => ?_, fun k u q => ?_, fun x hx => ?_, tab_upd (st := st) hn g.tabs⟩
  · show st.n + 1 = (w.th ++ [p]).length
    rw [List.length_append, g.len]; rfl
  · show (w.th ++ [p]).Nodup
    refine List.nodup_append.mpr ⟨g.nd, by simp, fun a m b n => ?_⟩
    rw [List.mem_singleton.mp n]
    exact net (g.no_th h) m
  · rcases List.mem_append.mp m with m | m
    · rw [upd_ne (net (g.no_th h) m)]; exact g.thIn b m
    · rw [List.mem_singleton.mp m, upd_same]; intro z; cases z
  · have m : w.fz b := m
    rw [upd_ne (nef (g.no_fz h) m)]; exact g.fzIn b m
  · rcases List.mem_cons.mp (show (k, u) ∈ (st.n, m) :: st.th from q) with q | q
    · cases q
      exact ⟨p, Wd.more_at g p, g.no_fz h, r⟩
    · obtain ⟨b, h1, h2, h3⟩ := g.ob k u q
      exact ⟨b, e.th _ _ h1, h2, h3.le e.toLe (upd_ne (net (g.no_th h) (List.mem_of_getElem? h1)))⟩
  · obtain ⟨h1, h2, h3⟩ := g.tab x hx
    obtain ⟨ps, hp⟩ := g.tbn hx
    have ne : pa K.K x ≠ p := ne_of_none hp h
    refine ⟨fun z => ?_, h2, h3.le e.toLe (upd_ne ne)⟩
    rcases List.mem_append.mp z with z | z
    · exact h1 z
    · exact ne (List.mem_singleton.mp z)
/-- a thing of the store is changed -/
theorem Good.put (g : Good K w H st) {k : Nat} {a : Addr} {o : HO} {m : MO} (ha : w.th[k]? = some a) (hf : ¬ w.fz a) (r : MOk K w (L2.upd H a o) a m) : Good K w (L2.upd H a o) (st.set k m) := by
  have e : Le w H w (L2.upd H a o) := Le.upd hf
  have hn : ∀ ps, o ≠ .tbl ps := fun ps z => r.notab ps (by rw [upd_same, z])
  refine ⟨g.len, g.nd, fun b m => ?_, fun b m => ?_, fun j u q => ?_, fun x hx => ?_, tab_upd (st := st) hn g.tabs⟩
  · by_cases z : b = a
    · subst z; rw [upd_same]; intro z; cases z
    · rw [upd_ne z]; exact g.thIn b m
  · rw [upd_ne (nef hf m)]; exact g.fzIn b m
  · rcases Sto.mem_pt q with ⟨h1, h2, _⟩ | ⟨h1, h2⟩
    · subst h1 h2
      exact ⟨a, ha, hf, r⟩
    · obtain ⟨b, h3, h4, h5⟩ := g.ob j u h2
      exact ⟨b, h3, h4, h5.le e (upd_ne (g.uniq h3 ha h1))⟩
  · obtain ⟨h1, h2, h3⟩ := g.tab x hx
    exact ⟨h1, h2, h3.le e (upd_ne fun z => h1 (by rw [z]; exact List.mem_of_getElem? ha))⟩
theorem Ext.put (g : Good K w H st) {a : Addr} {o : HO} (ha : a ∈ w.th) (hf : ¬ w.fz a) : Ext w H w (L2.upd H a o) := by
  refine ⟨Le.upd hf, fun b u e n _ => ?_, fun b e => sm_upd e, fun b ps e => ⟨ps, ?_⟩, fun _ f => .inl f, fun _ f => .inl f⟩
  · rw [upd_ne (Ne.symm (net n ha))]; exact e
  · rw [upd_ne fun z => ?_]
    · exact e
    · subst z
      exact g.th_nt ha ps e

/-! ### what the slots hold -/
structure EnvR (K : Kx) (w : Wd) (H : Hp) (σ : St) (env : En) : Prop where
  len : env.length = σ.length
  get : ∀ (i : Nat) (d : D), env[i]? = some (some d) → ∃ v, σ[i]? = some (some v) ∧ Dv K w H v d
variable {σ : St} {env : En}
theorem EnvR.le {w' : Wd} {H' : Hp} (r : EnvR K w H σ env) (e : Le w H w' H') : EnvR K w' H' σ env := ⟨r.len, fun i d h => let ⟨v, a, b⟩ := r.get i d h; ⟨v, a, b.le e⟩⟩
theorem EnvR.set (r : EnvR K w H σ env) {i : Nat} {v : V} {d : D} (h : Dv K w H v d) : EnvR K w H (σ.set i (some v)) (env.set i (some d)) := by
  refine ⟨by rw [List.length_set, List.length_set]; exact r.len, fun j e q => ?_⟩
  by_cases hj : i = j
  · subst hj
    have hl := (List.getElem?_eq_some_iff.mp q).1
    rw [List.length_set] at hl
    rw [List.getElem?_set_self hl] at q
    cases q
    exact ⟨v, by rw [List.getElem?_set_self (by rw [← r.len]; exact hl)], h⟩
  · rw [List.getElem?_set_ne hj] at q
    rw [List.getElem?_set_ne hj]
    exact r.get j e q
theorem EnvR.unset (r : EnvR K w H σ env) (i : Nat) : EnvR K w H (σ.set i none) (env.set i none) := by
  refine ⟨by rw [List.length_set, List.length_set]; exact r.len, fun j e q => ?_⟩
  by_cases hj : i = j
  · subst hj
    have hl := (List.getElem?_eq_some_iff.mp q).1
    rw [List.length_set] at hl
    rw [List.getElem?_set_self hl] at q
    cases q
  · rw [List.getElem?_set_ne hj] at q
    rw [List.getElem?_set_ne hj]
    exact r.get j e q
theorem EnvR.wipe (r : EnvR K w H σ env) : ∀ vs : List Nat, EnvR K w H (L2.wipe σ vs) (wipeE env vs)
  | [] => r
  | v :: vs => (r.wipe vs).unset v
theorem EnvR.start {vs : List V} {ds : List D} (h : Dvs K w H vs ds) (n : Nat) (N : List Str) (hn : n = N.length) : EnvR K w H (L2.start N vs) (startE n ds) := by
  subst hn
  refine ⟨by unfold L2.start startE; simp [h.length], fun i d q => ?_⟩
  unfold startE at q
  unfold L2.start
  by_cases hi : i < ds.length
  · rw [List.getElem?_append_left (by simpa using hi), List.getElem?_map] at q
    cases e : ds[i]? with
    | none => rw [e] at q; cases q
    | some x =>
      rw [e] at q
      cases q
      obtain ⟨v, h1, h2⟩ := h.get e
      exact ⟨v, by rw [List.getElem?_append_left (by simpa [h.length] using hi), List.getElem?_map, h1]; rfl, h2⟩
  · rw [List.getElem?_append_right (by simpa using hi), List.getElem?_replicate] at q
    split at q <;> cases q

theorem EnvR.get_mrf {i k : Nat} (r : EnvR K w H σ env) (h : env[i]? = some (some (.mrf k))) : ∃ a, σ[i]? = some (some (.ref a)) ∧ w.th[k]? = some a := by
  obtain ⟨v, h1, h2⟩ := r.get i _ h
  cases h2 with
  | mrf h => exact ⟨_, h1, h⟩

/-! ### what may be read -/
theorem as_lst (g : Good K w H st) {v : V} {d : D} {ds : List D} (h : Dv K w H v d) (e : asLst st d = some ds) : ∃ a vs, v = .ref a ∧ H a = some (.lst vs) ∧ Dvs K w H vs ds := by
  cases h with
  | lst f o r => cases e; exact ⟨_, _, rfl, o, r⟩
  | @mrf k a o =>
    have e : (match st.get k with | some (MO.lst xs) => some xs | _ => none) = some ds := e
    split at e
    · rename_i xs q
      cases e
      obtain ⟨_, vs, h3, h4⟩ := g.at q o
      exact ⟨_, vs, rfl, h3, h4⟩
    · cases e
  | _ => cases e
theorem as_seq (g : Good K w H st) {v : V} {d : D} {ds : List D} (h : Dv K w H v d) (e : asSeq st d = some ds) : ∃ a vs, v = .ref a ∧ (SqL K.K H a vs ∨ SqT K.K H a vs) ∧ Dvs K w H vs ds := by
  cases h with
  | tup f o r => cases e; exact ⟨_, _, rfl, .inr (.inl (.inl o)), r⟩
  | ktup k r => cases e; exact ⟨_, _, rfl, .inr k.sq, r⟩
  | rol f o r => cases e; exact ⟨_, _, rfl, .inl (.inl (.inr ⟨_, o⟩)), r⟩
  | krol k r => cases e; exact ⟨_, _, rfl, .inl k.sq, r⟩
  | lst f o r => cases e; exact ⟨_, _, rfl, .inl (.inl (.inl o)), r⟩
  | mrf o =>
    obtain ⟨a, vs, h1, h2, h3⟩ := as_lst g (.mrf o) (show asLst st (.mrf _) = some ds from e)
    exact ⟨a, vs, h1, .inl (.inl (.inl h2)), h3⟩
  | _ => cases e
theorem tup_sq {v : V} {ds : List D} (h : Dv K w H v (.tup ds)) : ∃ a vs, v = .ref a ∧ SqT K.K H a vs ∧ Dvs K w H vs ds := by
  cases h with
  | tup f o r => exact ⟨_, _, rfl, .inl (.inl o), r⟩
  | ktup k r => exact ⟨_, _, rfl, k.sq, r⟩
theorem rol_sq {v : V} {ds : List D} (h : Dv K w H v (.rol ds)) : ∃ a vs, v = .ref a ∧ SqL K.K H a vs ∧ Dvs K w H vs ds := by
  cases h with
  | rol f o r => exact ⟨_, _, rfl, .inl (.inr ⟨_, o⟩), r⟩
  | krol k r => exact ⟨_, _, rfl, k.sq, r⟩
mutual
theorem Dv.p : ∀ (d : D) (v : V) (p : PyData), Dv K w H v d → toP d = some p → Dp K.K H v p
  | .non, _, _, h, e => by cases h; cases e; exact .non
  | .bl _, _, _, h, e => by cases h; cases e; exact .bl _
  | .int _, _, _, h, e => by cases h; cases e; exact .int _
  | .str _, _, _, h, e => by cases h; cases e; exact .str _
  | .tup ds, _, _, h, e => by
    obtain ⟨a, vs, rfl, hs, r⟩ := tup_sq h
    unfold toP at e
    cases q : toPs ds with
    | none => rw [q] at e; cases e
    | some ps =>
      rw [q] at e; cases e
      exact .tup hs (Dvs.p ds vs ps r q)
  | .lst ds, _, _, h, e => by
    unfold toP at e
    cases q : toPs ds with
    | none => rw [q] at e; cases e
    | some ps =>
      rw [q] at e; cases e
      cases h with
      | lst f o r => exact .lst (.inl (.inl o)) (Dvs.p ds _ ps r q)
  | .rol _, _, _, _, e => by unfold toP at e; cases e
  | .dct _ _, _, _, _, e => by unfold toP at e; cases e
  | .mrf _, _, _, _, e => by unfold toP at e; cases e
  | .exn _ _ _, _, _, _, e => by unfold toP at e; cases e
  | .ins _ _ _, _, _, _, e => by unfold toP at e; cases e
theorem Dvs.p : ∀ (ds : List D) (vs : List V) (ps : List PyData), Dvs K w H vs ds → toPs ds = some ps → DpAll K.K H vs ps
  | [], _, _, h, e => by cases h; cases e; exact .nil
  | d :: ds, _, _, h, e => by
    cases h with
    | cons a b =>
      unfold toPs at e
      split at e
      · rename_i p ps h1 h2
        cases e
        exact .cons (Dv.p d _ p a h1) (Dvs.p ds _ ps b h2)
      · cases e
end
end
end Qv
end
section
set_option Elab.async false
set_option autoImplicit false
set_option linter.all false
set_option maxRecDepth 100000
set_option maxHeartbeats 2000000
/-! Qv: readings; names, constants, operators. -/
namespace Qv
open PySem L2

/-! ### what is wanted of what is raised -/
/-- the greatest wish that a context takes -/
def CW (X : Cx) : WX := fun cls d σ H => ∀ u s', XE X (fun c' d' σ' H' => c' = cls ∧ d' = d ∧ σ' = σ ∧ H' = H) u s' → X.xe u s'
theorem cw_takes {X : Cx} : Takes X (CW X) := fun u s' ⟨a, B, sI, pins, σ, H, cls, d, e, I, nb, up, sky, na, os, ag, w⟩ => w u s' ⟨a, B, sI, pins, σ, H, cls, d, e, I, nb, up, sky, na, os, ag, rfl, rfl, rfl, rfl⟩
theorem CW.of {X : Cx} {W : WX} (tk : Takes X W) {cls : Value} {d : Option Addr} {σ : St} {H : Hp} (h : W cls d σ H) : CW X cls d σ H := fun u s' ⟨a, B, sI, pins, σ', H', cls', d', e, I, nb, up, sky, na, os, ag, e1, e2, e3, e4⟩ => by
  subst e1 e2 e3 e4
  exact tk u s' ⟨a, B, sI, pins, _, _, _, _, e, I, nb, up, sky, na, os, ag, h⟩
def FX (K : Kx) (W : WX) (w : Wd) (H : Hp) (S : St → Prop) : XW := fun c ns xs st' => ∀ σ dd vs w' H', S σ → Ext w H w' H' → Good K w' H' st' → w'.fz dd → H' dd = some (.xd (ns.zip vs)) → ns.length = xs.length → Dvs K w' H' vs xs → W (.ref (He.ga K.K c)) (some dd) σ H'
/-- wishes: nothing is raised -/
def W0 : WX := fun _ _ _ _ => False
/-! ### what is wanted of a value, wherever it stands -/
def Fin (K : Kx) (w : Wd) (H : Hp) (Q : VK) : D → Sto → Prop := fun d st => ∀ v w' H', Ext w H w' H' → Good K w' H' st → Dv K w' H' v d → Q v H'
def AF (K : Kx) (w : Wd) (H : Hp) (Q : List V → Hp → Prop) : List D → Sto → Prop := fun ds st => ∀ vs w' H', Ext w H w' H' → Good K w' H' st → Dvs K w' H' vs ds → Q vs H'
def BF {α : Type} (K : Kx) (w : Wd) (H : Hp) (Q : α → Hp → Prop) : α → Sto → Prop := fun b st => ∀ w' H', Ext w H w' H' → Good K w' H' st → Q b H'
section
variable {K : Kx} {w w' : Wd} {H H' : Hp} {Q : VK} {d : D} {st : Sto} {W W' : WX} {S S' : St → Prop} {c : Str} {ns : List Str} {ds : List D}
theorem Fin.ext (e : Ext w H w' H') (h : Fin K w H Q d st) : Fin K w' H' Q d st := fun v w2 H2 e2 g r => h v w2 H2 (e.trans e2) g r
theorem FX.ext (e : Ext w H w' H') (h : FX K W w H S c ns ds st) : FX K W w' H' S c ns ds st := fun σ dd vs w2 H2 hs e2 => h σ dd vs w2 H2 hs (e.trans e2)
theorem FX.sub (h : FX K W w H S c ns ds st) (k : ∀ σ, S' σ → S σ) : FX K W w H S' c ns ds st := fun σ dd vs w2 H2 hs => h σ dd vs w2 H2 (k σ hs)
theorem FX.imp (h : FX K W w H S c ns ds st) (k : ∀ c d σ H, W c d σ H → W' c d σ H) : FX K W' w H S c ns ds st := fun σ dd vs w2 H2 hs e2 g f hd hl r => k _ _ _ _ (h σ dd vs w2 H2 hs e2 g f hd hl r)
theorem Fin.here (g : Good K w H st) {v : V} (r : Dv K w H v d) (h : Fin K w H Q d st) : Q v H := h v w H (Ext.refl w H) g r
theorem Fin.newL (g : Good K w H st) {vs : List V} {ds : List D} (r : Dvs K w H vs ds) (h : Fin K w H Q (.lst ds) st) : ∀ p, H p = none → Q (.ref p) (upd H p (.lst vs)) := fun p hp =>
  h _ (w.frz p) _ (Ext.frz g hp) (g.frz hp) (.lst (.inr rfl) upd_same (r.le (Ext.frz g hp).toLe))
theorem Fin.newT (g : Good K w H st) {vs : List V} {ds : List D} (r : Dvs K w H vs ds) (h : Fin K w H Q (.tup ds) st) : ∀ p, H p = none → Q (.ref p) (upd H p (.tup vs)) := fun p hp =>
  h _ (w.frz p) _ (Ext.frz g hp) (g.frz hp) (.tup (.inr rfl) upd_same (r.le (Ext.frz g hp).toLe))
/-- the same wish from further on -/
theorem wp_fin {r : R D} (e : Ext w H w' H') (h : r.wp (Fin K w H Q) (FX K W w H S)) : r.wp (Fin K w' H' Q) (FX K W w' H' S) := R.wp_mono h (fun _ _ h => Fin.ext e h) fun _ _ _ _ h => FX.ext e h
end

section
variable (K : Kx) (W : WX)
def tEv (x : Ev D) : TE := fun σ H Q => ∃ w env st, Good K w H st ∧ EnvR K w H σ env ∧ (x env st).wp (Fin K w H Q) (FX K W w H (· = σ))
def tEvs (xs : Ev (List D)) : TA := fun σ H Q => ∃ w env st, Good K w H st ∧ EnvR K w H σ env ∧ (xs env st).wp (AF K w H Q) (FX K W w H (· = σ))
/-- a test -/
def tTv (x : Ev Bool) : TT := fun σ H Q => ∃ w env st, Good K w H st ∧ EnvR K w H σ env ∧ (x env st).wp (BF K w H Q) (FX K W w H (· = σ))
end
section
abbrev PEv (X : Cx) (e : Expr) (x : Ev D) : Prop := PE X e (tEv (kx X) (CW X) x)
/-- as many as n -/
def Len (xs : Ev (List D)) (n : Nat) : Prop := ∀ env st ds st', xs env st = .ok ds st' → ds.length = n
structure PAv (X : Cx) (es : List Expr) (xs : Ev (List D)) : Prop where
  pa : PA X es (tEvs (kx X) (CW X) xs)
  len : Len xs es.length
abbrev PTv (X : Cx) (e : Expr) (x : Ev D) : Prop := PT X e (tTv (kx X) (CW X) (tVal x))
abbrev PWv (X : Cx) (e : Expr) (x : Ev D) : Prop := PW X e (tTv (kx X) (CW X) (tVal x))
end
theorem pe_weak {X : Cx} {e : Expr} {t t' : TE} (h : PE X e t) (k : ∀ σ H Q, t' σ H Q → t σ H Q) : PE X e t' := ⟨fun pins s σ H Q I q => h.run pins s σ H Q I (k σ H Q q)⟩
theorem pa_weak {X : Cx} {e : List Expr} {t t' : TA} (h : PA X e t) (k : ∀ σ H Q, t' σ H Q → t σ H Q) : PA X e t' := ⟨fun pos pins s σ H Q I q => h.run pos pins s σ H Q I (k σ H Q q)⟩
theorem pt_weak {X : Cx} {e : Expr} {t t' : TT} (h : PT X e t) (k : ∀ σ H Q, t' σ H Q → t σ H Q) : PT X e t' := ⟨fun pins s σ H Q I q => h.run pins s σ H Q I (k σ H Q q)⟩
theorem pw_weak {X : Cx} {e : Expr} {t t' : TT} (h : PW X e t) (k : ∀ σ H Q, t' σ H Q → t σ H Q) : PW X e t' := ⟨fun wh pins s σ H Q I q => h.run wh pins s σ H Q I (k σ H Q q)⟩
theorem ps_weak {X : Cx} {e : Stmt} {t t' : TS} (h : PS X e t) (k : ∀ D σ H, t' D σ H → t D σ H) : PS X e t' := ⟨fun pins s σ H D I q => h.run pins s σ H D I (k D σ H q)⟩
theorem pss_weak {X : Cx} {e : List Stmt} {t t' : TS} (h : PSs X e t) (k : ∀ D σ H, t' D σ H → t D σ H) : PSs X e t' := ⟨fun pins s σ H D I q => h.run pins s σ H D I (k D σ H q)⟩
theorem pg_weak {X : Cx} {e : Expr} {t t' : TG} (h : PG X e t) (k : ∀ v σ H Q, t' v σ H Q → t v σ H Q) : PG X e t' := ⟨fun pins s σ H v u Q I r q => h.run pins s σ H v u Q I r (k v σ H Q q)⟩
/-- wishes are weakened -/
theorem tEv_imp {K : Kx} {W W' : WX} {x : Ev D} (k : ∀ c d σ H, W c d σ H → W' c d σ H) : ∀ σ H Q, tEv K W x σ H Q → tEv K W' x σ H Q := fun σ H Q ⟨w, env, st, g, r, h⟩ => ⟨w, env, st, g, r, R.wp_mono h (fun _ _ h => h) fun _ _ _ _ h => h.imp k⟩
theorem tTv_imp {K : Kx} {W W' : WX} {x : Ev Bool} (k : ∀ c d σ H, W c d σ H → W' c d σ H) : ∀ σ H Q, tTv K W x σ H Q → tTv K W' x σ H Q := fun σ H Q ⟨w, env, st, g, r, h⟩ => ⟨w, env, st, g, r, R.wp_mono h (fun _ _ h => h) fun _ _ _ _ h => h.imp k⟩

/-- weakening at a value -/
theorem tEv_mono {K : Kx} {W : WX} {x : Ev D} {σ : St} {H : Hp} {Q : VK} (P : D → Sto → Prop) {w : Wd} {env : En} {st : Sto} (g : Good K w H st) (r : EnvR K w H σ env) (h : (x env st).wp P (FX K W w H (· = σ)))
    (k : ∀ d st' v w' H', P d st' → Ext w H w' H' → Good K w' H' st' → Dv K w' H' v d → Q v H') : tEv K W x σ H Q := ⟨w, env, st, g, r, R.wp_mono h (fun d s1 h1 v w' H' e' g' d' => k d s1 v w' H' h1 e' g' d') fun _ _ _ _ h => h⟩
/-- the same, further on -/
theorem tEv_then {K : Kx} {W : WX} {x : Ev D} {σ : St} {H H0 : Hp} {Q : VK} (P : D → Sto → Prop) {w w0 : Wd} {env : En} {st : Sto} (e0 : Ext w0 H0 w H) (g : Good K w H st) (r : EnvR K w0 H0 σ env) (h : (x env st).wp P (FX K W w0 H0 (· = σ)))
    (k : ∀ d st' v w' H', P d st' → Ext w H w' H' → Good K w' H' st' → Dv K w' H' v d → Q v H') : tEv K W x σ H Q := ⟨w, env, st, g, r.le e0.toLe, R.wp_mono h (fun d s1 h1 v w' H' e' g' d' => k d s1 v w' H' h1 e' g' d') fun _ _ _ _ h => FX.ext e0 h⟩
theorem tTv_mono {K : Kx} {W : WX} {x : Ev Bool} {σ : St} {H : Hp} {Q : Bool → Hp → Prop} (P : Bool → Sto → Prop) {w : Wd} {env : En} {st : Sto} (g : Good K w H st) (r : EnvR K w H σ env) (h : (x env st).wp P (FX K W w H (· = σ)))
    (k : ∀ d st' w' H', P d st' → Ext w H w' H' → Good K w' H' st' → Q d H') : tTv K W x σ H Q := ⟨w, env, st, g, r, R.wp_mono h (fun d s1 h1 w' H' e' g' => k d s1 w' H' h1 e' g') fun _ _ _ _ h => h⟩

/-! ### names, constants -/
section
variable {X : Cx} {pos p : Pos} {x : Str} {e a b c : Expr} {xa xb xc : Ev D}
theorem pev_var (i : Nat) (hN : X.N[i]? = some x := by rfl) (hv : Vis X.env.scope x := by first | exact Or.inl rfl | exact Or.inr (Or.inl rfl) | exact Or.inr (Or.inr rfl)) (hd : (x == ("__debug__" : Str)) = false := by decide)
    (hcd : (x == ("__classdict__" : Str)) = false := by decide) : PEv X (.Name x pos) (xVar i) := pe_weak (pe_var hN hv hd hcd) fun σ H Q ⟨w, env, st, g, r, h⟩ => by
  unfold xVar at h
  split at h
  · rename_i d q
    obtain ⟨v, h1, h2⟩ := r.get _ _ q
    exact ⟨v, h1, Fin.here g h2 h⟩
  · exact h.elim
/-- what a written constant is -/
def Lit (v : V) (d : D) : Prop := ∀ K w H, Dv K w H v d
theorem pev_lit {v : V} {d : D} (h : PE X e (tC v)) (l : Lit v d) : PEv X e (xLit d) := pe_weak h fun σ H Q ⟨w, env, st, g, r, q⟩ => Fin.here g (l _ _ _) q
theorem pev_int {i : Int} {j : Nat} : PEv X (.Constant (.int i) j pos) (xLit (.int i)) := pev_lit pe_int fun _ _ _ => .int i
theorem pev_bl {i : Bool} {j : Nat} : PEv X (.Constant (.bool i) j pos) (xLit (.bl i)) := pev_lit pe_bl fun _ _ _ => .bl i
theorem pev_non {j : Nat} : PEv X (.Constant .none j pos) (xLit .non) := pev_lit pe_non fun _ _ _ => .non
theorem pev_str {i : Str} {j : Nat} : PEv X (.Constant (.str i) j pos) (xLit (.str i)) := pev_lit pe_str fun _ _ _ => .str i
theorem pev_gstr {i : Str} {t : Tok} (hm : X.mg x = some (.str i t)) (hg : Gl X x := by rfl) (hd : (x == ("__debug__" : Str)) = false := by decide) : PEv X (.Name x pos) (xLit (.str i)) := pev_lit (v := .str i) (pe_glob hg hm ⟨t, rfl⟩ hd) fun _ _ _ => .str i
theorem pev_gint {i : Int} {t : Tok} (hm : X.mg x = some (.int i t)) (hg : Gl X x := by rfl) (hd : (x == ("__debug__" : Str)) = false := by decide) : PEv X (.Name x pos) (xLit (.int i)) := pev_lit (v := .int i) (pe_glob hg hm ⟨t, rfl⟩ hd) fun _ _ _ => .int i

/-! ### operators -/
def rOf (K : Kx) (f : Op2) : R2 := fun x y H Q => ∃ w st da db d, Good K w H st ∧ Dv K w H x da ∧ Dv K w H y db ∧ f st da db = some d ∧ Fin K w H Q d st
theorem two {K : Kx} {W : WX} {f : Op2} : ∀ σ H Q, tEv K W (x2 f xa xb) σ H Q → tOp (rOf K f) (tEv K W xa) (tEv K W xb) σ H Q := fun σ H Q ⟨w, env, st, g, r, h⟩ => by
  unfold x2 at h
  rw [R.wp_bind] at h
  refine tEv_mono _ g r h fun da s1 v1 w1 H1 h1 e1 g1 d1 => ?_
  rw [R.wp_bind] at h1
  refine tEv_then _ e1 g1 r h1 fun db s2 v2 w2 H2 h2 e2 g2 d2 => ?_
  obtain ⟨d, q, h2⟩ := may_wp h2
  exact ⟨w2, s2, da, db, d, g2, d1.le e2.toLe, d2, q, Fin.ext (e1.trans e2) h2⟩
theorem pev_bin {op : Operator} {o : Op2} (ho : OpR X (binaryOp op) (rOf (kx X) o)) (ha : PEv X a xa) (hb : PEv X b xb) : PEv X (.BinOp a op b pos) (x2 o xa xb) := pe_weak (pe_op ho ha hb) two
theorem pev_cmp {op : CmpOp} {o : Cm2} (ho : OpR X (compareOp op) (rOf (kx X) (cmpD o))) (ha : PEv X a xa) (hb : PEv X b xb) (hm : behindInMarks op b = false := by rfl) : PEv X (.Compare a [op] [b] pos) (xCmp o xa xb) :=
  pe_weak (pe_cmpR ho ha hb hm) two
theorem cmpD_some {c : Cm2} {st : Sto} {x y d : D} (h : cmpD c st x y = some d) : ∃ r, d = .bl r ∧ c st x y = some r := by
  unfold cmpD at h
  cases q : c st x y with
  | none => rw [q] at h; cases h
  | some r => rw [q] at h; cases h; exact ⟨r, rfl, rfl⟩
theorem tVal_wp {x : Ev D} {env : En} {st : Sto} {P : Bool → Sto → Prop} {E : XW} (h : ((tVal x) env st).wp P E) : (x env st).wp (fun d st' => ∃ t, truth st' d = some t ∧ P t st') E := by
  unfold tVal at h
  rw [R.wp_bind] at h
  exact R.wp_mono h (fun d s1 h1 => may_wp h1) fun _ _ _ _ h => h
theorem wp_tVal {x : Ev D} {env : En} {st : Sto} {P : Bool → Sto → Prop} {E : XW} (h : (x env st).wp (fun d st' => ∃ t, truth st' d = some t ∧ P t st') E) : ((tVal x) env st).wp P E := by
  unfold tVal
  rw [R.wp_bind]
  refine R.wp_mono h (fun d s1 ⟨t, q, h1⟩ => ?_) fun _ _ _ _ h => h
  rw [q]
  exact h1
/-- a comparison as a test -/
theorem ptv_cmp {op : CmpOp} {o : Cm2} (ho : OpR X (compareOp op) (rOf (kx X) (cmpD o))) (ha : PEv X a xa) (hb : PEv X b xb) (hm : behindInMarks op b = false := by rfl) : PTv X (.Compare a [op] [b] pos) (xCmp o xa xb) :=
  pt_weak (pt_cmpR ho ha hb hm) fun σ H Q ⟨w, env, st, g, r, h⟩ => by
    refine two (f := cmpD o) σ H _ ⟨w, env, st, g, r, ?_⟩
    have h := tVal_wp h
    unfold xCmp x2 at h
    unfold x2
    rw [R.wp_bind] at h ⊢
    refine R.wp_mono h (fun da s1 h1 => ?_) fun _ _ _ _ h => h
    rw [R.wp_bind] at h1 ⊢
    refine R.wp_mono h1 (fun db s2 h2 => ?_) fun _ _ _ _ h => h
    obtain ⟨d, q, t, q2, h3⟩ := may_wp h2
    rw [q]
    obtain ⟨r', rfl, _⟩ := cmpD_some q
    cases q2
    intro v w' H' e' g' d'
    cases d'
    exact ⟨_, rfl, h3 w' H' e' g'⟩
end
end Qv
end
section
set_option Elab.async false
set_option autoImplicit false
set_option linter.all false
set_option maxRecDepth 100000
set_option maxHeartbeats 2000000
/-! Qv: the operators keep what is said of them. -/
namespace Qv
open PySem L2
variable {X : Cx}
theorem o_add : OpR X (binaryOp .Add) (rOf (kx X) bAdd) := by
  intro pins s σ H x y v u Q I rx ry ⟨w, st, da, db, d, g, dx, dy, e, h⟩
  unfold bAdd at e
  split at e
  · cases e
    cases dx; cases dy
    exact op_add pins s σ H _ _ v u Q I rx ry ⟨_, _, rfl, rfl, Fin.here g (.int _) h⟩
  · obtain ⟨hl, e⟩ := omust_some e
    cases e
    cases dx; cases dy
    exact op_add_str pins s σ H _ _ v u Q I rx ry ⟨_, _, rfl, rfl, hl, Fin.here g (.str _) h⟩
  · rename_i xs ys
    obtain ⟨hl, e⟩ := omust_some e
    cases e
    obtain ⟨a, vs, rfl, h1, r1⟩ := tup_sq dx
    obtain ⟨b, us, rfl, h2, r2⟩ := tup_sq dy
    refine op_catA pins s σ H _ _ v u Q I rx ry ⟨a, b, vs, us, rfl, rfl, h1, h2, by rw [r1.length, r2.length]; exact hl, fun e => ?_, fun _ e => ?_, fun _ _ p hp => Fin.newT g (r1.append r2) h p hp⟩
    · subst e; cases r1
      exact Fin.here g dy h
    · subst e; cases r2
      rw [List.append_nil] at h
      exact Fin.here g dx h
  · split at e
    · rename_i xs ys q1 q2
      obtain ⟨hl, e⟩ := omust_some e
      cases e
      obtain ⟨a, vs, rfl, h1, r1⟩ := as_lst g dx q1
      obtain ⟨b, us, rfl, h2, r2⟩ := as_lst g dy q2
      exact op_cat pins s σ H _ _ v u Q I rx ry ⟨a, b, vs, us, rfl, rfl, h1, h2, by rw [r1.length, r2.length]; exact hl, Fin.newL g (r1.append r2) h⟩
    · cases e
theorem o_sub : OpR X (binaryOp .Sub) (rOf (kx X) bSub) := by
  intro pins s σ H x y v u Q I rx ry ⟨w, st, da, db, d, g, dx, dy, e, h⟩
  unfold bSub at e
  split at e
  · cases e
    cases dx; cases dy
    exact op_sub pins s σ H _ _ v u Q I rx ry ⟨_, _, rfl, rfl, Fin.here g (.int _) h⟩
  · cases e
theorem o_mul : OpR X (binaryOp .Mult) (rOf (kx X) bMul) := by
  intro pins s σ H x y v u Q I rx ry ⟨w, st, da, db, d, g, dx, dy, e, h⟩
  unfold bMul at e
  split at e
  · obtain ⟨hl, e⟩ := omust_some e
    cases e
    cases dx; cases dy
    exact op_mul pins s σ H _ _ v u Q I rx ry ⟨_, _, rfl, rfl, hl, Fin.here g (.int _) h⟩
  · obtain ⟨⟨h0, h1, h2, h3⟩, e⟩ := omust_some e
    cases e
    obtain ⟨a, vs, rfl, hs, rr⟩ := tup_sq dx
    cases dy
    refine op_repT pins s σ H _ _ v u Q I rx ry ⟨a, _, vs, rfl, rfl, hs, fun z => h0 ?_, h1, h2, by rw [rr.length]; exact h3, Fin.newT g (rr.flat _) h⟩
    rw [← rr.length, z]; rfl
  · split at e
    · rename_i xs q1
      obtain ⟨hl, e⟩ := omust_some e
      cases e
      obtain ⟨a, vs, rfl, h1, r1⟩ := as_lst g dx q1
      cases dy
      exact op_rep pins s σ H _ _ v u Q I rx ry ⟨a, _, vs, rfl, rfl, h1, hl.1, hl.2.1, by rw [r1.length]; exact hl.2.2, Fin.newL g (r1.flat _) h⟩
    · cases e
  · cases e
theorem o_fdiv : OpR X (binaryOp .FloorDiv) (rOf (kx X) bFdiv) := by
  intro pins s σ H x y v u Q I rx ry ⟨w, st, da, db, d, g, dx, dy, e, h⟩
  unfold bFdiv at e
  split at e
  · obtain ⟨hl, e⟩ := omust_some e
    cases e
    cases dx; cases dy
    exact op_fdiv pins s σ H _ _ v u Q I rx ry ⟨_, _, rfl, rfl, hl, Fin.here g (.int _) h⟩
  · cases e
theorem o_mod : OpR X (binaryOp .Mod) (rOf (kx X) bMod) := by
  intro pins s σ H x y v u Q I rx ry ⟨w, st, da, db, d, g, dx, dy, e, h⟩
  unfold bMod at e
  split at e
  · obtain ⟨hl, e⟩ := omust_some e
    cases e
    cases dx; cases dy
    exact op_mod pins s σ H _ _ v u Q I rx ry ⟨_, _, rfl, rfl, hl, Fin.here g (.int _) h⟩
  · cases e
theorem o_pow : OpR X (binaryOp .Pow) (rOf (kx X) bPow) := by
  intro pins s σ H x y v u Q I rx ry ⟨w, st, da, db, d, g, dx, dy, e, h⟩
  unfold bPow at e
  split at e
  · obtain ⟨hl, e⟩ := omust_some e
    cases e
    cases dx; cases dy
    exact op_pow pins s σ H _ _ v u Q I rx ry ⟨_, _, rfl, rfl, hl, Fin.here g (.int _) h⟩
  · cases e
/-! ### comparisons -/
theorem eqd_some {a b : D} {r : Bool} (h : eqD a b = some r) : ∃ p q, toP a = some p ∧ toP b = some q ∧ SeqAt.shaped p = true ∧ SeqAt.shaped q = true ∧ r = PyData.eqv p q := by
  unfold eqD at h
  split at h
  · rename_i p q h1 h2
    split at h
    · rename_i hs
      cases h
      exact ⟨p, q, h1, h2, hs.1, hs.2, rfl⟩
    · cases h
  · cases h
theorem cmp_wp {K : Kx} {w : Wd} {H : Hp} {Q : VK} {c : Cm2} {st : Sto} {x y d : D} (e : cmpD c st x y = some d) (g : Good K w H st) (h : Fin K w H Q d st) : ∃ r, c st x y = some r ∧ Q (.bl r) H := by
  obtain ⟨r, rfl, q⟩ := cmpD_some e
  exact ⟨r, q, Fin.here g (.bl r) h⟩
theorem o_eq (hu : X.A.units + 64 < cLine) : OpR X (compareOp .Eq) (rOf (kx X) (cmpD cEq)) := by
  intro pins s σ H x y v u Q I rx ry ⟨w, st, da, db, d, g, dx, dy, e0, h⟩
  obtain ⟨r, e, q⟩ := cmp_wp e0 g h
  have e : eqS st da db = some r := e
  unfold eqS at e
  split at e
  · rename_i r' e'
    cases e
    obtain ⟨p, p', h1, h2, h3, h4, rfl⟩ := eqd_some e'
    exact op_eqD hu pins s σ H x y v u Q I rx ry ⟨p, p', Dv.p _ _ _ dx h1, Dv.p _ _ _ dy h2, h3, h4, q⟩
  · split at e
    · rename_i xs ys q1 q2
      obtain ⟨a, vs, rfl, h1, r1⟩ := as_lst g dx q1
      obtain ⟨b, us, rfl, h2, r2⟩ := as_lst g dy q2
      cases rx
      cases ry
      obtain ⟨it1, rv1, l1, z1⟩ := I.list (SqL.of h1)
      obtain ⟨it2, rv2, l2, z2⟩ := I.list (SqL.of h2)
      split at e
      · rename_i hne
        cases e
        refine SeqAt.eq_list_lengthsAt l1.isList l2.isList ?_ (by omega) ⟨.bl false, H, I, rfl, q⟩
        have e1 := rv1.length
        have e2 := rv2.length
        have e3 := r1.length
        have e4 := r2.length
        simp only [List.size_toArray, bne_iff_ne, ne_eq]
        omega
      · rename_i hne
        split at e
        · rename_i hem
          cases e
          have hx0 : xs = [] := List.isEmpty_iff.mp hem
          subst hx0
          have e3 := r1.length
          have e4 := r2.length
          have e1 := rv1.length
          have e2 := rv2.length
          have hx : vs.length = 0 := e3
          have z : it1 = [] := List.eq_nil_of_length_eq_zero (by omega)
          have hy : ys.length = 0 := by
            by_cases q0 : ys.length = 0
            · exact q0
            · exact absurd (fun z => q0 z.symm) hne
          have z' : it2 = [] := List.eq_nil_of_length_eq_zero (by omega)
          subst z z'
          refine SeqAt.eq_listAt (e := fun _ => true) l1.isList l2.isList rfl (by omega) (fun j h1 h2 => absurd h1 (by simp)) ⟨.bl true, H, I, rfl, q⟩
        · cases e
    · cases e
theorem o_ne (hu : X.A.units + 64 < cLine) : OpR X (compareOp .NotEq) (rOf (kx X) (cmpD cNe)) := by
  intro pins s σ H x y v u Q I rx ry ⟨w, st, da, db, d, g, dx, dy, e0, h⟩
  obtain ⟨r, e, q⟩ := cmp_wp e0 g h
  have e : (eqD da db).map (!·) = some r := e
  cases e' : eqD da db with
  | none => rw [e'] at e; cases e
  | some r' =>
    rw [e'] at e
    cases e
    obtain ⟨p, p', h1, h2, h3, h4, rfl⟩ := eqd_some e'
    exact op_neD hu pins s σ H x y v u Q I rx ry ⟨p, p', Dv.p _ _ _ dx h1, Dv.p _ _ _ dy h2, h3, h4, q⟩
theorem o_lt : OpR X (compareOp .Lt) (rOf (kx X) (cmpD cLt)) := by
  intro pins s σ H x y v u Q I rx ry ⟨w, st, da, db, d, g, dx, dy, e0, h⟩
  obtain ⟨r, e, q⟩ := cmp_wp e0 g h
  cases dx <;> cases dy <;> first | (cases e; done) | skip
  cases e
  exact op_lt pins s σ H _ _ v u Q I rx ry ⟨_, _, rfl, rfl, q⟩
theorem o_le : OpR X (compareOp .LtE) (rOf (kx X) (cmpD cLe)) := by
  intro pins s σ H x y v u Q I rx ry ⟨w, st, da, db, d, g, dx, dy, e0, h⟩
  obtain ⟨r, e, q⟩ := cmp_wp e0 g h
  cases dx <;> cases dy <;> first | (cases e; done) | skip
  cases e
  exact op_le pins s σ H _ _ v u Q I rx ry ⟨_, _, rfl, rfl, q⟩
theorem o_gt : OpR X (compareOp .Gt) (rOf (kx X) (cmpD cGt)) := by
  intro pins s σ H x y v u Q I rx ry ⟨w, st, da, db, d, g, dx, dy, e0, h⟩
  obtain ⟨r, e, q⟩ := cmp_wp e0 g h
  cases dx <;> cases dy <;> first | (cases e; done) | skip
  cases e
  exact op_gt pins s σ H _ _ v u Q I rx ry ⟨_, _, rfl, rfl, q⟩
theorem o_ge : OpR X (compareOp .GtE) (rOf (kx X) (cmpD cGe)) := by
  intro pins s σ H x y v u Q I rx ry ⟨w, st, da, db, d, g, dx, dy, e0, h⟩
  obtain ⟨r, e, q⟩ := cmp_wp e0 g h
  cases dx <;> cases dy <;> first | (cases e; done) | skip
  cases e
  exact op_ge pins s σ H _ _ v u Q I rx ry ⟨_, _, rfl, rfl, q⟩
theorem o_is : OpR X (compareOp .Is) (rOf (kx X) (cmpD cIs)) := by
  intro pins s σ H x y v u Q I rx ry ⟨w, st, da, db, d, g, dx, dy, e0, h⟩
  obtain ⟨r, e, q⟩ := cmp_wp e0 g h
  have e : isD da db = some r := e
  cases dy with
  | non =>
    refine op_isN pins s σ H _ _ v u Q I rx ry ⟨rfl, ?_⟩
    cases dx <;> (cases e; exact q)
  | bl b =>
    cases dx with
    | bl a =>
      cases e
      exact op_is_bl pins s σ H _ _ v u Q I rx ry ⟨a, b, rfl, rfl, q⟩
    | _ => cases e
  | _ => cases dx <;> cases e
theorem o_nis : OpR X (compareOp .IsNot) (rOf (kx X) (cmpD cNis)) := by
  intro pins s σ H x y v u Q I rx ry ⟨w, st, da, db, d, g, dx, dy, e0, h⟩
  obtain ⟨r, e, q⟩ := cmp_wp e0 g h
  have e : (isD da db).map (!·) = some r := e
  cases dy with
  | non =>
    refine op_notN pins s σ H _ _ v u Q I rx ry ⟨rfl, ?_⟩
    cases dx <;> (cases e; exact q)
  | bl b =>
    cases dx with
    | bl a =>
      cases e
      exact op_isnot_bl pins s σ H _ _ v u Q I rx ry ⟨a, b, rfl, rfl, q⟩
    | _ => cases e
  | _ => cases dx <;> cases e
theorem flat_some {K : Kx} {w : Wd} {H : Hp} {x : V} {d : D} {v : V} (h : Dv K w H x d) (e : flat? d = some v) : x = v ∧ flatV v = true := by
  cases h <;> cases e <;> exact ⟨rfl, rfl⟩
theorem flats_some {K : Kx} {w : Wd} {H : Hp} : ∀ {xs : List V} {ds : List D} {vs : List V}, Dvs K w H xs ds → ds.mapM flat? = some vs → xs = vs ∧ vs.all flatV = true
  | _, _, vs, .nil, e => by
    simp at e
    subst e
    exact ⟨rfl, rfl⟩
  | _, _, vs, .cons (d := d) (ds := ds) a r, e => by
    rw [List.mapM_cons] at e
    cases h1 : flat? d with
    | none => rw [h1] at e; cases e
    | some v =>
      cases h2 : ds.mapM flat? with
      | none => rw [h1, h2] at e; cases e
      | some ws =>
        rw [h1, h2] at e
        cases e
        obtain ⟨e1, f1⟩ := flat_some a h1
        obtain ⟨e2, f2⟩ := flats_some r h2
        subst e1 e2
        exact ⟨rfl, by rw [List.all_cons, f1, f2]; rfl⟩
theorem ins_some {a z : Str} {r : Bool} (h : inS a z = some r) : ∃ c, a = ⟨#[c]⟩ ∧ r = decide (c ∈ z.cps.toList) := by
  unfold inS at h
  split at h
  · rename_i c hc
    cases h
    refine ⟨c, ?_, rfl⟩
    obtain ⟨⟨l⟩⟩ := a
    exact congrArg (fun l => Str.mk ⟨l⟩) hc
  · cases h
theorem o_in (hu : X.A.units + 65 < cLine) : OpR X (compareOp .In) (rOf (kx X) (cmpD cIn)) := by
  intro pins s σ H x y v u Q I rx ry ⟨w, st, da, db, d, g, dx, dy, e0, h⟩
  obtain ⟨r, e, q⟩ := cmp_wp e0 g h
  have e : inD st da db = some r := e
  unfold inD at e
  split at e
  · split at e
    · cases dx; cases dy
      obtain ⟨c, rfl, rfl⟩ := ins_some e
      exact op_in_sign pins s σ H _ _ v u Q I rx ry ⟨c, _, rfl, rfl, q⟩
    · cases e
  · split at e
    · rename_i ys _ v' vs h1 h2
      cases e
      obtain ⟨e1, f1⟩ := flat_some dx h1
      obtain ⟨a, us, rfl, hs, r2⟩ := tup_sq dy
      obtain ⟨e2, f2⟩ := flats_some r2 h2
      subst e1 e2
      exact op_in_seq pins s σ H _ _ v u Q I rx ry ⟨a, _, rfl, .inr hs, f1, f2, q⟩
    · cases e
  · split at e
    · rename_i ys _ p qs h1 h2
      split at e
      · rename_i hs
        cases e
        exact op_inD hu pins s σ H x y v u Q I rx ry ⟨p, qs, Dv.p _ _ _ dx h1, Dv.p _ _ _ dy (by unfold toP; rw [h2]; rfl), hs.1, hs.2, q⟩
      · cases e
    · cases e
  · cases e
theorem o_nin (hu : X.A.units + 65 < cLine) : OpR X (compareOp .NotIn) (rOf (kx X) (cmpD cNin)) := by
  intro pins s σ H x y v u Q I rx ry ⟨w, st, da, db, d, g, dx, dy, e0, h⟩
  obtain ⟨r, e, q⟩ := cmp_wp e0 g h
  have e : (inD st da db).map (!·) = some r := e
  unfold inD at e
  split at e
  · split at e
    · cases dx; cases dy
      generalize e' : inS _ _ = o at e
      cases o with
      | none => cases e
      | some r' =>
        cases e
        obtain ⟨c, rfl, rfl⟩ := ins_some e'
        exact op_notIn_sign pins s σ H _ _ v u Q I rx ry ⟨c, _, rfl, rfl, q⟩
    · cases e
  · split at e
    · rename_i ys _ v' vs h1 h2
      cases e
      obtain ⟨e1, f1⟩ := flat_some dx h1
      obtain ⟨a, us, rfl, hs, r2⟩ := tup_sq dy
      obtain ⟨e2, f2⟩ := flats_some r2 h2
      subst e1 e2
      exact op_notIn_seq pins s σ H _ _ v u Q I rx ry ⟨a, _, rfl, .inr hs, f1, f2, q⟩
    · cases e
  · split at e
    · rename_i ys _ p qs h1 h2
      split at e
      · rename_i hs
        cases e
        exact op_notInD hu pins s σ H x y v u Q I rx ry ⟨p, qs, Dv.p _ _ _ dx h1, Dv.p _ _ _ dy (by unfold toP; rw [h2]; rfl), hs.1, hs.2, q⟩
      · cases e
    · cases e
  · cases e
end Qv
end
section
set_option Elab.async false
set_option autoImplicit false
set_option linter.all false
set_option maxRecDepth 100000
set_option maxHeartbeats 2000000
/-! Qv: expressions and tests. -/
namespace Qv
open PySem L2
/-- what each rule may lean on -/
structure Cz (X : Cx) (k : Nat) : Prop where
  room : Room k X.A
  grd : X.A.guards = some []
  calm : X.calm = true
  nd : X.N.Nodup
theorem Cz.u {X : Cx} {k : Nat} (h : Cz X k) : X.A.units + 200 < cLine := by have := h.room.un; omega
section
variable {X : Cx} {pos p p2 : Pos} {x : Str} {e a b c : Expr} {es rest : List Expr} {xa xb xc : Ev D} {xs : Ev (List D)}
theorem truth_of {K : Kx} {w : Wd} {H : Hp} {st : Sto} (g : Good K w H st) {v : V} {d : D} (h : Dv K w H v d) {r : Bool} (e : truth st d = some r) : TruV K.K v H r := by
  cases h with
  | non => cases e; rfl
  | bl b => cases e; rfl
  | int i => cases e; rfl
  | str x =>
    have e : (if x.length ≤ sizeLine then some ((x.length : Int) != 0) else none) = some r := e
    split at e
    · rename_i hl; cases e; exact ⟨hl, rfl⟩
    · cases e
  | tup f o q => cases e; exact .inr (.inl ⟨_, .inl (.inl o), by cases q <;> rfl⟩)
  | ktup k q => cases e; exact .inr (.inl ⟨_, k.sq, by cases q <;> rfl⟩)
  | lst f o q => cases e; exact .inl ⟨_, .inl (.inl o), by cases q <;> rfl⟩
  | rol f o q => cases e; exact .inl ⟨_, .inl (.inr ⟨_, o⟩), by cases q <;> rfl⟩
  | krol k q => cases e; exact .inl ⟨_, k.sq, by cases q <;> rfl⟩
  | dct0 f o => cases e
  | dct f o k n r s => cases e
  | exn => cases e
  | ins => cases e
  | mrf o =>
    have e : (asLst st (.mrf _)).map (fun xs => !xs.isEmpty) = some r := e
    cases q : asLst st (.mrf _) with
    | none => rw [q] at e; cases e
    | some xs =>
      rw [q] at e; cases e
      obtain ⟨a, vs, h0, h1, r1⟩ := as_lst g (.mrf o) q
      cases h0
      exact .inl ⟨vs, .inl (.inl h1), by cases r1 <;> rfl⟩

/-! ### argument lists -/
def isStar : Expr → Bool
  | .Starred .. => true
  | _ => false
theorem star_cons {env : Env} (h : isStar e = false) : starEach (e :: es) env = (false, eval e env) :: starEach es env := by
  cases e <;> first | rfl | cases h
theorem len_nil : Len xNil 0 := fun env st ds st' h => by
  cases h; rfl
theorem len_cons {n : Nat} (h : Len xs n) : Len (xCons xa xs) (n + 1) := fun env st ds st' e => by
  unfold xCons at e
  cases q : xa env st with
  | stuck => rw [q] at e; cases e
  | exc => rw [q] at e; cases e
  | ok d s1 =>
    rw [q, R.bind_ok] at e
    cases q2 : xs env s1 with
    | stuck => rw [q2] at e; cases e
    | exc => rw [q2] at e; cases e
    | ok es s2 =>
      rw [q2, R.bind_ok] at e
      cases e
      exact congrArg (· + 1) (h _ _ _ _ q2)
theorem pav_nil : PAv X [] xNil := ⟨pa_weak pa_nil fun σ H Q ⟨w, env, st, g, r, h⟩ => h [] w H (Ext.refl w H) g .nil, len_nil⟩
theorem cons_read {K : Kx} {W : WX} : ∀ σ H Q, tEvs K W (xCons xa xs) σ H Q → tCons (tEv K W xa) (tEvs K W xs) σ H Q := fun σ H Q ⟨w, env, st, g, r, h⟩ => by
  unfold xCons at h
  rw [R.wp_bind] at h
  refine tEv_mono _ g r h fun d s1 v w1 H1 h1 e1 g1 d1 => ?_
  rw [R.wp_bind] at h1
  exact ⟨w1, env, s1, g1, r.le e1.toLe, R.wp_mono h1 (fun ds s2 h2 vs w2 H2 e2 g2 d2 => h2 (v :: vs) w2 H2 (e1.trans e2) g2 (.cons (d1.le e2.toLe) d2)) fun _ _ _ _ h => h.ext e1⟩
theorem pav_cons (ha : PEv X a xa) (hr : PAv X es xs) (hs : isStar a = false := by rfl) : PAv X (a :: es) (xCons xa xs) := ⟨pa_weak (pa_cons ha hr.pa (star_cons hs)) cons_read, len_cons hr.len⟩
/-! ### displays -/
theorem pev_tup {k : Nat} (ha : PAv X es xs) : PEv X (.Tuple es k pos) (xTup xs) := pe_weak (pe_tup ha.pa) fun σ H Q ⟨w, env, st, g, r, h⟩ => by
  unfold xTup at h
  rw [R.wp_bind] at h
  refine ⟨w, env, st, g, r, R.wp_mono h (fun ds s1 h1 vs w1 H1 e1 g1 d1 => ?_) fun _ _ _ _ h => h⟩
  obtain ⟨hl, h1⟩ := must_wp h1
  exact ⟨by rw [d1.length]; exact hl, Fin.newT g1 d1 (Fin.ext e1 h1)⟩
theorem pev_lst (ha : PAv X es xs) : PEv X (.List es pos) (xLst xs) := pe_weak (pe_lst ha.pa) fun σ H Q ⟨w, env, st, g, r, h⟩ => by
  unfold xLst at h
  rw [R.wp_bind] at h
  refine ⟨w, env, st, g, r, R.wp_mono h (fun ds s1 h1 vs w1 H1 e1 g1 d1 => ?_) fun _ _ _ _ h => h⟩
  obtain ⟨hl, h1⟩ := must_wp h1
  exact ⟨by rw [d1.length]; exact hl, Fin.newL g1 d1 (Fin.ext e1 h1)⟩
theorem Fin.newM {K : Kx} {w : Wd} {H : Hp} {Q : VK} {st : Sto} (g : Good K w H st) {vs : List V} {ds : List D} (r : Dvs K w H vs ds) (h : Fin K w H Q (.mrf st.n) (st.new (.lst ds))) : ∀ p, H p = none → Q (.ref p) (upd H p (.lst vs)) := fun p hp =>
  h _ (w.more p) _ (Ext.more g hp) (g.more hp ⟨vs, upd_same, r.le (Ext.more g hp).toLe⟩) (.mrf (Wd.more_at g p))
theorem pev_mlst (ha : PAv X es xs) : PEv X (.List es pos) (xMlst xs) := pe_weak (pe_lst ha.pa) fun σ H Q ⟨w, env, st, g, r, h⟩ => by
  unfold xMlst at h
  rw [R.wp_bind] at h
  refine ⟨w, env, st, g, r, R.wp_mono h (fun ds s1 h1 vs w1 H1 e1 g1 d1 => ?_) fun _ _ _ _ h => h⟩
  obtain ⟨hl, h1⟩ := must_wp h1
  exact ⟨by rw [d1.length]; exact hl, Fin.newM g1 d1 (Fin.ext e1 h1)⟩
/-- {} that stays as it is -/
theorem pev_dnew0 : PEv X (.Dict [] [] pos) (xLit (.dct [] [])) := pe_weak pe_dnewK fun σ H Q ⟨w, env, st, g, r, h⟩ p hp => by
  exact h _ (w.frz p) _ (Ext.frz g hp) (g.frz hp) (.dct0 (.inr rfl) upd_same)
/-! ### and, or, not -/
theorem pev_one {op : BoolOp} (h : PEv X a xa) : PEv X (.BoolOp op [a] pos) xa := pe_one h
theorem pev_and (ha : PEv X a xa) (hb : PEv X (.BoolOp .And (b :: rest) pos) xb) : PEv X (.BoolOp .And (a :: b :: rest) pos) (xAnd xa xb) := pe_weak (pe_andT ha hb) fun σ H Q ⟨w, env, st, g, r, h⟩ => by
  unfold xAnd at h
  rw [R.wp_bind] at h
  refine tEv_mono _ g r h fun d s1 v w1 H1 h1 e1 g1 d1 => ?_
  obtain ⟨t, q, h1⟩ := may_wp h1
  refine ⟨t, truth_of g1 d1 q, ?_⟩
  cases t with
  | true => exact ⟨w1, env, s1, g1, r.le e1.toLe, wp_fin e1 h1⟩
  | false => exact Fin.here g1 d1 (Fin.ext e1 h1)
theorem pev_or (ha : PEv X a xa) (hb : PEv X (.BoolOp .Or (b :: rest) pos) xb) : PEv X (.BoolOp .Or (a :: b :: rest) pos) (xOr xa xb) := pe_weak (pe_orT ha hb) fun σ H Q ⟨w, env, st, g, r, h⟩ => by
  unfold xOr at h
  rw [R.wp_bind] at h
  refine tEv_mono _ g r h fun d s1 v w1 H1 h1 e1 g1 d1 => ?_
  obtain ⟨t, q, h1⟩ := may_wp h1
  refine ⟨t, truth_of g1 d1 q, ?_⟩
  cases t with
  | false => exact ⟨w1, env, s1, g1, r.le e1.toLe, wp_fin e1 h1⟩
  | true => exact Fin.here g1 d1 (Fin.ext e1 h1)
theorem pev_not (ha : PEv X a xa) : PEv X (.UnaryOp .Not a pos) (xNot xa) := pe_weak (pe_notT ha) fun σ H Q ⟨w, env, st, g, r, h⟩ => by
  unfold xNot at h
  rw [R.wp_bind] at h
  refine tEv_mono _ g r h fun d s1 v w1 H1 h1 e1 g1 d1 => ?_
  obtain ⟨t, q, h1⟩ := may_wp h1
  exact ⟨t, truth_of g1 d1 q, Fin.here g1 (.bl _) (Fin.ext e1 h1)⟩
theorem pev_neg (ha : PEv X a xa) : PEv X (.UnaryOp .USub a pos) (xNeg xa) := pe_weak (pe_un un_neg ha) fun σ H Q ⟨w, env, st, g, r, h⟩ => by
  unfold xNeg at h
  rw [R.wp_bind] at h
  refine tEv_mono _ g r h fun d s1 v w1 H1 h1 e1 g1 d1 => ?_
  obtain ⟨t, q, h1⟩ := may_wp h1
  cases d1 <;> cases q
  exact ⟨_, rfl, Fin.here g1 (.int _) (Fin.ext e1 h1)⟩
/-- a test's reading from a value's -/
theorem wp_test {xc : Ev D} {env : En} {st : Sto} {P : Bool → Sto → Prop} {E : XW} {α : Type} {k : Bool → Sto → R α} {Q : α → Sto → Prop} (h : ((xc env st).bind fun x st => may (truth st x) fun r => k r st).wp Q E) : ((tVal xc) env st).wp (fun t st' => (k t st').wp Q E) E := by
  rw [R.wp_bind] at h
  refine wp_tVal (R.wp_mono h (fun d s1 h1 => ?_) fun _ _ _ _ h => h)
  obtain ⟨t, q, h1⟩ := may_wp h1
  exact ⟨t, q, h1⟩
theorem pev_ife (hc : PTv X c xc) (ha : PEv X a xa) (hb : PEv X b xb) : PEv X (.IfExp c a b pos) (xIfe xc xa xb) := pe_weak (pe_ifExp hc ha hb) fun σ H Q ⟨w, env, st, g, r, h⟩ => by
  have h' := wp_test (P := fun _ _ => True) (k := fun t st => if t = true then xa env st else xb env st) h
  refine tTv_mono _ g r h' fun t s1 w1 H1 h1 e1 g1 => ?_
  cases t with
  | true => exact ⟨w1, env, s1, g1, r.le e1.toLe, wp_fin e1 h1⟩
  | false => exact ⟨w1, env, s1, g1, r.le e1.toLe, wp_fin e1 h1⟩
/-! ### chains -/
theorem pev_chain {op op' : CmpOp} {o o' : Cm2} (ho : OpR X (compareOp op) (rOf (kx X) (cmpD o))) (ho' : OpR X (compareOp op') (rOf (kx X) (cmpD o'))) (ha : PEv X a xa) (hb : PEv X b xb) (hc : PEv X c xc)
    (hm : lastMarks [op, op'] [b, c] = false := by rfl) : PEv X (.Compare a [op, op'] [b, c] pos) (xChain o o' xa xb xc) := pe_weak (pe_chain ho ho' ha hb hc hm) fun σ H Q ⟨w, env, st, g, r, h⟩ => by
  unfold xChain at h
  rw [R.wp_bind] at h
  refine tEv_mono _ g r h fun d s1 v w1 H1 h1 e1 g1 d1 => ?_
  rw [R.wp_bind] at h1
  refine tEv_then _ e1 g1 r h1 fun d' s2 v2 w2 H2 h2 e2 g2 d2 => ?_
  obtain ⟨t, q, h2⟩ := may_wp h2
  refine ⟨w2, s2, d, d', .bl t, g2, d1.le e2.toLe, d2, by unfold cmpD; rw [q]; rfl, ?_⟩
  intro v3 w3 H3 e3 g3 d3
  cases d3
  refine ⟨t, rfl, ?_⟩
  have e13 : Ext w H w3 H3 := (e1.trans e2).trans e3
  cases t with
  | false => exact h2 _ w3 H3 e13 g3 (.bl false)
  | true =>
    rw [if_pos rfl] at h2 ⊢
    rw [R.wp_bind] at h2
    refine tEv_then _ e13 g3 r h2 fun d'' s4 v4 w4 H4 h4 e4 g4 d4 => ?_
    obtain ⟨t2, q2, h4⟩ := may_wp h4
    exact ⟨w4, s4, d', d'', .bl t2, g4, (d2.le e3.toLe).le e4.toLe, d4, by unfold cmpD; rw [q2]; rfl, Fin.ext (e13.trans e4) h4⟩
/-! ### tests -/
theorem ptv_val (ha : PEv X a xa) (he : ∀ whole, isTrue a X.env whole = (do let v ← whole; standAt a.pos; holding [v] (truthy v)) := by intro _; rfl) : PTv X a xa := pt_weak (pt_truth ha he) fun σ H Q ⟨w, env, st, g, r, h⟩ => by
  refine tEv_mono _ g r (tVal_wp h) fun d s1 v w1 H1 ⟨t, q, h1⟩ e1 g1 d1 => ?_
  exact ⟨t, truth_of g1 d1 q, h1 w1 H1 e1 g1⟩
theorem ptv_chain {op op' : CmpOp} {o o' : Cm2} (ho : OpR X (compareOp op) (rOf (kx X) (cmpD o))) (ho' : OpR X (compareOp op') (rOf (kx X) (cmpD o'))) (ha : PEv X a xa) (hb : PEv X b xb) (hc : PEv X c xc)
    (hm : lastMarks [op, op'] [b, c] = false := by rfl) : PTv X (.Compare a [op, op'] [b, c] pos) (xChain o o' xa xb xc) := pt_weak (pt_chain ho ho' ha hb hc hm) fun σ H Q ⟨w, env, st, g, r, h⟩ => by
  have h := tVal_wp h
  unfold xChain at h
  rw [R.wp_bind] at h
  refine tEv_mono _ g r h fun d s1 v w1 H1 h1 e1 g1 d1 => ?_
  rw [R.wp_bind] at h1
  refine tEv_then _ e1 g1 r h1 fun d' s2 v2 w2 H2 h2 e2 g2 d2 => ?_
  obtain ⟨t, q, h2⟩ := may_wp h2
  refine ⟨w2, s2, d, d', .bl t, g2, d1.le e2.toLe, d2, by unfold cmpD; rw [q]; rfl, ?_⟩
  intro v3 w3 H3 e3 g3 d3
  cases d3
  refine ⟨t, rfl, ?_⟩
  have e13 : Ext w H w3 H3 := (e1.trans e2).trans e3
  cases t with
  | false =>
    obtain ⟨t', q', h2⟩ := h2
    cases q'
    exact ⟨false, rfl, h2 w3 H3 e13 g3⟩
  | true =>
    rw [if_pos rfl] at h2 ⊢
    rw [R.wp_bind] at h2
    refine tEv_then _ e13 g3 r h2 fun d'' s4 v4 w4 H4 h4 e4 g4 d4 => ?_
    obtain ⟨t6, q6, h4⟩ := may_wp h4
    refine ⟨w4, s4, d', d'', .bl t6, g4, (d2.le e3.toLe).le e4.toLe, d4, by unfold cmpD; rw [q6]; rfl, ?_⟩
    intro v5 w5 H5 e5 g5 d5
    cases d5
    obtain ⟨t5, q5, h5⟩ := h4
    cases q5
    exact ⟨_, rfl, h5 w5 H5 ((e13.trans e4).trans e5) g5⟩
theorem ptv_not (ha : PTv X a xa) : PTv X (.UnaryOp .Not a pos) (xNot xa) := pt_weak (pt_not ha) fun σ H Q ⟨w, env, st, g, r, h⟩ => by
  have h := tVal_wp h
  unfold xNot at h
  rw [R.wp_bind] at h
  have h' : ((tVal xa) env st).wp (BF (kx X) w H fun t => Q (!t)) (FX (kx X) (CW X) w H (· = σ)) := by
    refine wp_tVal (R.wp_mono h (fun d s1 h1 => ?_) fun _ _ _ _ h => h)
    obtain ⟨t, q, t', q', h1⟩ := may_wp h1
    cases q'
    exact ⟨t, q, h1⟩
  exact tTv_mono _ g r h' fun t s1 w1 H1 h1 e1 g1 => h1 w1 H1 e1 g1
theorem pwv_and1 (ha : PTv X a xa) : PWv X (.BoolOp .And [a] pos) xa := pw_and1 ha
theorem pwv_or1 (ha : PTv X a xa) : PWv X (.BoolOp .Or [a] pos) xa := pw_or1 ha
theorem wp_bf {α : Type} {K : Kx} {W : WX} {w w' : Wd} {H H' : Hp} {S : L2.St → Prop} {Q : α → Hp → Prop} {r : R α} (e : Ext w H w' H') (h : r.wp (BF K w H Q) (FX K W w H S)) : r.wp (BF K w' H' Q) (FX K W w' H' S) := R.wp_mono h (fun _ _ h w2 H2 e2 => h w2 H2 (e.trans e2)) fun _ _ _ _ h => FX.ext e h
theorem pwv_and (ha : PTv X a xa) (hb : PWv X (.BoolOp .And (b :: rest) pos) xb) : PWv X (.BoolOp .And (a :: b :: rest) pos) (xAnd xa xb) := pw_weak (pw_and ha hb) fun σ H Q ⟨w, env, st, g, r, h⟩ => by
  have h := tVal_wp h
  unfold xAnd at h
  rw [R.wp_bind] at h
  have h' : ((tVal xa) env st).wp (fun t st' => if t = true then ((tVal xb) env st').wp (BF (kx X) w H Q) (FX (kx X) (CW X) w H (· = σ)) else BF (kx X) w H Q false st') (FX (kx X) (CW X) w H (· = σ)) := by
    refine wp_tVal (R.wp_mono h (fun d s1 h1 => ?_) fun _ _ _ _ h => h)
    obtain ⟨t, q, h1⟩ := may_wp h1
    refine ⟨t, q, ?_⟩
    cases t with
    | true =>
      rw [if_pos rfl] at h1 ⊢
      exact wp_tVal h1
    | false =>
      rw [if_neg Bool.false_ne_true] at h1 ⊢
      obtain ⟨t2, q2, h2⟩ := h1
      rw [q] at q2
      cases q2
      exact h2
  refine tTv_mono _ g r h' fun t s1 w1 H1 h1 e1 g1 => ?_
  cases t with
  | true =>
    rw [if_pos rfl] at h1 ⊢
    exact ⟨w1, env, s1, g1, r.le e1.toLe, wp_bf e1 h1⟩
  | false =>
    rw [if_neg Bool.false_ne_true] at h1 ⊢
    exact h1 w1 H1 e1 g1
theorem pwv_or (ha : PTv X a xa) (hb : PWv X (.BoolOp .Or (b :: rest) pos) xb) : PWv X (.BoolOp .Or (a :: b :: rest) pos) (xOr xa xb) := pw_weak (pw_or ha hb) fun σ H Q ⟨w, env, st, g, r, h⟩ => by
  have h := tVal_wp h
  unfold xOr at h
  rw [R.wp_bind] at h
  have h' : ((tVal xa) env st).wp (fun t st' => if t = true then BF (kx X) w H Q true st' else ((tVal xb) env st').wp (BF (kx X) w H Q) (FX (kx X) (CW X) w H (· = σ))) (FX (kx X) (CW X) w H (· = σ)) := by
    refine wp_tVal (R.wp_mono h (fun d s1 h1 => ?_) fun _ _ _ _ h => h)
    obtain ⟨t, q, h1⟩ := may_wp h1
    refine ⟨t, q, ?_⟩
    cases t with
    | false =>
      rw [if_neg Bool.false_ne_true] at h1 ⊢
      exact wp_tVal h1
    | true =>
      rw [if_pos rfl] at h1 ⊢
      obtain ⟨t2, q2, h2⟩ := h1
      rw [q] at q2
      cases q2
      exact h2
  refine tTv_mono _ g r h' fun t s1 w1 H1 h1 e1 g1 => ?_
  cases t with
  | false =>
    rw [if_neg Bool.false_ne_true] at h1 ⊢
    exact ⟨w1, env, s1, g1, r.le e1.toLe, wp_bf e1 h1⟩
  | true =>
    rw [if_pos rfl] at h1 ⊢
    exact h1 w1 H1 e1 g1
theorem ptv_w (h : PWv X a xa) : PTv X a xa := h.pt
/-! ### subscripts, slices -/
theorem ix_or : IxR X (fun x y H Q => rIxL X.K x y H Q ∨ (rIxT X.K x y H Q ∨ rIxS x y H Q)) := ix_list.or (ix_tup.or ix_str)
theorem at_rel {K : Kx} {w : Wd} {H : Hp} {vs : List V} {ds : List D} (r : Dvs K w H vs ds) {i : Int} {d : D} (e : atI ds i = some d) : ∃ v, atI vs i = some v ∧ Dv K w H v d := by
  unfold atI at e ⊢
  rw [r.length]
  cases q2 : ixN ds.length i with
  | none => rw [q2] at e; cases e
  | some j =>
    rw [q2] at e
    exact r.get e
theorem ix_v : IxR X (rOf (kx X) ixD) := by
  intro ve se pins s σ H x y v u Q I rx ry ⟨w, st, da, db, d, g, dx, dy, e, hF⟩ hsub
  refine ix_or ve se pins s σ H x y v u Q I rx ry ?_ hsub
  unfold ixD at e
  split at e
  · split at e
    · rename_i hl
      cases dx; cases dy
      cases q : atI _ _ with
      | none => rw [q] at e; cases e
      | some c =>
        rw [q] at e; cases e
        exact .inr (.inr ⟨_, _, c, rfl, rfl, hl, q, Fin.here g (.str _) hF⟩)
    · cases e
  · cases q : asSeq st da with
    | none => rw [q] at e; cases e
    | some ds =>
      rw [q] at e
      obtain ⟨a, vs, rfl, hs, r⟩ := as_seq g dx q
      cases dy
      rename_i i _
      obtain ⟨v', h1, h2⟩ := at_rel r (show atI ds i = some d from e)
      rcases hs with hs | hs
      · exact .inl ⟨a, vs, i, v', rfl, rfl, hs, h1, Fin.here g h2 hF⟩
      · exact .inr (.inl ⟨a, vs, i, v', rfl, rfl, hs, h1, Fin.here g h2 hF⟩)
  · cases e
theorem pev_ix (ha : PEv X a xa) (hb : PEv X b xb) (hs : PlainIx b := by exact fun _ _ => rfl) : PEv X (.Subscript a b pos) (xIx xa xb) := pe_weak (pe_ix ix_v ha hb hs) two
def tOv (K : Kx) (W : WX) (o : Ev (Option Int)) : TO := fun σ H Q => ∃ w env st, Good K w H st ∧ EnvR K w H σ env ∧ (o env st).wp (BF K w H Q) (FX K W w H (· = σ))
theorem po_weak {e : Option Expr} {t t' : TO} (h : PO X e t) (k : ∀ σ H Q, t' σ H Q → t σ H Q) : PO X e t' := ⟨fun pins s σ H Q I q => h.run pins s σ H Q I (k σ H Q q)⟩
theorem pov_none : PO X none (tOv (kx X) (CW X) xONone) := po_weak po_none fun σ H Q ⟨w, env, st, g, r, h⟩ => h w H (Ext.refl w H) g
theorem pov_some (ha : PEv X a xa) : PO X (some a) (tOv (kx X) (CW X) (xOSome xa)) := po_weak (po_some ha) fun σ H Q ⟨w, env, st, g, r, h⟩ => by
  unfold xOSome at h
  rw [R.wp_bind] at h
  refine tEv_mono _ g r h fun d s1 v w1 H1 h1 e1 g1 d1 => ?_
  obtain ⟨i, q, h1⟩ := may_wp h1
  cases d1 <;> cases q
  exact ⟨_, rfl, h1 w1 H1 e1 g1⟩
theorem cut_rel {K : Kx} {w : Wd} {H : Hp} {vs : List V} {ds : List D} (r : Dvs K w H vs ds) (lo hi : Option Int) : Dvs K w H (cutV vs lo hi) (cutD ds lo hi) := by
  unfold cutV cutD
  rw [r.length]
  exact (r.drop _).take _
def rSlV (K : Kx) : V → Option Int → Option Int → Hp → VK → Prop := fun x lo hi H Q => ∃ w st d d', Good K w H st ∧ Dv K w H x d ∧ slD st d lo hi = some d' ∧ Fin K w H Q d' st
theorem sl_v : SlR X (rSlV (kx X)) := by
  intro pins s σ H x v vl vu lo hi sl Q I rx hs pl pu ⟨w, st, d, d', g, dx, e, h⟩
  refine (sl_list.or sl_tupA) pins s σ H x v vl vu lo hi sl Q I rx hs pl pu ?_
  unfold slD at e
  split at e
  · cases e
    obtain ⟨a, vs, rfl, h1, r⟩ := tup_sq dx
    have rc := cut_rel r lo hi
    refine .inr ⟨a, vs, rfl, h1, fun hw => ?_, fun _ p hp => Fin.newT g rc h p hp⟩
    refine Fin.here g ?_ h
    have hcut : ∀ ds : List D, vs.length = ds.length → cutD ds lo hi = ds := fun ds e => by
      unfold cutD
      rw [← e, hw.1, hw.2, List.drop_zero, Nat.sub_zero, e, List.take_length]
    rw [hcut _ r.length]
    exact dx
  · cases e
    obtain ⟨a, vs, rfl, h1, r⟩ := rol_sq dx
    exact .inl ⟨a, vs, rfl, h1, Fin.newL g (cut_rel r lo hi) h⟩
  · cases q : asLst st d with
    | none => rw [q] at e; cases e
    | some ds =>
      rw [q] at e; cases e
      obtain ⟨a, vs, rfl, h1, r⟩ := as_lst g dx q
      exact .inl ⟨a, vs, rfl, .inl (.inl h1), Fin.newL g (cut_rel r lo hi) h⟩
theorem pev_sl {lo hi : Option Expr} {xlo xhi : Ev (Option Int)} (ha : PEv X a xa) (hl : PO X lo (tOv (kx X) (CW X) xlo)) (hh : PO X hi (tOv (kx X) (CW X) xhi)) : PEv X (.Subscript a (.Slice lo hi none p2) pos) (xSl xa xlo xhi) :=
  pe_weak (pe_slice sl_v ha hl hh) fun σ H Q ⟨w, env, st, g, r, h⟩ => by
    unfold xSl at h
    rw [R.wp_bind] at h
    refine tEv_mono _ g r h fun d s1 v w1 H1 h1 e1 g1 d1 => ?_
    rw [R.wp_bind] at h1
    refine ⟨w1, env, s1, g1, r.le e1.toLe, R.wp_mono h1 (fun l s2 h2 w2 H2 e2 g2 => ?_) fun _ _ _ _ h => h.ext e1⟩
    rw [R.wp_bind] at h2
    refine ⟨w2, env, s2, g2, (r.le e1.toLe).le e2.toLe, R.wp_mono h2 (fun l' s3 h3 w3 H3 e3 g3 => ?_) fun _ _ _ _ h => h.ext (e1.trans e2)⟩
    obtain ⟨d', q, h3⟩ := may_wp h3
    exact ⟨w3, s3, d, d', g3, (d1.le e2.toLe).le e3.toLe, q, Fin.ext ((e1.trans e2).trans e3) h3⟩
end
end Qv
end
section
set_option Elab.async false
set_option autoImplicit false
set_option linter.all false
set_option maxRecDepth 100000
set_option maxHeartbeats 2000000
/-! Qv: dicts. -/
namespace Qv
open PySem L2 PySem.Spec PyProof.Rows
/-! ### keys -/
section
variable {X : Cx} {pins : List (Addr × Obj)} {σ : L2.St} {H : Hp} {s : Shared} {w : Wd}
theorem vals_nil {us : List Value} (r : Vals [] us) : us = [] := by cases r; rfl
mutual
theorem nested_of (I : L2.Inv X pins σ H s) : ∀ (d : D) (v : V) (u : Value) (k : NestedKey), Dv (kx X) w H v d → RelV v u → toK d = some k → NestedIs s.heap k u
  | .non, _, _, _, h, r, e => by cases h; cases r; cases e; exact .none
  | .bl b, _, _, _, h, r, e => by cases h; cases r; cases e; exact .bool rfl
  | .int i, _, _, _, h, r, e => by cases h; obtain ⟨t, rfl⟩ := r; cases e; exact .int _ t
  | .str x, _, _, _, h, r, e => by cases h; obtain ⟨t, rfl⟩ := r; cases e; exact .text _ t
  | .tup ds, _, _, _, h, r, e => by
    obtain ⟨a, vs, rfl, hs, rr⟩ := tup_sq h
    cases r
    obtain ⟨its, rv, ⟨o, ho, hc, hd⟩, _⟩ := I.tuple hs
    unfold toK at e
    cases q : toKs ds with
    | none => rw [q] at e; cases e
    | some ks =>
      rw [q] at e
      cases e
      obtain ⟨n, hd⟩ := hd
      exact .tup ho hc hd (by simpa using nested_all I ds vs its ks rr rv q)
  | .lst _, _, _, _, _, _, e => by unfold toK at e; cases e
  | .rol _, _, _, _, _, _, e => by unfold toK at e; cases e
  | .dct _ _, _, _, _, _, _, e => by unfold toK at e; cases e
  | .mrf _, _, _, _, _, _, e => by unfold toK at e; cases e
  | .exn _ _ _, _, _, _, _, _, e => by unfold toK at e; cases e
  | .ins _ _ _, _, _, _, _, _, e => by unfold toK at e; cases e
theorem nested_all (I : L2.Inv X pins σ H s) : ∀ (ds : List D) (vs : List V) (us : List Value) (ks : List NestedKey), Dvs (kx X) w H vs ds → Vals vs us → toKs ds = some ks → NestedAll s.heap ks us
  | [], _, _, _, h, r, e => by cases h; rw [vals_nil r]; cases e; exact .nil
  | d :: ds, _, _, _, h, r, e => by
    cases h with
    | cons a b =>
      cases r with
      | cons r1 r2 =>
        unfold toKs at e
        split at e
        · rename_i p ps h1 h2
          cases e
          exact .cons (nested_of I d _ _ p a r1 h1) (nested_all I ds _ _ ps b r2 h2)
        · cases e
end
end
/-- a flat key as a value; as the kit's key -/
def kvF : NestedKey → V
  | .none => .non | .num i => .int i | .text x => .str x | .tup _ => .non
def kF : NestedKey → Option Key
  | .none => none | .num i => some (.inl i) | .text x => some (.inr x) | .tup _ => none
def flatK : NestedKey → Bool
  | .tup _ => false | _ => true
theorem kF_inj {a b : NestedKey} (ha : flatK a = true) (hb : flatK b = true) (h : kF a = kF b) : a = b := by
  cases a <;> cases b <;> first | rfl | (cases h; done) | (cases ha; done) | (cases hb; done) | (cases h; rfl)
theorem flat_k {d : D} {k : NestedKey} (hf : flatD d = true) (e : toK d = some k) : flatK k = true ∧ ∀ {K : Kx} {w : Wd} {H : Hp} {v : V}, Dv K w H v d ↔ v = kvF k := by
  cases d with
  | non => cases e; exact ⟨rfl, fun {K w H v} => ⟨fun h => by cases h; rfl, fun h => by subst h; exact .non⟩⟩
  | int i => cases e; exact ⟨rfl, fun {K w H v} => ⟨fun h => by cases h; rfl, fun h => by subst h; exact .int i⟩⟩
  | str x => cases e; exact ⟨rfl, fun {K w H v} => ⟨fun h => by cases h; rfl, fun h => by subst h; exact .str x⟩⟩
  | _ => cases hf
theorem is_kF {P : Program} {w : World} {k : NestedKey} {u : Value} (hf : flatK k = true) : (noneKind P w).is (kF k) u = true ↔ RelV (kvF k) u := by
  cases k with
  | none =>
    refine ⟨fun h => ?_, fun h => ?_⟩
    · exact (nk_none h : u = .none)
    · have e : u = Value.none := h
      subst e; rfl
  | num i =>
    refine ⟨fun h => ?_, fun h => ?_⟩
    · rcases keyIs_shape (show keyIs (.inl i) u = true from h) with ⟨j, t, e1, e2⟩ | ⟨x, t, e1, e2⟩
      · cases e1; exact ⟨t, e2⟩
      · cases e1
    · obtain ⟨t, rfl⟩ := h
      exact keyIs_int i t
  | text x =>
    refine ⟨fun h => ?_, fun h => ?_⟩
    · rcases keyIs_shape (show keyIs (.inr x) u = true from h) with ⟨j, t, e1, e2⟩ | ⟨y, t, e1, e2⟩
      · cases e1
      · cases e1; exact ⟨t, e2⟩
    · obtain ⟨t, rfl⟩ := h
      exact keyIs_str x t
  | tup ks => cases hf
theorem hash_kF {P : Program} {w : World} {k : NestedKey} (hf : flatK k = true) : (noneKind P w).hash (kF k) = k.hash w := by
  cases k with
  | tup ks => cases hf
  | none => unfold NestedKey.hash; rfl
  | num i => unfold NestedKey.hash; rfl
  | text x => unfold NestedKey.hash; rfl
/-! ### the entries of a dict, as the kit has them -/
section
variable {P : Program} {w : World}
theorem Ents.len : ∀ {nk : List NestedKey} {xs ys : List V} {es : List DictEntry}, Ents w nk xs ys es → xs.length = nk.length ∧ ys.length = nk.length ∧ es.length = nk.length
  | _, _, _, _, .nil => ⟨rfl, rfl, rfl⟩
  | _, _, _, _, .cons _ _ _ r => ⟨congrArg (· + 1) r.len.1, congrArg (· + 1) r.len.2.1, congrArg (· + 1) r.len.2.2⟩
theorem Ents.keys : ∀ {nk : List NestedKey} {xs ys : List V} {es : List DictEntry}, Ents w nk xs ys es → Vals xs (es.map (·.key)) ∧ Vals ys (es.map (·.val))
  | _, _, _, _, .nil => ⟨.nil, .nil⟩
  | _, _, _, _, .cons _ h1 h2 r => ⟨.cons h1 r.keys.1, .cons h2 r.keys.2⟩
/-- flat keys: pairs -/
theorem ents_pairs : ∀ {nk : List NestedKey} {ys : List V} {es : List DictEntry}, Ents w nk (nk.map kvF) ys es → (∀ k ∈ nk, flatK k = true) →
    Pairs (noneKind P w) es ((nk.map kF).zip (es.map (·.val))) ∧ ∀ e ∈ es, ∃ k, (noneKind P w).is k e.key = true ∧ e.hash = (noneKind P w).hash k
  | [], _, _, .nil, _ => ⟨.nil, fun e h => nomatch h⟩
  | k :: nk, _, _, .cons h0 h1 _ r, hf => by
    have hk := hf k List.mem_cons_self
    obtain ⟨p, q⟩ := ents_pairs r fun j hj => hf j (List.mem_cons_of_mem _ hj)
    refine ⟨.cons ((is_kF hk).mpr h1) rfl p, fun e he => ?_⟩
    rcases List.mem_cons.mp he with z | z
    · subst z
      exact ⟨kF k, (is_kF hk).mpr h1, h0.trans (hash_kF hk).symm⟩
    · exact q e z
theorem pairs_ents : ∀ {nk : List NestedKey} {ys : List V} {us : List Value} {es : List DictEntry}, Pairs (noneKind P w) es ((nk.map kF).zip us) → (∀ e ∈ es, ∃ k, (noneKind P w).is k e.key = true ∧ e.hash = (noneKind P w).hash k) → (∀ k ∈ nk, flatK k = true) → Vals ys us → us.length = nk.length →
    Ents w nk (nk.map kvF) ys es
  | [], ys, [], _, .nil, _, _, r, _ => by cases r; exact .nil
  | [], _, _ :: _, _, _, _, _, _, h => by cases h
  | _ :: _, _, [], _, _, _, _, _, h => by cases h
  | k :: nk, _, u :: us, _, .cons (e := e) h1 h2 p, hk, hf, .cons r1 r2, hl => by
    have hfk := hf k List.mem_cons_self
    refine .cons ?_ ((is_kF hfk).mp h1) (by rw [h2]; exact r1) (pairs_ents p (fun e' he => hk e' (List.mem_cons_of_mem _ he)) (fun j hj => hf j (List.mem_cons_of_mem _ hj)) r2 (by simpa using hl))
    obtain ⟨k2, q1, q2⟩ := hk e List.mem_cons_self
    have := (noneKind P w).inj e.key k2 (kF k) q1 h1
    rw [q2, this, hash_kF hfk]
/-- keys that are tuples -/
def trip : List NestedKey → List V → List DictEntry → List (NestedKey × Addr × Value)
  | k :: nk, .ref a :: xs, e :: es => (k, a, e.val) :: trip nk xs es
  | _, _, _ => []
def isRef : V → Bool
  | .ref _ => true
  | _ => false
theorem ents_trip : ∀ {nk : List NestedKey} {xs ys : List V} {es : List DictEntry}, Ents w nk xs ys es → (∀ x ∈ xs, isRef x = true) →
    es = (trip nk xs es).map (entryOfKey (nestedKind P w)) ∧ (trip nk xs es).map (·.1) = nk ∧ (trip nk xs es).map (fun t => V.ref t.2.1) = xs ∧ (trip nk xs es).map (·.2.2) = es.map (·.val)
  | _, _, _, _, .nil, _ => ⟨rfl, rfl, rfl, rfl⟩
  | _, x :: _, _, _, .cons (e := e) h0 h1 h2 r, hx => by
    obtain ⟨p1, p2, p3, p4⟩ := ents_trip r fun y hy => hx y (List.mem_cons_of_mem _ hy)
    cases x with
    | ref a =>
      refine ⟨?_, ?_, ?_, ?_⟩
      · show e :: _ = entryOfKey (nestedKind P w) (_, a, e.val) :: _
        rw [← p1]
        have hk : e.key = Value.ref a := h1
        obtain ⟨eh, ek, ev⟩ := e
        cases hk
        have h0 : eh = _ := h0
        rw [h0]; rfl
      · show _ :: (trip _ _ _).map (·.1) = _; rw [p2]
      · show V.ref a :: (trip _ _ _).map (fun t => V.ref t.2.1) = _; rw [p3]
      · show e.val :: (trip _ _ _).map (·.2.2) = _; rw [p4]; rfl
    | _ => have := hx _ List.mem_cons_self; cases this
theorem trip_ents : ∀ {ts : List (NestedKey × Addr × Value)} {ys : List V}, Vals ys (ts.map (·.2.2)) → Ents w (ts.map (·.1)) (ts.map fun t => V.ref t.2.1) ys (ts.map (entryOfKey (nestedKind P w)))
  | [], _, r => by cases r; exact .nil
  | (k, a, v) :: ts, _, .cons r1 r2 => .cons rfl rfl r1 (trip_ents r2)
end
/-! ### d[k] = v -/
/-- the rows with k's value v -/
def putU {α β : Type} (k : NestedKey) (d : α) (v : β) : List NestedKey → List α → List β → List NestedKey × List α × List β
  | j :: nk, x :: xs, y :: ys => if j = k then (j :: nk, x :: xs, v :: ys) else (j :: (putU k d v nk xs ys).1, x :: (putU k d v nk xs ys).2.1, y :: (putU k d v nk xs ys).2.2)
  | _, _, _ => ([k], [d], [v])
def putQ (ks vs : List D) (d v : D) : Option (List D × List D) := match toKs ks, toK d with
  | some nk, some k => if ks.length < sizeLine ∧ ((ks.all flatD = true ∧ flatD d = true) ∨ (ks.all tupD = true ∧ tupD d = true)) then some (putU k d v nk ks vs).2 else none
  | _, _ => none
section
variable {k : NestedKey}
theorem putU_key {α β α' β' : Type} {d : α} {v : β} {d' : α'} {v' : β'} : ∀ {nk : List NestedKey} {xs : List α} {ys : List β} {xs' : List α'} {ys' : List β'}, xs.length = nk.length → ys.length = nk.length → xs'.length = nk.length → ys'.length = nk.length →
    (putU k d v nk xs ys).1 = (putU k d' v' nk xs' ys').1
  | [], [], [], [], [], _, _, _, _ => rfl
  | j :: nk, x :: xs, y :: ys, x' :: xs', y' :: ys', h1, h2, h3, h4 => by
    unfold putU
    by_cases z : j = k
    · rw [if_pos z, if_pos z]
    · rw [if_neg z, if_neg z]
      show j :: _ = j :: _
      rw [putU_key (d := d) (v := v) (d' := d') (v' := v') (by simpa using h1) (by simpa using h2) (by simpa using h3) (by simpa using h4)]
  | [], _ :: _, _, _, _, h, _, _, _ => by cases h
  | [], _, _ :: _, _, _, _, h, _, _ => by cases h
  | [], _, _, _ :: _, _, _, _, h, _ => by cases h
  | [], _, _, _, _ :: _, _, _, _, h => by cases h
  | _ :: _, [], _, _, _, h, _, _, _ => by cases h
  | _ :: _, _, [], _, _, _, h, _, _ => by cases h
  | _ :: _, _, _, [], _, _, _, h, _ => by cases h
  | _ :: _, _, _, _, [], _, _, _, h => by cases h
theorem putU_len {α β : Type} {d : α} {v : β} : ∀ {nk : List NestedKey} {xs : List α} {ys : List β}, xs.length = nk.length → ys.length = nk.length →
    (putU k d v nk xs ys).2.1.length = (putU k d v nk xs ys).1.length ∧ (putU k d v nk xs ys).2.2.length = (putU k d v nk xs ys).1.length ∧ (putU k d v nk xs ys).1.length ≤ nk.length + 1
  | [], [], [], _, _ => ⟨rfl, rfl, Nat.le_refl _⟩
  | j :: nk, x :: xs, y :: ys, h1, h2 => by
    unfold putU
    by_cases z : j = k
    · rw [if_pos z]
      exact ⟨h1, by simpa using h2, Nat.le_succ _⟩
    · rw [if_neg z]
      obtain ⟨a, b, c⟩ := putU_len (d := d) (v := v) (xs := xs) (ys := ys) (nk := nk) (by simpa using h1) (by simpa using h2)
      exact ⟨congrArg (· + 1) a, congrArg (· + 1) b, Nat.succ_le_succ c⟩
  | [], _ :: _, _, h, _ => by cases h
  | [], _, _ :: _, _, h => by cases h
  | _ :: _, [], _, h, _ => by cases h
  | _ :: _, _, [], _, h => by cases h
theorem putU_mem {α β : Type} {d : α} {v : β} : ∀ {nk : List NestedKey} {xs : List α} {ys : List β} {j : NestedKey}, j ∈ (putU k d v nk xs ys).1 → j = k ∨ j ∈ nk
  | [], _, _, j, h => .inl (by unfold putU at h; simpa using h)
  | _ :: _, [], _, j, h => .inl (by unfold putU at h; simpa using h)
  | _ :: _, _ :: _, [], j, h => .inl (by unfold putU at h; simpa using h)
  | i :: nk, x :: xs, y :: ys, j, h => by
    unfold putU at h
    by_cases z : i = k
    · rw [if_pos z] at h
      exact .inr h
    · rw [if_neg z] at h
      rcases List.mem_cons.mp h with q | q
      · exact .inr (by rw [q]; exact List.mem_cons_self)
      · rcases putU_mem q with q | q
        · exact .inl q
        · exact .inr (List.mem_cons_of_mem _ q)
theorem putU_nodup {α β : Type} {d : α} {v : β} : ∀ {nk : List NestedKey} {xs : List α} {ys : List β}, nk.Nodup → xs.length = nk.length → ys.length = nk.length → (putU k d v nk xs ys).1.Nodup
  | [], _, _, _, _, _ => by unfold putU; simp
  | j :: nk, x :: xs, y :: ys, h, h1, h2 => by
    unfold putU
    by_cases z : j = k
    · rw [if_pos z]; exact h
    · rw [if_neg z]
      obtain ⟨a, b⟩ := List.nodup_cons.mp h
      refine List.nodup_cons.mpr ⟨fun m => ?_, putU_nodup b (by simpa using h1) (by simpa using h2)⟩
      rcases putU_mem m with q | q
      · exact z q
      · exact a q
  | _ :: _, [], _, _, h, _ => by cases h
  | _ :: _, _, [], _, _, h => by cases h
theorem putU_toKs {β : Type} {d : D} {v : β} (hk : toK d = some k) : ∀ {ks : List D} {nk : List NestedKey} {ys : List β}, toKs ks = some nk → ys.length = nk.length → toKs (putU k d v nk ks ys).2.1 = some (putU k d v nk ks ys).1
  | [], _, ys, e, _ => by
    cases e
    unfold putU
    show (match toK d, toKs [] with | some p, some ps => some (p :: ps) | _, _ => none) = some [k]
    rw [hk]; rfl
  | c :: ks, nk, ys, e, hl => by
    unfold toKs at e
    split at e
    · rename_i p ps h1 h2
      cases e
      cases ys with
      | nil => cases hl
      | cons y ys =>
        unfold putU
        by_cases z : p = k
        · rw [if_pos z]
          show (match toK c, toKs ks with | some p, some ps => some (p :: ps) | _, _ => none) = some (p :: ps)
          rw [h1, h2]
        · rw [if_neg z]
          show (match toK c, toKs (putU k d v ps ks ys).2.1 with | some p, some ps => some (p :: ps) | _, _ => none) = some (p :: (putU k d v ps ks ys).1)
          rw [h1, putU_toKs hk h2 (by simpa using hl)]
    · cases e
theorem putU_all {β : Type} {p : D → Bool} {d : D} {v : β} (hd : p d = true) : ∀ {nk : List NestedKey} {ks : List D} {ys : List β}, ks.all p = true → (putU k d v nk ks ys).2.1.all p = true
  | [], ks, _, h => by unfold putU; simp [hd]
  | _ :: _, [], _, h => by unfold putU; simp [hd]
  | _ :: _, _ :: _, [], h => by unfold putU; simp [hd]
  | j :: nk, c :: ks, y :: ys, h => by
    rw [List.all_cons, Bool.and_eq_true] at h
    unfold putU
    by_cases z : j = k
    · rw [if_pos z]; simp [h.1, h.2]
    · rw [if_neg z]
      show (c :: (putU k d v nk ks ys).2.1).all p = true
      rw [List.all_cons, h.1, putU_all hd h.2]; rfl
theorem putU_dvs {K : Kx} {w : Wd} {H : Hp} {x y : V} {d v : D} (dx : Dv K w H x d) (dy : Dv K w H y v) : ∀ {nk : List NestedKey} {xs ys : List V} {ks vs : List D}, Dvs K w H xs ks → Dvs K w H ys vs → xs.length = nk.length → ys.length = nk.length →
    Dvs K w H (putU k x y nk xs ys).2.1 (putU k d v nk ks vs).2.1 ∧ Dvs K w H (putU k x y nk xs ys).2.2 (putU k d v nk ks vs).2.2
  | [], _, _, _, _, .nil, .nil, _, _ => ⟨.cons dx .nil, .cons dy .nil⟩
  | j :: nk, _, _, _, _, .cons a1 r1, .cons a2 r2, h1, h2 => by
    unfold putU
    by_cases z : j = k
    · rw [if_pos z, if_pos z]
      exact ⟨.cons a1 r1, .cons dy r2⟩
    · rw [if_neg z, if_neg z]
      obtain ⟨p, q⟩ := putU_dvs dx dy (nk := nk) r1 r2 (by simpa using h1) (by simpa using h2)
      exact ⟨.cons a1 p, .cons a2 q⟩
  | [], _, _, _, _, .cons _ _, _, h, _ => by cases h
  | [], _, _, _, _, .nil, .cons _ _, _, h => by cases h
  | _ :: _, _, _, _, _, .nil, _, h, _ => by cases h
  | _ :: _, _, _, _, _, .cons _ _, .nil, _, h => by cases h
theorem putU_vals {α : Type} {x : α} {y : V} {r : Value} (ry : RelV y r) : ∀ {nk : List NestedKey} {as bs : List α} {ys : List V} {us : List Value}, Vals ys us → as.length = nk.length → bs.length = nk.length → us.length = nk.length → Vals (putU k x y nk as ys).2.2 (putU k x r nk bs us).2.2
  | [], _, _, _, _, .nil, _, _, _ => by unfold putU; exact .cons ry .nil
  | j :: nk, a :: as, b :: bs, _, _, .cons r1 r2, h1, h2, h3 => by
    unfold putU
    by_cases z : j = k
    · rw [if_pos z, if_pos z]; exact .cons ry r2
    · rw [if_neg z, if_neg z]; exact .cons r1 (putU_vals ry r2 (by simpa using h1) (by simpa using h2) (by simpa using h3))
  | [], _, _, _, _, .cons _ _, _, _, h => by cases h
  | _ :: _, [], _, _, _, _, h, _, _ => by cases h
  | _ :: _, _, [], _, _, _, _, h, _ => by cases h
  | _ :: _, _, _, _, _, .nil, _, _, h => by cases h
end
/-- the kit's way with pairs -/
theorem stored_cons {κ : Type} [DecidableEq κ] {j k : κ} {u r : Value} {l : List (κ × Value)} (h : j ∉ l.map (·.1)) : stored ((j, u) :: l) k r = if j = k then (j, r) :: l else (j, u) :: stored l k r := by
  unfold stored
  by_cases z : j = k
  · subst z
    rw [if_pos (by simp), if_pos rfl, List.map_cons, if_pos rfl]
    congr 1
    refine (List.map_congr_left fun p hp => ?_).trans (List.map_id _)
    rw [if_neg fun z => h (by rw [← z]; exact List.mem_map.mpr ⟨p, hp, rfl⟩)]; rfl
  · rw [if_neg z, List.map_cons, if_neg z]
    by_cases y : (l.any fun kv => decide (kv.1 = k)) = true
    · rw [if_pos y, if_pos (by simp [z]; simpa using y)]
    · rw [if_neg y, if_neg (by simp [z]; simpa using y)]; rfl
theorem stored_U {α : Type} {d : α} {k : NestedKey} {r : Value} (hk : flatK k = true) : ∀ {nk : List NestedKey} {as : List α} {us : List Value}, nk.Nodup → (∀ j ∈ nk, flatK j = true) → as.length = nk.length → us.length = nk.length →
    stored ((nk.map kF).zip us) (kF k) r = ((putU k d r nk as us).1.map kF).zip (putU k d r nk as us).2.2
  | [], [], [], _, _, _, _ => rfl
  | j :: nk, a :: as, u :: us, hn, hf, h1, h2 => by
    obtain ⟨n1, n2⟩ := List.nodup_cons.mp hn
    have hj := hf j List.mem_cons_self
    have ih := stored_U (d := d) (r := r) hk (as := as) (us := us) n2 (fun i hi => hf i (List.mem_cons_of_mem _ hi)) (by simpa using h1) (by simpa using h2)
    rw [List.map_cons, List.zip_cons_cons, stored_cons fun m => ?_]
    · unfold putU
      by_cases z : j = k
      · rw [if_pos (congrArg kF z), if_pos z]; rfl
      · rw [if_neg fun q => z (kF_inj hj hk q), if_neg z, ih]; rfl
    · obtain ⟨p, hp, e⟩ := List.mem_map.mp m
      obtain ⟨i, hi, ei⟩ := List.mem_map.mp (List.of_mem_zip hp).1
      rw [e] at ei
      exact n1 ((kF_inj (hf i (List.mem_cons_of_mem _ hi)) hj ei) ▸ hi)
  | [], _ :: _, _, _, _, h, _ => by cases h
  | [], _, _ :: _, _, _, _, h => by cases h
  | _ :: _, [], _, _, _, h, _ => by cases h
  | _ :: _, _, [], _, _, _, h => by cases h
theorem storedH_cons {κ : Type} [DecidableEq κ] {j k : κ} {a b : Addr} {u r : Value} {l : List (κ × Addr × Value)} (h : j ∉ l.map (·.1)) : storedH ((j, a, u) :: l) k b r = if j = k then (j, a, r) :: l else (j, a, u) :: storedH l k b r := by
  unfold storedH
  by_cases z : j = k
  · subst z
    rw [if_pos (by simp [atKey]), if_pos rfl, List.map_cons]
    have e1 : putAt j r (j, a, u) = (j, a, r) := if_pos rfl
    rw [e1]
    congr 1
    refine (List.map_congr_left fun p hp => ?_).trans (List.map_id _)
    unfold putAt
    rw [if_neg fun z => h (by rw [← z]; exact List.mem_map.mpr ⟨p, hp, rfl⟩)]; rfl
  · have e0 : atKey ((j, a, u) :: l) k = atKey l k := by unfold atKey; rw [List.find?_cons_of_neg (by simpa using z)]
    have e1 : putAt k r (j, a, u) = (j, a, u) := if_neg z
    rw [e0, if_neg z, List.map_cons, e1]
    by_cases y : (atKey l k).isSome = true
    · rw [if_pos y, if_pos y]
    · rw [if_neg y, if_neg y]; rfl
theorem storedH_U {k : NestedKey} {b : Addr} {r : Value} : ∀ {ts : List (NestedKey × Addr × Value)}, (ts.map (·.1)).Nodup →
    (storedH ts k b r).map (·.1) = (putU k (V.ref b) r (ts.map (·.1)) (ts.map fun t => V.ref t.2.1) (ts.map (·.2.2))).1 ∧ (storedH ts k b r).map (fun t => V.ref t.2.1) = (putU k (V.ref b) r (ts.map (·.1)) (ts.map fun t => V.ref t.2.1) (ts.map (·.2.2))).2.1 ∧
      (storedH ts k b r).map (·.2.2) = (putU k (V.ref b) r (ts.map (·.1)) (ts.map fun t => V.ref t.2.1) (ts.map (·.2.2))).2.2
  | [], _ => ⟨rfl, rfl, rfl⟩
  | (j, a, u) :: ts, hn => by
    obtain ⟨n1, n2⟩ := List.nodup_cons.mp (show (j :: ts.map (·.1)).Nodup from hn)
    obtain ⟨i1, i2, i3⟩ := storedH_U (k := k) (b := b) (r := r) n2
    rw [storedH_cons n1, List.map_cons, List.map_cons, List.map_cons]
    unfold putU
    by_cases z : j = k
    · rw [if_pos z, if_pos z]; exact ⟨rfl, rfl, rfl⟩
    · rw [if_neg z, if_neg z, List.map_cons, List.map_cons, List.map_cons, i1, i2, i3]
      exact ⟨rfl, rfl, rfl⟩
theorem putU_snd {α β β' : Type} {k : NestedKey} {d : α} {v : β} {v' : β'} : ∀ {nk : List NestedKey} {xs : List α} {ys : List β} {ys' : List β'}, ys.length = nk.length → ys'.length = nk.length → (putU k d v nk xs ys).2.1 = (putU k d v' nk xs ys').2.1
  | [], _, [], [], _, _ => rfl
  | _ :: _, [], _ :: _, _ :: _, _, _ => rfl
  | j :: nk, x :: xs, y :: ys, y' :: ys', h1, h2 => by
    unfold putU
    by_cases z : j = k
    · rw [if_pos z, if_pos z]
    · rw [if_neg z, if_neg z]
      show x :: _ = x :: _
      rw [putU_snd (v := v) (v' := v') (by simpa using h1) (by simpa using h2)]
  | [], _, _ :: _, _, h, _ => by cases h
  | [], _, _, _ :: _, _, h => by cases h
  | _ :: _, _, [], _, h, _ => by cases h
  | _ :: _, _, _, [], _, h => by cases h
theorem nodup_kF : ∀ {nk : List NestedKey}, nk.Nodup → (∀ j ∈ nk, flatK j = true) → (nk.map kF).Nodup
  | [], _, _ => List.nodup_nil
  | j :: nk, h, hf => by
    obtain ⟨a, b⟩ := List.nodup_cons.mp h
    refine List.nodup_cons.mpr ⟨fun m => ?_, nodup_kF b fun i hi => hf i (List.mem_cons_of_mem _ hi)⟩
    obtain ⟨i, hi, e⟩ := List.mem_map.mp m
    exact a ((kF_inj (hf i (List.mem_cons_of_mem _ hi)) (hf j List.mem_cons_self) e) ▸ hi)
theorem flat_xs {K : Kx} {w : Wd} {H : Hp} : ∀ {xs : List V} {ks : List D} {nk : List NestedKey}, Dvs K w H xs ks → toKs ks = some nk → ks.all flatD = true → xs = nk.map kvF ∧ ∀ j ∈ nk, flatK j = true
  | _, _, _, .nil, e, _ => by cases e; exact ⟨rfl, fun j h => nomatch h⟩
  | _, _, _, .cons (d := d) (ds := ds) a r, e, h => by
    rw [List.all_cons, Bool.and_eq_true] at h
    unfold toKs at e
    split at e
    · rename_i p ps h1 h2
      cases e
      obtain ⟨f, g⟩ := flat_k h.1 h1
      obtain ⟨i1, i2⟩ := flat_xs r h2 h.2
      refine ⟨by rw [g.mp a, i1]; rfl, fun j hj => ?_⟩
      rcases List.mem_cons.mp hj with z | z
      · rw [z]; exact f
      · exact i2 j z
    · cases e
theorem tup_xs {K : Kx} {w : Wd} {H : Hp} : ∀ {xs : List V} {ks : List D} {nk : List NestedKey}, Dvs K w H xs ks → toKs ks = some nk → ks.all tupD = true → (∀ x ∈ xs, isRef x = true) ∧ ∀ j ∈ nk, j.depth ≤ 8
  | _, _, _, .nil, e, _ => by cases e; exact ⟨fun x h => (nomatch h), fun j h => (nomatch h)⟩
  | _, _, _, .cons (d := d) (ds := ds) a r, e, h => by
    rw [List.all_cons, Bool.and_eq_true] at h
    unfold toKs at e
    split at e
    · rename_i p ps h1 h2
      cases e
      obtain ⟨i1, i2⟩ := tup_xs r h2 h.2
      have hd := h.1
      cases d with
      | tup es =>
        obtain ⟨b, us, rfl, _, _⟩ := tup_sq a
        have h1 : (toKs es).map NestedKey.tup = some p := h1
        have hd : (match toKs es with | some ks => decide ((NestedKey.tup ks).depth ≤ 8) | none => false) = true := hd
        refine ⟨fun x hx => ?_, fun j hj => ?_⟩
        · rcases List.mem_cons.mp hx with z | z
          · subst z; rfl
          · exact i1 x z
        · rcases List.mem_cons.mp hj with z | z
          · subst z
            cases q : toKs es with
            | none => rw [q] at h1; cases h1
            | some ks => rw [q] at h1 hd; cases h1; exact of_decide_eq_true hd
          · exact i2 j z
      | _ => cases hd
    · cases e
theorem trip_is {P : Program} {w : World} {h : Heap} : ∀ {nk : List NestedKey} {xs ys : List V} {es : List DictEntry}, Ents w nk xs ys es → NestedAll h nk (es.map (·.key)) → (∀ x ∈ xs, isRef x = true) → (∀ j ∈ nk, j.depth ≤ 8) → ∀ t ∈ trip nk xs es, (nestedKind P w).is h t.1 t.2.1
  | _, _, _, _, .nil, _, _, _, t, ht => nomatch ht
  | _, x :: _, _, _, .cons (e := e) h0 h1 h2 r, na, hx, hj, t, ht => by
    have nx := hx x List.mem_cons_self
    cases x with
    | ref a =>
      cases na with
      | cons n1 n2 =>
        rcases List.mem_cons.mp ht with z | z
        · subst z
          have hk : e.key = Value.ref a := h1
          have n1 : NestedIs h _ e.key := n1
          rw [hk] at n1
          exact ⟨n1, hj _ List.mem_cons_self⟩
        · exact trip_is r n2 (fun y hy => hx y (List.mem_cons_of_mem _ hy)) (fun j h => hj j (List.mem_cons_of_mem _ h)) t z
    | _ => cases nx
theorem dcq_ok {P : Program} {w : World} {H : Hp} {h : Heap} {dA : Addr} {nk : List NestedKey} {xs ys : List V} {o : Obj} {es : Array DictEntry} {ep : Nat} (hd : (dA == sysModules) = false) (ho : h.get? dA = some o) (hx : o.ExactDict) (hdt : o.data = .dict es ep) (he : Ents w nk xs ys es.toList) : ObjOk P w H h dA (dcq w dA nk xs ys) :=
  ⟨⟨hd, o, es, ep, ho, hx, hdt, he⟩, ⟨o, ho⟩, fun _ _ ⟨a, o, es, ep, b, r⟩ k => ⟨a, o, es, ep, k o b, r⟩⟩
section
variable {X : Cx} {pins : List (Addr × Obj)} {σ : L2.St} {H : Hp} {s : Shared} {w : Wd}
/-- a dict seen as the kit sees it -/
inductive DView (P : Program) (w : World) (h : Heap) (dA : Addr) (nk : List NestedKey) (xs ys : List V) : Prop where
  | flat (us : List Value) : xs = nk.map kvF → (∀ j ∈ nk, flatK j = true) → Vals ys us → us.length = nk.length → h.DictOf (noneKind P w) dA ((nk.map kF).zip us) → DView P w h dA nk xs ys
  | tup (ts : List (NestedKey × Addr × Value)) : (∀ j ∈ nk, j.depth ≤ 8) → ts.map (·.1) = nk → ts.map (fun t => V.ref t.2.1) = xs → Vals ys (ts.map (·.2.2)) → h.DictOfH (nestedKind P w) dA ts → DView P w h dA nk xs ys
theorem dview {dA : Addr} {nk : List NestedKey} {xs ys : List V} {ks : List D} (I : L2.Inv X pins σ H s) (hD : H dA = some (dcq X.w dA nk xs ys)) (hk : toKs ks = some nk) (hn : nk.Nodup) (rk : Dvs (kx X) w H xs ks) :
    (dA == sysModules) = false ∧ (ks.all flatD = true → ∃ us, xs = nk.map kvF ∧ (∀ j ∈ nk, flatK j = true) ∧ Vals ys us ∧ us.length = nk.length ∧ s.heap.DictOf (noneKind X.prog X.w) dA ((nk.map kF).zip us)) ∧
      (ks.all tupD = true → ∃ ts : List (NestedKey × Addr × Value), (∀ j ∈ nk, j.depth ≤ 8) ∧ ts.map (·.1) = nk ∧ ts.map (fun t => V.ref t.2.1) = xs ∧ Vals ys (ts.map (·.2.2)) ∧ s.heap.DictOfH (nestedKind X.prog X.w) dA ts) := by
  obtain ⟨⟨hd, o, es, ep, ho, hx, hdt, he⟩, _, _⟩ := (show ObjOk X.prog X.w H s.heap dA (dcq X.w dA nk xs ys) from I.hok dA _ hD)
  obtain ⟨l1, l2, l3⟩ := he.len
  obtain ⟨vk, vy⟩ := he.keys
  refine ⟨hd, fun hf => ?_, fun ht => ?_⟩
  · obtain ⟨hxs, hj⟩ := flat_xs rk hk hf
    rw [hxs] at he
    obtain ⟨p, q⟩ := ents_pairs (P := X.prog) he hj
    have hl : (es.toList.map (·.val)).length = nk.length := by rw [List.length_map]; exact l3
    exact ⟨es.toList.map (·.val), hxs, hj, vy, hl, o, es, ep, ho, hx, hdt, fun e he => q e (by simpa using he), p, by rw [List.map_fst_zip (by rw [List.length_map, hl]; exact Nat.le_refl _)]; exact nodup_kF hn hj⟩
  · obtain ⟨hr, hj⟩ := tup_xs rk hk ht
    obtain ⟨p1, p2, p3, p4⟩ := ents_trip (P := X.prog) he hr
    have na := nested_all I ks xs _ nk rk vk hk
    exact ⟨trip nk xs es.toList, hj, p2, p3, by rw [p4]; exact vy, o, es, ep, ho, hx, hdt, p1, trip_is he na hr hj, by rw [p2]; exact hn⟩
theorem dictSet_q {dA : Addr} {nk : List NestedKey} {xs ys : List V} {ks vs : List D} {x y : V} {d v : D} {p : List D × List D} {u r : Value} {Q : Unit → Shared → Prop} {E : Value → Shared → Prop} (I : L2.Inv X pins σ H s) (hD : H dA = some (dcq X.w dA nk xs ys)) (hk : toKs ks = some nk) (hn : nk.Nodup) (rk : Dvs (kx X) w H xs ks) (ry : Dvs (kx X) w H ys vs)
    (dk : Dv (kx X) w H x d) (dv : Dv (kx X) w H y v) (hp : putQ ks vs d v = some p) (rx : RelV x u) (rr : RelV y r) (hu : X.A.units + 9 < cLine)
    (h : ∀ (s' : Shared) (nk' : List NestedKey) (xs' ys' : List V), L2.Inv X pins σ (upd H dA (dcq X.w dA nk' xs' ys')) s' → toKs p.1 = some nk' → nk'.Nodup → uniD p.1 = true → Dvs (kx X) w H xs' p.1 → Dvs (kx X) w H ys' p.2 → Q () s') :
    wpAny (model X.prog X.w) X.A (dictSet dA u r) Q E s := by
  unfold putQ at hp
  rw [hk] at hp
  cases ed : toK d with
  | none => rw [ed] at hp; cases hp
  | some k =>
    rw [ed] at hp
    have hp : (if ks.length < sizeLine ∧ ((ks.all flatD = true ∧ flatD d = true) ∨ (ks.all tupD = true ∧ tupD d = true)) then some (putU k d v nk ks vs).2 else none) = some p := hp
    split at hp
    · rename_i hc
      obtain ⟨hz, hc⟩ := hc
      cases hp
      obtain ⟨hd, vf, vt⟩ := dview I hD hk hn rk
      obtain ⟨⟨_, o0, es0, ep0, ho0, hx0, hdt0, he0⟩, _, _⟩ := (show ObjOk X.prog X.w H s.heap dA (dcq X.w dA nk xs ys) from I.hok dA _ hD)
      obtain ⟨l1, l2, _⟩ := he0.len
      have lk : ks.length = nk.length := rk.length.symm.trans l1
      have lv : vs.length = nk.length := ry.length.symm.trans l2
      have hk' := putU_toKs (k := k) (d := d) (v := v) ed hk lv
      have dd := putU_dvs (k := k) dk dv (nk := nk) rk ry l1 l2
      have hn1 : (putU k d v nk ks vs).1.Nodup := putU_nodup hn lk lv
      have key1 : (putU k x y nk xs ys).1 = (putU k d v nk ks vs).1 := putU_key l1 l2 lk lv
      rcases hc with ⟨hf, fd⟩ | ⟨ht, td⟩
      · obtain ⟨us, hxs, hj, vy, hl, D0⟩ := vf hf
        obtain ⟨fk, gk⟩ := flat_k fd ed
        have hx := gk.mp dk
        refine wpAny_dictSet_pairs (knd := noneKind X.prog X.w) (k := kF k) ((is_kF fk).mpr (by rw [← hx]; exact rx)) D0 (fun h' D1 hs => ?_) (by rw [List.length_zip, List.length_map, hl, Nat.min_self, ← lk]; omega)
        rw [stored_U (d := x) (as := xs) fk hn hj l1 hl] at D1
        obtain ⟨o', es', ep', ho', hx', hd', hk2, pr', _⟩ := D1
        have all' : (putU k d v nk ks vs).2.1.all flatD = true := putU_all fd hf
        obtain ⟨f1, f2⟩ := flat_xs dd.1 hk' all'
        have key2 : (putU k x r nk xs us).1 = (putU k d v nk ks vs).1 := putU_key l1 hl lk lv
        have en := pairs_ents (P := X.prog) (ys := (putU k x y nk xs ys).2.2) pr' (fun e he => hk2 e (by simpa using he)) (by rw [key2]; exact f2) (putU_vals rr vy l1 l1 hl) (putU_len l1 hl).2.1
        rw [key2] at en
        refine h _ _ _ _ (d_write I (by rw [hD]; trivial) hs ⟨_, ho'⟩ (dcq_ok hd ho' hx' hd' en)) hk' hn1 (by unfold uniD; rw [all']; rfl) (by rw [← f1]; exact dd.1) dd.2
      · obtain ⟨ts, hj, t1, t2, vy, D0⟩ := vt ht
        have all' : (putU k d v nk ks vs).2.1.all tupD = true := putU_all td ht
        have lts : ts.length = nk.length := by rw [← t1, List.length_map]
        cases d with
        | tup es =>
          obtain ⟨b, us, rfl, _, _⟩ := tup_sq dk
          cases rx
          have nk1 := nested_of I _ _ _ k dk rfl ed
          have hdep : k.depth ≤ 8 := by
            have ed : (toKs es).map NestedKey.tup = some k := ed
            have td : (match toKs es with | some ks => decide ((NestedKey.tup ks).depth ≤ 8) | none => false) = true := td
            cases q : toKs es with
            | none => rw [q] at ed; cases ed
            | some k2 => rw [q] at ed td; cases ed; exact of_decide_eq_true td
          refine wpAny_dictSet_heap (knd := nestedKind X.prog X.w) (k := k) (show X.A.units + 8 < cLine by omega) ⟨nk1, hdep⟩ D0 (fun h' D1 hs => ?_) (by rw [lts, ← lk]; omega)
          obtain ⟨o', es', ep', ho', hx', hd', he', _, _⟩ := D1
          obtain ⟨q1, q2, q3⟩ := storedH_U (k := k) (b := b) (r := r) (ts := ts) (by rw [t1]; exact hn)
          rw [t1, t2] at q1 q2 q3
          have lu : (ts.map (·.2.2)).length = nk.length := by rw [List.length_map]; exact lts
          have en := trip_ents (P := X.prog) (w := X.w) (ts := storedH ts k b r) (ys := (putU k (.ref b) y nk xs ys).2.2) (by rw [q3]; exact putU_vals rr vy l1 l1 lu)
          rw [q1, q2, putU_snd (v' := y) (ys' := ys) lu l2, (putU_key l1 lu lk lv : (putU k (V.ref b) r nk xs (ts.map (·.2.2))).1 = (putU k (.tup es) v nk ks vs).1)] at en
          refine h _ _ _ _ (d_write I (by rw [hD]; trivial) hs ⟨_, ho'⟩ (dcq_ok hd ho' hx' hd' (by rw [he']; exact en))) hk' hn1 (by unfold uniD; rw [all', Bool.or_true]) dd.1 dd.2
        | _ => cases td
    · cases hp
/-- a new dict -/
theorem dcq_new {P : Program} {w : World} {H : Hp} (h : Heap) (hb : sysModules < h.objs.size) : ObjOk P w H (h.push { cls := .type "dict", data := .dict #[] }) h.objs.size (dcq w h.objs.size [] [] []) :=
  dcq_ok (beq_eq_false_iff_ne.mpr (Ne.symm (Nat.ne_of_lt hb))) (Heap.get?_push_size _ rfl) ⟨rfl, rfl, rfl⟩ rfl .nil
/-- what is a dict -/
theorem as_dct {K : Kx} {w : Wd} {H : Hp} {st : Sto} (g : Good K w H st) {v : V} {d : D} {p : List D × List D} (h : Dv K w H v d) (e : asDct st d = some p) : ∃ a, v = .ref a ∧ ((H a = some (.dK []) ∧ p = ([], [])) ∨
    ∃ nk xs ys, H a = some (dcq K.w a nk xs ys) ∧ toKs p.1 = some nk ∧ nk.Nodup ∧ uniD p.1 = true ∧ Dvs K w H xs p.1 ∧ Dvs K w H ys p.2) := by
  cases h with
  | dct0 f o => cases e; exact ⟨_, rfl, .inl ⟨o, rfl⟩⟩
  | dct f o h1 h2 h3 h4 h5 => cases e; exact ⟨_, rfl, .inr ⟨_, _, _, o, h1, h2, h3, h4, h5⟩⟩
  | @mrf k a o =>
    have e : (match st.get k with | some (MO.dct ks vs) => some (ks, vs) | _ => none) = some p := e
    split at e
    · rename_i ks vs q
      cases e
      obtain ⟨_, nk, xs, ys, h3, h⟩ := g.at q o
      exact ⟨a, rfl, .inr ⟨nk, xs, ys, h3, h⟩⟩
    · cases e
  | _ => cases e
theorem len_q {dA : Addr} {nk : List NestedKey} {xs ys : List V} {ks : List D} {A : Around} {Q : Value → Shared → Prop} {E : Value → Shared → Prop} (I : L2.Inv X pins σ H s) (hD : H dA = some (dcq X.w dA nk xs ys)) (hk : toKs ks = some nk) (hn : nk.Nodup) (hu : uniD ks = true) (rk : Dvs (kx X) w H xs ks) (hl : ks.length ≤ sizeLine)
    (h : ∀ t s', L2.Inv X pins σ H s' → Q (.int ks.length t) s') : wpAny (model X.prog X.w) A (call (.builtin "len") [.ref dA]) Q E s := by
  obtain ⟨hd, vf, vt⟩ := dview I hD hk hn rk
  obtain ⟨⟨_, o0, es0, ep0, ho0, hx0, hdt0, he0⟩, _, _⟩ := (show ObjOk X.prog X.w H s.heap dA (dcq X.w dA nk xs ys) from I.hok dA _ hD)
  have lk : ks.length = nk.length := rk.length.symm.trans he0.len.1
  have hz : (ks.length : Int) < 2 ^ 63 := by have := sizeLine_eq; omega
  unfold uniD at hu
  rcases Bool.or_eq_true_iff.mp hu with hf | ht
  · obtain ⟨us, _, _, _, hl, D0⟩ := vf hf
    have le : ((nk.map kF).zip us).length = ks.length := by rw [List.length_zip, List.length_map, hl, Nat.min_self, lk]
    exact call_len_dict hd D0 (by rw [le]; exact hz) (by rw [le]; exact h _ _ (I.tok _))
  · obtain ⟨ts, _, t1, _, _, D0⟩ := vt ht
    have le : ts.length = ks.length := by rw [lk, ← t1, List.length_map]
    exact call_len_dictH hd D0 (by rw [le]; exact hz) (by rw [le]; exact h _ _ (I.tok _))
end
theorem heap_size : ∀ n : Nat, ∃ h : Heap, h.objs.size = n
  | 0 => ⟨{}, rfl⟩
  | n + 1 => by
    obtain ⟨h, e⟩ := heap_size n
    exact ⟨h.push { cls := .none, data := .fields #[] }, by rw [Heap.size_push, e]⟩
theorem dcq_codeO {w : World} {a c : Addr} {nk : List NestedKey} {xs ys : List V} {q : Str} : dcq w a nk xs ys ≠ LamX.CodeO a q := fun z => by
  unfold dcq LamX.CodeO at z
  injection z with z
  obtain ⟨h, hs⟩ := heap_size a
  have e : (h.push { cls := .none, data := .fields #[.none, .str q 0] }).get? a = some { cls := .none, data := .fields #[.none, .str q 0] } := hs ▸ Heap.get?_push_size _ rfl
  have r := congrFun z (h.push { cls := .none, data := .fields #[.none, .str q 0] })
  have l := cast r.symm ⟨_, _, 0, e, rfl, rfl⟩
  obtain ⟨_, o, es, ep, ho, _, hd, _⟩ := l
  rw [e] at ho
  cases ho
  cases hd
end Qv
end
section
set_option Elab.async false
set_option autoImplicit false
set_option linter.all false
set_option maxRecDepth 100000
set_option maxHeartbeats 2000000
/-! Qv: built-in functions, isinstance. -/
namespace Qv
open PySem L2 PySem.Spec PyProof.Rows
variable {X : Cx}
def rFn (K : Kx) (f : Op1) : List V → Hp → VK → Prop := fun vs H Q => ∃ w st x d d', vs = [x] ∧ Good K w H st ∧ Dv K w H x d ∧ f st d = some d' ∧ Fin K w H Q d' st
theorem bools_of {K : Kx} {w : Wd} {H : Hp} : ∀ {ds : List D} {vs : List V} {bs : List Bool}, Dvs K w H vs ds → bools? ds = some bs → vs = bs.map V.bl
  | [], _, _, h, e => by cases h; cases e; rfl
  | d :: ds, _, bs, h, e => by
    cases h with
    | cons a r =>
      cases a with
      | bl b =>
        have e : (bools? ds).map (b :: ·) = some bs := e
        cases q : bools? ds with
        | none => rw [q] at e; cases e
        | some cs =>
          rw [q] at e; cases e
          rw [bools_of r q]; rfl
      | _ => cases e
theorem ints_of {K : Kx} {w : Wd} {H : Hp} : ∀ {ds : List D} {vs : List V} {bs : List Int}, Dvs K w H vs ds → ints? ds = some bs → vs = bs.map V.int
  | [], _, _, h, e => by cases h; cases e; rfl
  | d :: ds, _, bs, h, e => by
    cases h with
    | cons a r =>
      cases a with
      | int b =>
        have e : (ints? ds).map (b :: ·) = some bs := e
        cases q : ints? ds with
        | none => rw [q] at e; cases e
        | some cs =>
          rw [q] at e; cases e
          rw [ints_of r q]; rfl
      | _ => cases e
theorem f_len : CallR X (.builtin "len") (rFn (kx X) fLen) := by
  intro pins s σ H xs us Q I r ⟨w, st, x, d, d', e0, g, dx, e, h⟩
  subst e0
  unfold fLen at e
  split at e
  · obtain ⟨hl, e⟩ := omust_some e
    cases e
    cases dx
    exact call_len_str pins s σ H _ us Q I r ⟨_, rfl, hl, Fin.here g (.int _) h⟩
  · cases q0 : asDct st d with
    | some p =>
      rw [q0] at e
      obtain ⟨hl, e⟩ := omust_some e
      cases e
      obtain ⟨a, rfl, ⟨o, rfl⟩ | ⟨nk, xs, ys, o, h1, h2, h3, h4, h5⟩⟩ := as_dct g dx q0
      · cases r with
        | cons r1 r2 =>
          cases r1
          cases r2
          exact d_len I (.inl o) fun t s' I' => ⟨.int 0, H, I', ⟨t, rfl⟩, Fin.here g (.int _) h⟩
      · cases r with
        | cons r1 r2 =>
          cases r1
          cases r2
          exact len_q I o h1 h2 h3 h4 hl fun t s' I' => ⟨.int p.1.length, H, I', ⟨t, rfl⟩, Fin.here g (.int _) h⟩
    | none =>
    rw [q0] at e
    cases q : asSeq st d with
    | none => rw [q] at e; cases e
    | some ds =>
      rw [q] at e
      cases e
      obtain ⟨a, vs, rfl, hs, rr⟩ := as_seq g dx q
      refine call_len_seq pins s σ H _ us Q I r ⟨a, vs, rfl, hs, ?_⟩
      rw [rr.length]
      exact Fin.here g (.int _) h
theorem f_int : CallR X (.type "int") (rFn (kx X) fInt) := by
  intro pins s σ H xs us Q I r ⟨w, st, x, d, d', e0, g, dx, e, h⟩
  subst e0
  cases dx with
  | int i => cases e; exact call_int1 pins s σ H _ us Q I r (.inl ⟨i, rfl, Fin.here g (.int _) h⟩)
  | bl b => cases e; exact call_int1 pins s σ H _ us Q I r (.inr ⟨b, rfl, Fin.here g (.int _) h⟩)
  | _ => cases e
theorem f_abs : CallR X (.builtin "abs") (rFn (kx X) fAbs) := by
  intro pins s σ H xs us Q I r ⟨w, st, x, d, d', e0, g, dx, e, h⟩
  subst e0
  cases dx with
  | int i => cases e; exact call_abs pins s σ H _ us Q I r ⟨i, rfl, Fin.here g (.int _) h⟩
  | _ => cases e
theorem map_some {α β : Type} {o : Option α} {f : α → β} {b : β} (h : o.map f = some b) : ∃ a, o = some a ∧ b = f a := by
  cases o with
  | none => cases h
  | some a => cases h; exact ⟨a, rfl, rfl⟩
theorem f_all (hc : X.calm = true) : CallR X (.builtin "all") (rFn (kx X) fAll) := by
  intro pins s σ H xs us Q I r ⟨w, st, x, d, d', e0, g, dx, e, h⟩
  subst e0
  obtain ⟨bs, q, rfl⟩ := map_some e
  obtain ⟨ds, q1, q2⟩ := Option.bind_eq_some_iff.mp q
  obtain ⟨a, vs, rfl, hs, rr⟩ := as_lst g dx q1
  exact cr_all hc pins s σ H _ us Q I r ⟨a, bs, rfl, by rw [← bools_of rr q2]; exact .inl (.inl hs), Fin.here g (.bl _) h⟩
theorem f_any (hc : X.calm = true) : CallR X (.builtin "any") (rFn (kx X) fAny) := by
  intro pins s σ H xs us Q I r ⟨w, st, x, d, d', e0, g, dx, e, h⟩
  subst e0
  obtain ⟨bs, q, rfl⟩ := map_some e
  obtain ⟨ds, q1, q2⟩ := Option.bind_eq_some_iff.mp q
  obtain ⟨a, vs, rfl, hs, rr⟩ := as_lst g dx q1
  exact cr_any hc pins s σ H _ us Q I r ⟨a, bs, rfl, by rw [← bools_of rr q2]; exact .inl (.inl hs), Fin.here g (.bl _) h⟩
theorem f_sum (hc : X.calm = true) : CallR X (.builtin "sum") (rFn (kx X) fSum) := by
  intro pins s σ H xs us Q I r ⟨w, st, x, d, d', e0, g, dx, e, h⟩
  subst e0
  obtain ⟨bs, q, rfl⟩ := map_some e
  obtain ⟨ds, q1, q2⟩ := Option.bind_eq_some_iff.mp q
  obtain ⟨a, vs, rfl, hs, rr⟩ := as_lst g dx q1
  exact cr_sum hc pins s σ H _ us Q I r ⟨a, bs, rfl, by rw [← ints_of rr q2]; exact .inl (.inl hs), Fin.here g (.int _) h⟩
theorem foldmax_spec : ∀ (l : List Int) (i : Int), (l.foldl max i = i ∨ l.foldl max i ∈ l) ∧ i ≤ l.foldl max i ∧ ∀ y ∈ l, y ≤ l.foldl max i
  | [], i => ⟨.inl rfl, Int.le_refl _, fun y h => by cases h⟩
  | x :: l, i => by
    obtain ⟨h1, h2, h3⟩ := foldmax_spec l (max i x)
    rw [List.foldl_cons]
    refine ⟨?_, by omega, fun y hy => ?_⟩
    · rcases h1 with h1 | h1
      · rw [h1]
        rcases Int.le_total i x with q | q
        · exact .inr (by rw [Int.max_eq_right q]; exact List.mem_cons_self ..)
        · exact .inl (by rw [Int.max_eq_left q])
      · exact .inr (List.mem_cons_of_mem _ h1)
    · rcases List.mem_cons.mp hy with rfl | hy
      · omega
      · exact h3 y hy
theorem f_max (hc : X.calm = true) : CallR X (.builtin "max") (rFn (kx X) fMax) := by
  intro pins s σ H xs us Q I r ⟨w, st, x, d, d', e0, g, dx, e, h⟩
  subst e0
  obtain ⟨m, q, rfl⟩ := map_some e
  obtain ⟨ns, q, q3⟩ := Option.bind_eq_some_iff.mp q
  obtain ⟨ds, q1, q2⟩ := Option.bind_eq_some_iff.mp q
  obtain ⟨a, vs, rfl, hs, rr⟩ := as_lst g dx q1
  cases ns with
  | nil => cases q3
  | cons n ns =>
    cases q3
    refine cr_max hc pins s σ H _ us Q I r ⟨a, n :: ns, rfl, by rw [← ints_of rr q2]; exact .inl (.inl hs), by simp, fun m hm hy => ?_⟩
    obtain ⟨h1, h2, h3⟩ := foldmax_spec ns n
    have e : m = ns.foldl max n := by
      refine Int.le_antisymm ?_ ?_
      · rcases List.mem_cons.mp hm with rfl | hm
        · exact h2
        · exact h3 m hm
      · rcases h1 with h1 | h1
        · rw [h1]; exact hy n (List.mem_cons_self ..)
        · exact hy _ (List.mem_cons_of_mem _ h1)
    subst e
    exact Fin.here g (.int _) h
theorem f_list : CallR X (.type "list") (rFn (kx X) fList) := by
  intro pins s σ H xs us Q I r ⟨w, st, x, d, d', e0, g, dx, e, h⟩
  subst e0
  obtain ⟨ds, q, rfl⟩ := map_some e
  obtain ⟨a, vs, rfl, hs, rr⟩ := as_seq g dx q
  exact call_list_of pins s σ H _ us Q I r ⟨a, vs, rfl, hs, Fin.newL g rr h⟩
theorem as_seq2 {K : Kx} {w : Wd} {H : Hp} {st : Sto} (g : Good K w H st) {v : V} {d : D} {ds : List D} (h : Dv K w H v d) (e : asSeq st d = some ds) :
    ∃ a vs, v = .ref a ∧ ((d = .tup ds ∧ SqT K.K H a vs) ∨ SqL K.K H a vs) ∧ Dvs K w H vs ds := by
  cases h with
  | tup f o r => cases e; exact ⟨_, _, rfl, .inl ⟨rfl, .inl (.inl o)⟩, r⟩
  | ktup k r => cases e; exact ⟨_, _, rfl, .inl ⟨rfl, k.sq⟩, r⟩
  | rol f o r => cases e; exact ⟨_, _, rfl, .inr (.inl (.inr ⟨_, o⟩)), r⟩
  | krol k r => cases e; exact ⟨_, _, rfl, .inr k.sq, r⟩
  | lst f o r => cases e; exact ⟨_, _, rfl, .inr (.inl (.inl o)), r⟩
  | mrf o =>
    obtain ⟨a, vs, h1, h2, h3⟩ := as_lst g (.mrf o) (show asLst st (.mrf _) = some ds from e)
    exact ⟨a, vs, h1, .inr (.inl (.inl h2)), h3⟩
  | _ => cases e
theorem f_tuple : CallR X (.type "tuple") (rFn (kx X) fTuple) := by
  intro pins s σ H xs us Q I r ⟨w, st, x, d, d', e0, g, dx, e, h⟩
  subst e0
  obtain ⟨ds, q, rfl⟩ := map_some e
  obtain ⟨a, vs, rfl, hs, rr⟩ := as_seq2 g dx q
  rcases hs with ⟨e, hs⟩ | hs
  · subst e
    exact call_tuple_of pins s σ H _ us Q I r ⟨a, vs, rfl, .inr ⟨hs, Fin.here g dx h⟩⟩
  · exact call_tuple_of pins s σ H _ us Q I r ⟨a, vs, rfl, .inl ⟨hs, Fin.newT g rr h⟩⟩
mutual
theorem nodict : ∀ (d : D) (p : PyData), toP d = some p → p.hasDict = false
  | .non, _, e => by cases e; rfl
  | .bl _, _, e => by cases e; rfl
  | .int _, _, e => by cases e; rfl
  | .str _, _, e => by cases e; rfl
  | .tup ds, _, e => by
    unfold toP at e
    cases q : toPs ds with
    | none => rw [q] at e; cases e
    | some ps =>
      rw [q] at e; cases e
      simp only [PyData.hasDict]
      exact nodicts ds ps q
  | .lst ds, _, e => by
    unfold toP at e
    cases q : toPs ds with
    | none => rw [q] at e; cases e
    | some ps =>
      rw [q] at e; cases e
      simp only [PyData.hasDict]
      exact nodicts ds ps q
  | .dct _ _, _, e => by unfold toP at e; cases e
  | .mrf _, _, e => by unfold toP at e; cases e
  | .rol _, _, e => by unfold toP at e; cases e
  | .exn _ _ _, _, e => by unfold toP at e; cases e
  | .ins _ _ _, _, e => by unfold toP at e; cases e
theorem nodicts : ∀ (ds : List D) (ps : List PyData), toPs ds = some ps → PyData.hasDictAll ps = false
  | [], _, e => by cases e; rfl
  | d :: ds, _, e => by
    unfold toPs at e
    split at e
    · rename_i p ps h1 h2
      cases e
      simp only [PyData.hasDictAll, nodict d p h1, nodicts ds ps h2, Bool.or_self]
    · cases e
end
theorem f_repr {k : Nat} (cz : Cz X k) : CallR X (.builtin "repr") (rFn (kx X) fRepr) := by
  intro pins s σ H xs us Q I r ⟨w, st, x, d, d0, e, g, dx, e1, h⟩
  subst e
  obtain ⟨u, rfl, ru⟩ := vals1 r
  unfold fRepr at e1
  cases hp : toP d with
  | none =>
    simp only [hp] at e1
    cases e1
  | some p =>
    simp only [hp] at e1
    obtain ⟨⟨h1, h2, h3⟩, e1⟩ := omust_some e1
    cases e1
    have q : Q (.str p.shown) H := Fin.here g (.str _) h
    have hD := Dv.p d x p dx hp
    obtain ⟨as, rd⟩ := Dp.reads I p x u hD ru
    cases hD with
    | non =>
      cases ru
      rw [PyData.shown_none] at q
      exact PySem.P.repr_of_none ⟨.str _, H, I.tok _, ⟨_, rfl⟩, q⟩
    | bl b =>
      cases ru
      rw [PyData.shown_bool] at q
      exact PySem.P.repr_of_bool ⟨.str _, H, I.tok _, ⟨_, rfl⟩, q⟩
    | int i =>
      obtain ⟨t, rfl⟩ := ru
      rw [PyData.shown_int] at q
      refine PySem.P.repr_of_int ?_ ⟨.str _, H, I.tok _, ⟨_, rfl⟩, q⟩
      simpa [PyData.showable] using h1
    | str y =>
      obtain ⟨t, rfl⟩ := ru
      rw [PyData.shown_str] at q h2
      exact PySem.P.repr_of_str ⟨.str _, H, I.tok _, ⟨_, rfl⟩, q⟩ h2
    | lst hs ha =>
      cases ru
      have nd := nodict d _ hp
      refine repr_of_reads' rd h1 (fun z => by rw [nd] at z; cases z) cz.grd (by have := cz.u; omega) (fun _ _ e => e) (fun h' u tk hk => ⟨.str _, H, I.kept (h' := h') (t' := tk) hk, ⟨_, rfl⟩, q⟩) h2
    | tup hs ha =>
      cases ru
      have nd := nodict d _ hp
      refine repr_of_reads' rd h1 (fun z => by rw [nd] at z; cases z) cz.grd (by have := cz.u; omega) (fun _ _ e => e) (fun h' u tk hk => ⟨.str _, H, I.kept (h' := h') (t' := tk) hk, ⟨_, rfl⟩, q⟩) h2
/-! ### the calls -/
section
variable {pos p p2 : Pos} {x : Str} {e a b c : Expr} {es rest : List Expr} {xa xb xc : Ev D} {xs : Ev (List D)}
theorem fn_read {K : Kx} {W : WX} {f : Op1} : ∀ σ H Q, tEv K W (xFn f xa) σ H Q → tCB (rFn K f) (tEvs K W (xCons xa xNil)) σ H Q := fun σ H Q ⟨w, env, st, g, r, h⟩ => by
  unfold xFn at h
  rw [R.wp_bind] at h
  refine ⟨w, env, st, g, r, ?_⟩
  unfold xCons
  rw [R.wp_bind]
  refine R.wp_mono h (fun d s1 h1 => ?_) fun _ _ _ _ h => h
  intro vs w1 H1 e1 g1 d1
  cases d1 with
  | cons d1 d2 =>
    cases d2
    obtain ⟨d', q, h1⟩ := may_wp h1
    exact ⟨w1, s1, _, d, d', rfl, g1, d1, q, Fin.ext e1 h1⟩
theorem pev_fnB {f : Op1} {id : String} (hc : CallR X (.builtin id) (rFn (kx X) f)) (hm : X.mg x = none) (hv : bootBuiltins x = some (.builtin id)) (ha : PEv X a xa) (hg : Gl X x := by rfl) (hs : isStar a = false := by rfl) (hn : x ≠ "__name__" := by decide) (hdb : (x == ("__debug__" : Str)) = false := by decide) :
    PEv X (.Call (.Name x p) [a] [] pos) (xFn f xa) := pe_weak (pe_callB hc hg hm hv (pav_cons ha pav_nil hs).pa hn hdb (star_cons hs) rfl) fn_read
theorem pev_fnT {f : Op1} {T : String} (hc : CallR X (.type T) (rFn (kx X) f)) (hm : X.mg x = none) (hv : bootBuiltins x = some (.type T)) (ha : PEv X a xa) (hg : Gl X x := by rfl) (hs : isStar a = false := by rfl) (hn : x ≠ "__name__" := by decide) (hdb : (x == ("__debug__" : Str)) = false := by decide) :
    PEv X (.Call (.Name x p) [a] [] pos) (xFn f xa) := pe_weak (pe_callTy hc hg hm hv (pav_cons ha pav_nil hs).pa hn hdb (star_cons hs) rfl) fn_read
end
end Qv
end
section
set_option Elab.async false
set_option autoImplicit false
set_option linter.all false
set_option maxRecDepth 100000
set_option maxHeartbeats 2000000
/-! an own exception whose __init__ says super().__init__(x, ..) and keeps its arguments as fields: the promise of that __init__. -/
namespace Qv
open PySem L2 PySem.Spec PyProof.Rows
open PySem.W (fnX ksEnv kxs_mw)

theorem look_none {α : Type} {x : Str} : ∀ {ps : List Str} {us : List α}, x ∉ ps → (ps.zip us).reverse.lookup x = none
  | [], us, _ => by simp
  | p :: ps, [], _ => by simp
  | p :: ps, u :: us, h => by
    rw [List.zip_cons_cons, List.reverse_cons, List.lookup_append, look_none (us := us) fun m => h (List.mem_cons_of_mem _ m)]
    have : (x == p) = false := by simpa using fun e : x = p => h (by rw [e]; exact List.mem_cons_self)
    simp [List.lookup, this]
theorem look_zip {α : Type} : ∀ {ps : List Str} {us : List α} {i : Nat} {x : Str} {u : α}, ps.Nodup → ps[i]? = some x → us[i]? = some u → (ps.zip us).reverse.lookup x = some u
  | [], us, i, x, u, _, h, _ => by simp at h
  | p :: ps, [], i, x, u, _, _, h => by simp at h
  | p :: ps, u0 :: us, 0, x, u, nd, h1, h2 => by
    simp at h1 h2
    subst h1 h2
    rw [List.zip_cons_cons, List.reverse_cons, List.lookup_append, look_none (List.nodup_cons.mp nd).1]
    simp [List.lookup]
  | p :: ps, u0 :: us, i + 1, x, u, nd, h1, h2 => by
    simp at h1 h2
    rw [List.zip_cons_cons, List.reverse_cons, List.lookup_append, look_zip (List.nodup_cons.mp nd).2 h1 h2]
    rfl

section
variable {X : Cx} {pins : List (Addr × Obj)} {σ : L2.St} {H : Hp} {s : Shared} {A : Around} {E : Value → Shared → Prop} {a C : Addr}
/-- the bound ValueError.__init__, called -/
theorem mw_ok {us : List Value} {u : Addr} {Q : Value → Shared → Prop} (T : OexC X.K C) (I : Inv X pins σ H s) (e : H a = some (exo a C none)) (hu : s.heap.get? u = some (kxs_mw "ValueError.__init__" a)) (hl : us.length ≤ sizeLine) (h : ∀ s', Inv X pins σ H s' → Q .none s') :
    wpAny (model X.prog X.w) A (call (.ref u) us) Q E s := by
  obtain ⟨nm, q, N, bs, bm, sn, sub, ab, col, dd, k0, k1, k2, k3, k5, hC, hbm⟩ := T.cls
  obtain ⟨t1, ho⟩ := exo_at I.hok e
  obtain ⟨hp, g, d, t, os⟩ := s
  refine wpAny_call (codeAny_of_tree ?_)
  show wpAny _ A.in1 (callAny (.ref u) ⟨us, []⟩) _ _ _
  simp only [callAny]
  refine wpAny_bind (wpAny_load hu ?_)
  simp only [kxs_mw, show (Value.type "method-wrapper" == Value.type "method" || Value.type "method-wrapper" == Value.type "builtin_function_or_method" || Value.type "method-wrapper" == Value.type "method-wrapper") = true by decide, if_true]
  refine W.KFB.if_so (by decide) ?_
  refine wpAny_bind (PySem.ESX.check_bound F.excBase_ValueError (I.kIn _ _ hC) ho rfl ?_)
  refine wpAny_bind (wpAny_pure (wpAny_pure ?_))
  refine ⟨Code.quiet_builtin _ (by decide +kernel), codeAny_builtin F.excBase_ValueError.initEntry ?_⟩
  rw [Around.under_plainId F.excBase_ValueError.init.plain _]
  have fin : ∀ h' t2, (∀ b o, b ≠ a → hp.get? b = some o → h'.get? b = some o) → h'.get? a = some (PySem.HandSPX.excO C t2) → Q .none ⟨h', g, d, t, os⟩ := by
    intro h' t2 k hx
    have J := I.write (t' := t) (x := a) (e := a) (o := exo a C none) (by rw [e]; exact True.intro) (.inl rfl) k ⟨_, hx⟩ (exo_ok hx)
    have eu : upd H a (exo a C none) = H := by
      funext b
      by_cases hb : b = a
      · rw [hb, upd_same, e]
      · rw [upd_ne hb]
    rw [eu] at J
    exact h _ J
  wp_walk
  refine fin _ hp.objs.size (fun b o hb ho' => ?_) ?_
  · rw [Heap.get?_update_other _ _ (Ne.symm hb)]
    exact Heap.get?_push_of_some _ ho'
  · rw [Heap.get?_update_self _ (Heap.get?_push_of_some _ ho) rfl]
    rfl
end

/-! ### the def's run -/
def cxS (CX : CXT) (P : Program) (w : World) (K : PySem.W.Frag) (mg : Str → Option Value) (base : Heap) (N : List Str) (qual : Str) (scope : Scope) (f cc : Addr) (cd : Value) (A : Around) (outer : List Env) (s : Shared) (H : Hp) (E : XK) : Cx where
  prog := P
  w := w
  K := K
  mg := mg
  base := base
  A := A.deeper (ksEnv qual scope s.heap.objs.size f cd cc)
  N := N
  s_0 := s
  H_0 := H
  env := ksEnv qual scope s.heap.objs.size f cd cc
  outer := outer
  stack := ksEnv qual scope s.heap.objs.size f cd cc :: outer
  ex := []
  calm := true
  fn := fun _ => false
  pn := []
  xe := fun e s' => wpAny (model P w) (A.deeper (ksEnv qual scope s.heap.objs.size f cd cc)) (leaving (ksEnv qual scope s.heap.objs.size f cd cc) e) (fun _ s'' => CX outer H s E e s'') (fun e' s'' => CX outer H s E e' s'') s'
/-- what is said of the scope of such an __init__ -/
structure SupS (ps : List Str) (sc : Scope) : Prop where
  kind : sc.kind = .function
  co : sc.isCoroutine = false
  gen : sc.isGenerator = false
  nd : ps.Nodup
  par : ∀ p ∈ ps, sc.names.lookup p = some .local
  fr : ∀ x, (sc.names.lookup x = some .cell ∨ sc.names.lookup x = some .free) → x = "__class__"
  nc : ∀ x ∈ sc.names, x.2 ≠ .cell
  sup : sc.names.lookup ("super" : Str) = some .globalImplicit
  cls : sc.names.lookup ("__class__" : Str) = some .free
section
variable {CX : CXT} {P : Program} {w : World} {K : PySem.W.Frag} {mg : Str → Option Value} {base : Heap} {ps : List Str} {qual : Str} {scope : Scope} {f cc : Addr} {cd : Value} {A : Around} {outer : List Env} {s : Shared} {H : Hp} {E : XK} {us : List Value} {vs : List V}
theorem cell_one {x : Str} {c : Addr} (h : ([(("__class__" : Str), cc)] : List (Str × Addr)).lookup x = some c) : x = "__class__" ∧ c = cc := by
  unfold List.lookup at h
  split at h
  · rename_i q
    exact ⟨by simpa using q, (Option.some.inj h).symm⟩
  · cases h
theorem inv_startS {h1 : Heap} {t1 : Nat} (S : SupS ps scope) (hd : A.handled = none) (e0 : Env0 P w K mg base A outer s H) (hl : vs.length = ps.length) (r : Vals vs us) (lc : ∃ cl cld csl v, K.lookup cc = some ⟨cl, cld, .cell v, csl⟩)
    (hn : h1.Ns s.heap.objs.size (fun x => (ps.zip us).reverse.lookup x)) (hk : ∀ b o, s.heap.get? b = some o → h1.get? b = some o) :
    Inv (cxS CX P w K mg base ps qual scope f cc cd A outer s H E) [] (vs.map some) H { s with heap := h1, toks := t1 } := by
  obtain ⟨cl, cld, csl, v, lc⟩ := lc
  have bc := e0.mod.kin _ _ lc
  refine ⟨⟨e0.mod, S.kind, rfl, rfl, Nat.le_refl _, fun x y c h1 h2 => (cell_one h1).1.trans (cell_one h2).1.symm, fun x hx => ?_, fun x c z => Bool.noConfusion (show false = true from z), fun _ => hd, Around.frames_deeper e0.frames, .inr ⟨rfl, rfl⟩, fun b z => absurd (show b ∈ ([] : List Addr) from z) (by simp), e0.bs, e0.bsz, fun b o _ z => absurd (show b ∈ ([] : List Addr) from z) (by simp), fun b z => absurd (show b ∈ ([] : List Addr) from z) (by simp), e0.funs, e0.frf⟩,
    rfl, e0.bare, Un.kept hk, ⟨_, hn, fun i x v h2 h3 _ => ?_⟩, fun x c h => ?_, e0.hok.fresh (Nat.le_refl _), fun x c h => ?_, fun p hp => absurd (show p ∈ ([] : List (Addr × Obj)) from hp) (by simp), e0.hok.kept hk, ?_⟩
  · have hx : scope.names.lookup x = some .cell ∨ scope.names.lookup x = some .free := hx
    have e := S.fr x hx
    subst e
    exact ⟨cc, rfl⟩
  · have h3 : vs[i]? = some v := by
      rw [List.getElem?_map] at h3
      cases q : vs[i]? with
      | none => rw [q] at h3; cases h3
      | some z => rw [q] at h3; cases h3; rfl
    obtain ⟨u, hu, rv⟩ := r.get h3
    exact ⟨u, rv, .inl ⟨S.par x (List.mem_of_getElem? h2), look_zip S.nd h2 hu⟩⟩
  · obtain ⟨-, rfl⟩ := cell_one h
    exact ⟨v, _, hk _ _ (e0.bs _ _ bc).1, rfl⟩
  · obtain ⟨-, rfl⟩ := cell_one h
    exact (e0.bs _ _ bc).2
  · rw [List.length_map]; exact hl
/-- the promise: the args are laid, each parameter is kept as a field (first: one) -/
def spSup1 (K : PySem.W.Frag) (C : Addr) (x : Str) : Sp := fun vs H Q _ => ∃ (a : Addr) (y : V), vs = [.ref a, y] ∧ H a = some (exo a C none) ∧ ∀ dx, H dx = none → dx ≠ a → Q .non (upd (upd H dx (exd dx [(x, y)])) a (exo a C (some dx)))
theorem fn_sup1 {k : Nat} {C cda : Addr} {x name file : Str} {params : Arguments} {body : List Stmt} {dV kV doc pm ct oc ccl cl : Value} {an od cdd cld : Option Addr} {osl ccs csl : Array (Option Value)} {vs0 : Array Value} {tf : Tok} {cdC : ClassData} {ar : Arg} {p0 p1 p2 p3 p4 p5 p6 p7 p8 p9 : Pos}
    (lk : K.lookup f = some ⟨oc, od, .func (fnX name qual params body scope [("__class__", cc)] dV kV doc pm an (.ref cda) ct), osl⟩) (hcd : PySem.W.codeIn K (.ref cda) qual = true)
    (lc : K.lookup cc = some ⟨cl, cld, .cell (some (.ref C)), csl⟩) (lcd : K.lookup cda = some ⟨ccl, cdd, .fields vs0, ccs⟩) (hvs : vs0[2]? = some (.str file tf)) (hfile : ((P.main.file : Str) == file) = true) (htop : (P.main.scope.names.lookup ("super" : Str)).isSome = false)
    (S : SupS ["self", x] scope) (hp : (params.posonlyargs ++ params.args).head? = some ar) (hself : ar.arg = "self")
    (hb : body = [.Expr (.Call (.Attribute (.Call (.Name "super" p0) [] [] p1) "__init__" p2) [.Name x p3] [] p4) p5, .Assign [.Attribute (.Name "self" p6) x p7] (.Name x p8) p9])
    (hm : mg "super" = none) (T : OexC K C) (hno : PySem.W.findIn K (.ref C) x = some none) (hC : PySem.W.clsIn K C = some cdC) (hsub : PySem.W.mroIn K C (.ref C) = some true) (hop : PySem.W.nsIn K cStatics "thirdparty.any" = some none)
    (hsu : PySem.W.ks_superIn K C C "__init__" = some (some (.builtin "ValueError.__init__"))) (hVE : PySem.W.subIn K (.ref C) (.type "ValueError") = some true)
    (hev : ∀ env : Env, ∃ pl : Sem Bool, eval (.Call (.Attribute (.Call (.Name "super" p0) [] [] p1) "__init__" p2) [.Name x p3] [] p4) env = (do
      let ov ← attributeBase (.Call (.Name "super" p0) [] [] p1) "__init__" env (eval (.Call (.Name "super" p0) [] [] p1) env)
      standAt p2.atName
      let (f, first) ← holding [ov] (getMethod ov "__init__" pl)
      callWith p4 f first (backTo p4 (starEach [.Name x p3] env)) []))
    (hsw : ∀ env : Env, swapsWith (.Name x p8) (some (.Attribute (.Name "self" p6) x p7)) p9.line env = pure false)
    (hx1 : (x == ("__debug__" : Str)) = false) (hx2 : (x == ("__classdict__" : Str)) = false) :
    FnOk P w K mg base CX (k + 1) f (fnX name qual params body scope [("__class__", cc)] dV kV doc pm an (.ref cda) ct) ["self", x] (spSup1 K C x) := by
  refine ⟨fun vs H Q E ⟨a, y, e, _⟩ => by rw [e]; rfl, fun A outer s H args us vs Q E hr e0 hbd rv hsp => ?_⟩
  obtain ⟨a, y, rfl, ea, q⟩ := hsp
  have KX : K.In s.heap := e0.mod.kin.keeps fun b o e => (e0.bs b o e).1
  have lim : s.heap.NoLimit := e0.mod.nolimit.keeps fun b o e => (e0.bs b o e).1
  have hul : us.length = 2 := by rw [← rv.length]; rfl
  subst hb
  refine ks_codeAny_call_defAt hr.depth (KX _ _ lk) rfl lim (PySem.W.codeRec_of KX hcd) rfl hbd S.nc (fun z hz => S.par _ (List.of_mem_zip hz).1) (fun h1 hn hk => ?_) S.co S.gen S.kind
  have I : L2.Inv (cxS CX P w K mg base ["self", x] qual scope f cc (.ref cda) A outer s H E) [] [some (.ref a), some y] H { s with heap := h1, toks := s.toks + ((["self", x] : List Str).zip us).length } :=
    inv_startS (vs := [.ref a, y]) S hr.hd e0 rfl rv ⟨_, _, _, _, lc⟩ hn hk
  have bk : ∀ b o, base.get? b = some o → h1.get? b = some o := fun b o e => hk _ _ (e0.bs b o e).1
  have K1 : K.In h1 := e0.mod.kin.keeps bk
  obtain ⟨mb, b1, b2⟩ := e0.mod.blt
  obtain ⟨te, ho⟩ := exo_at I.hok ea
  obtain ⟨uy, rfl⟩ : ∃ uy, us = [Value.ref a, uy] := by
    cases rv with
    | cons r0 rt =>
      cases rt with
      | cons r1 rn =>
        cases rn
        exact ⟨_, by rw [show _ = Value.ref a from r0]⟩
  obtain ⟨oD, hD1, hD2⟩ : ∃ oD, h1.get? C = some oD ∧ oD.data = .cls cdC := by
    unfold PySem.W.clsIn at hC
    split at hC
    · rename_i c d cd' sl ho
      cases hC
      exact ⟨_, K1 _ _ ho, rfl⟩
    · cases hC
  have hself2 : scope.names.lookup ar.arg = some .local := by rw [hself]; exact S.par _ (by simp)
  have hlook : ((["self", x] : List Str).zip [Value.ref a, uy]).reverse.lookup ar.arg = some (.ref a) := by rw [hself]; exact look_zip (i := 0) S.nd rfl rfl
  have hxC : a ≠ C := fun z => by
    subst z
    rw [hD1] at ho
    cases ho
    cases hD2
  obtain ⟨pl, hpl⟩ := hev (ksEnv qual scope s.heap.objs.size f (.ref cda) cc)
  refine ks_wpAt_execs_cons (ks_wpAt_Expr_any (hi := I.quiet) (ks_wpAt_MethodCall (he := hpl) (ks_wpAt_super_base (env := ksEnv qual scope s.heap.objs.size f (.ref cda) cc) S.sup S.cls (by decide) rfl (K1 _ _ lk) rfl hp rfl (K1 _ _ lcd) rfl hvs hfile htop ?_)))
  refine PySem.W.ks_loadName_global S.kind S.sup (Calls.loadGlobal_builtin (env := ksEnv qual scope s.heap.objs.size f (.ref cda) cc) (e0.mod.glob.keeps bk) hm (b1.keeps bk) ((b2 "super" (by decide)).trans (by kernel_rfl)) ⟨rfl, ?_⟩)
  refine wpAny_loadName_free S.kind S.cls rfl ⟨_, K1 _ _ lc, rfl⟩ ?_
  refine wpAny_loadName_local S.kind hself2 hn hlook ?_
  refine ks_wpAny_isType_cls hD1 hD2 ⟨rfl, ?_⟩
  refine ks_wpAny_call_super hD1 hD2 ho rfl (fun c e => by cases e) (PySem.W.looks_mroIn K1 hsub) (fun h2 eso k2 => ?_)
  have K2 : K.In h2 := K1.keeps k2
  have hsu2 : PySem.W.alongIn K "__init__" ((cdC.mro.dropWhile (· != .ref C)).drop 1) = some (some (.builtin "ValueError.__init__")) := by
    unfold PySem.W.ks_superIn at hsu
    rw [hC] at hsu
    exact hsu
  have hI : PySem.W.Looks (model P w) h2 (isInstance (.ref a) (.type "ValueError")) true := by
    have J : PySem.W.InstAt h2 a ({ cls := .ref C, data := .fields #[.ref te, .none, .none, .none, .bool false, .none] } : Obj) C none := ⟨k2 _ _ ho, rfl, rfl, trivial⟩
    exact J.type.andThen (PySem.W.looks_subIn K2 hVE)
  refine PySem.W.kxs_getMethod PySem.W.kxs_ValueError eso (PySem.W.looks_opaque K2 hop) (l₀ := cdC.mro) (fun A Q E s k q => wpAny_bind ((PySem.W.looks_clsIn K2 hC) A _ E s k (wpAny_pure q))) rfl K2 hsu2 hI hxC (by decide) ?_
  have hmw : (h2.push (kxs_mw "ValueError.__init__" a)).get? h2.objs.size = some (kxs_mw "ValueError.__init__" a) := Heap.get?_push_at rfl rfl
  have k3 : ∀ b o, h1.get? b = some o → (h2.push (kxs_mw "ValueError.__init__" a)).get? b = some o := fun b o e => Heap.get?_push_of_some _ (k2 b o e)
  have I2 := I.kept (h' := h2.push (kxs_mw "ValueError.__init__" a)) (t' := s.toks + ((["self", x] : List Str).zip [Value.ref a, uy]).length + 1) k3
  have nu : H h2.objs.size = none := I.hok.fresh (Nat.le_of_lt (Heap.lt_size eso))
  have I3 : L2.Inv (cxS CX P w K mg base ["self", x] qual scope f cc (.ref cda) A outer s H E) [(h2.objs.size, kxs_mw "ValueError.__init__" a)] [some (.ref a), some y] H _ := ⟨I2.ok, I2.os, I2.bare, I2.base, I2.loc, I2.cell, I2.free, I2.freeC, fun p hp => by
    cases List.mem_singleton.mp (show p ∈ [(h2.objs.size, kxs_mw "ValueError.__init__" a)] from hp)
    exact ⟨hmw, nu, fun z => by
      have := I.lt
      rw [← z] at this
      exact absurd (Nat.lt_trans (Heap.lt_size eso) this) (Nat.lt_irrefl _), I.nofs (Nat.le_of_lt (Heap.lt_size eso)), fun v z => by cases z⟩, I2.hok, I2.len⟩
  have ha : PA (cxS CX P w K mg base ["self", x] qual scope f cc (.ref cda) A outer s H E) [.Name x p3] (tCons (tVar 1) tNil) := pa_cons (pe_var rfl (.inl (S.par x (by simp))) hx1 hx2) pa_nil
  refine PySem.W.kxs_callWith (i := "ValueError.__init__") (x := a) rfl (Calls.evalArgs_plain (thn (ha.run p4 _ _ _ H (fun vs H1 => vs = [y] ∧ H1 = H) I3 ⟨y, rfl, rfl, rfl⟩) fun vs s4 ⟨ys, H4, I4, r4, e4, e5⟩ => ?_))
  subst e4 e5
  refine ⟨(I4.pin _ (List.mem_singleton.mpr rfl)).1, ?_⟩
  refine mw_ok T I4 ea (I4.pin _ (List.mem_singleton.mpr rfl)).1 (show vs.length ≤ sizeLine by rw [← r4.length]; exact (by decide : 1 ≤ sizeLine)) fun s5 I5 => ?_
  have hs2 : PSs (cxS CX P w K mg base ["self", x] qual scope f cc (.ref cda) A outer s H4 E) [.Assign [.Attribute (.Name "self" p6) x p7] (.Name x p8) p9] (tOst K x (tVar 0) (tVar 1)) :=
    pss_one (ps_ost (pe_var rfl (.inl (S.par _ (by simp))) (by decide) (by decide)) (pe_var rfl (.inl (S.par x (by simp))) hx1 hx2) (hsw _))
  refine wpAt_of_wpAny (wpAny_mono (hs2.run [(h2.objs.size, kxs_mw "ValueError.__init__" a)] s5 _ H4 { nx := fun _ H' => Q .non H', rt := Q } I5 ⟨y, rfl, .ref a, rfl, a, C, rfl, T, hno, .inl ⟨ea, q⟩⟩) (fun fl s' hs => ?_) fun e s' hs => hs)
  have fin : ∀ {σ' : L2.St} {H' : Hp} {v : V} {u : Value} {pins' : List (Addr × Obj)}, L2.Inv (cxS CX P w K mg base ["self", x] qual scope f cc (.ref cda) A outer s H4 E) pins' σ' H' s' → RelV v u → Q v H' → CE outer P w H4 s Q u s' :=
    fun {σ' H' v u _} J rv q => ⟨v, H', J.os, J.bare, J.base, J.hok, rv, q⟩
  cases fl with
  | ret u =>
    obtain ⟨v, σ', H', J, rv, q⟩ := hs
    exact fin J rv q
  | next =>
    obtain ⟨σ', H', J, q⟩ := hs
    exact fin (v := V.non) (u := Value.none) J rfl q
  | brk =>
    obtain ⟨_, _, _, q⟩ := hs
    exact False.elim q
  | cont =>
    obtain ⟨_, _, _, q⟩ := hs
    exact False.elim q
end
end Qv
end
section
set_option Elab.async false
set_option autoImplicit false
set_option linter.all false
set_option maxRecDepth 100000
set_option maxHeartbeats 2000000
/-! try .. except X as n: m = n; the exception stays known behind it. -/
namespace Qv
open PySem L2 PySem.Spec PyProof.Rows
theorem exq_ok {P : Program} {w : World} {H : Hp} {h : Heap} {a : Addr} {oe : Obj} {vs : Array Value} (e : h.get? a = some oe) (hd : oe.data = .fields vs) : ObjOk P w H h a (exq a oe.cls oe.dict) :=
  ⟨⟨oe, vs, e, rfl, rfl, hd⟩, ⟨oe, e⟩, fun _ _ ⟨o, v, q, r⟩ k => ⟨o, v, k o q, r⟩⟩
section
variable {X : Cx} {pins : List (Addr × Obj)} {σ : L2.St} {H : Hp} {s : Shared} {a : Addr} {oe : Obj} {vs : Array Value}
/-- one more pin -/
theorem pin_more (I : L2.Inv X pins σ H s) (he : s.heap.get? a = some oe) (hd : oe.data = .fields vs) (na : H a = none) (nL : a ≠ X.env.locals) (nF : a ∉ X.fs) : L2.Inv X ((a, oe) :: pins) σ H s :=
  ⟨I.ok, I.os, I.bare, I.base, I.loc, I.cell, I.free, I.freeC, fun p hp => by
    rcases List.mem_append.mp hp with q | q
    · exact I.pin p (List.mem_append_left _ q)
    · rcases List.mem_cons.mp q with q | q
      · subst q
        exact ⟨he, na, nL, nF, fun v z => by rw [hd] at z; cases z⟩
      · exact I.pin p (List.mem_append_right _ q), I.hok, I.len⟩
/-- a pinned exception that was not there at the entry is tracked from now on -/
theorem pin_track (I : L2.Inv X ((a, oe) :: pins) σ H s) (hd : oe.data = .fields vs) (hx : X.ex = []) (h0 : X.s_0.heap.get? a = none) (np : ∀ p ∈ X.pn ++ pins, p.1 ≠ a) : L2.Inv X pins σ (upd H a (exq a oe.cls oe.dict)) s := by
  obtain ⟨he, na, nL, nF, nc⟩ := I.pin (a, oe) (List.mem_append_right _ List.mem_cons_self)
  have at_ : ∀ b, b ≠ a → upd H a (exq a oe.cls oe.dict) b = H b := fun b hb => upd_ne hb
  have at' : ∀ b o, H b = some o → upd H a (exq a oe.cls oe.dict) b = some o := fun b o e => (at_ b fun z => by rw [z, na] at e; cases e).trans e
  have h0' : ∀ b o, X.s_0.heap.get? b = some o → b ≠ a := fun b o e z => by rw [z, h0] at e; cases e
  refine ⟨I.ok, I.os, I.bare, ⟨I.base.keep, I.base.slot, fun b o e n hb => ?_, I.base.there, fun b xs e => at' _ _ (I.base.tups b xs e), fun b o u e => at' _ _ (I.base.frzs b o u e), fun b ps e => ?_⟩, I.loc, I.cell, ?_, fun y c e => ?_, fun p hp => ?_, fun b o e => ?_, I.len⟩
  · rw [at_ b (h0' b o e)]
    exact I.base.free b o e n hb
  · obtain ⟨more, q⟩ := I.base.tbls b ps e
    exact ⟨more, at' _ _ q⟩
  · rw [at_ _ (Ne.symm nL)]
    exact I.free
  · rw [at_ c fun z => ?_]
    · exact I.freeC y c e
    · subst z
      obtain ⟨v, o, q1, q2⟩ := I.cell y c e
      rw [he] at q1
      cases q1
      exact nc _ q2
  · have hp' : p ∈ X.pn ++ (a, oe) :: pins := by
      rcases List.mem_append.mp hp with q | q
      · exact List.mem_append_left _ q
      · exact List.mem_append_right _ (List.mem_cons_of_mem _ q)
    obtain ⟨q1, q2, q3⟩ := I.pin p hp'
    exact ⟨q1, by rw [at_ _ (np p hp)]; exact q2, q3⟩
  · by_cases hb : b = a
    · subst hb
      rw [upd_same] at e
      cases e
      exact exq_ok he hd
    · rw [at_ b hb] at e
      refine (I.hok b o e).stay (fun c v _ q => q) (fun c q => ?_) fun c xs q => at' _ _ q
      exact at' _ _ q
end
/-- what the clause wishes: the exception stands in slot j behind it -/
def wKeep (K : PySem.W.Frag) (c : Value) (i j : Nat) (D : Ends) : WX := fun cls d σ H =>
  PySem.W.exmOne K cls c = some true ∧ ∀ a, H a = none → D.nx (((σ.set i (some (.ref a))).set j (some (.ref a))).set i none) (upd H a (exq a cls d))
section
variable {X : Cx} {x n m : Str} {c : Value} {i j : Nat} {body : List Stmt} {np p1 p2 p3 pos pos' : Pos} {tb : WX → TS}
theorem ps_try_keep (hst : X.stack = X.env :: X.outer) (hfr : X.env.frame = some X.env.locals) (nd : X.N.Nodup) (hi : X.N[i]? = some n) (hj : X.N[j]? = some m) (ln : X.env.kindOf n = some .local) (lm : Loc X.env.scope m) (fm : X.fn m = true ∨ X.env.scope.names.lookup m = some .local) (hij : i < X.N.length)
    (hc : Names X x c) (hx : X.ex = []) (hd1 : (n == ("__debug__" : Str)) = false) (hd2 : (n == ("__classdict__" : Str)) = false) (hsw : swapsWith (.Name n p2) (some (.Name m p1)) p3.line X.env = pure false)
    (hb : ∀ (W : WX) (pn : List (Addr × Obj)) (xe : Value → Shared → Prop), Takes (X.tr pn xe) W → PassesOwn (model X.prog X.w) X.A X.env xe → PSs (X.tr pn xe) body (tb W)) :
    PS X (.Try body [.ExceptHandler (some (.Name x np)) (some n) [.Assign [.Name m p1] (.Name n p2) p3] pos'] [] [] pos) (fun D σ H => tb (wKeep X.K c i j D) D σ H) := by
  constructor
  intro pins s σ H D I0 h
  have ok := I0.ok
  have fA : X.A.frames = some (X.env :: X.outer) := ok.frames.trans (congrArg some hst)
  apply wpAny_Try_except
  have run := (hb (wKeep X.K c i j D) (X.pn ++ pins) (fun e s₁ => wpAny (model X.prog X.w) X.A (noteFrame e X.env) (fun _ s₂ => wpAny (model X.prog X.w) X.A (setFlight e none) (fun _ s₃ => wpAny (model X.prog X.w) X.A
    (handleBy e X.env [.ExceptHandler (some (.Name x np)) (some n) [.Assign [.Name m p1] (.Name n p2) p3] pos']) (SP X pins D) X.xe s₃) X.xe s₂) X.xe s₁) ?take PassesOwn.looking).run [] s σ H D (I0.toTry _) h
  case take =>
    intro u s' ⟨a, B, sI, pins1, σ1, H1, cls, d, hu, J1, nb, up, sky, na, os, ag, hb1, yes⟩
    subst hu
    have J := J1.ofTry ok
    have sky1 : Sky B (X.env :: X.outer) a (Zc cls d) X.env.locals s'.heap := hst ▸ sky
    show wpAny (model X.prog X.w) X.A (noteFrame (.ref a) X.env) _ _ _
    apply Sky.land Zc.steady fA hfr sky1
    intro h3 fl3 up3
    have J3 : L2.Inv X pins σ1 H1 { s' with heap := h3 } := J.landed nb fl3.1 (up.trans up3) os ag
    obtain ⟨o3, vs3, e3, z3, d3⟩ := fl3.there
    have off : a ∉ frs (X.env :: X.outer) := by
      intro hm
      obtain ⟨_, o', e', q⟩ := fl3.2.2.1.mem hm
      rw [e3] at e'
      cases e'
      exact q _ d3
    have nL : a ≠ X.env.locals := by
      intro z
      exact off (List.mem_filterMap.mpr ⟨X.env, List.mem_cons_self, z ▸ hfr⟩)
    have nF : a ∉ X.fs := by
      intro hm
      obtain ⟨e, he, q⟩ := List.mem_filterMap.mp hm
      exact off (List.mem_filterMap.mpr ⟨e, List.mem_cons_of_mem _ he, q⟩)
    have newI : sI.heap.get? a = none := by
      cases q : sI.heap.get? a with
      | none => rfl
      | some o =>
        have := nb a o q (hst ▸ off)
        rw [fl3.2.1] at this
        cases this
    have new0 : X.s_0.heap.get? a = none := by
      cases q : X.s_0.heap.get? a with
      | none => rfl
      | some o =>
        obtain ⟨o', q'⟩ := J.base.there a o q (by rw [hx]; exact List.not_mem_nil)
        rw [newI] at q'
        cases q'
    have npin : ∀ p ∈ X.pn ++ pins, p.1 ≠ a := by
      intro p hp z
      have := (J.pin p hp).1
      rw [z, newI] at this
      cases this
    have S3 := J3.suite e3 d3 na nL nF
    apply wpAny_handleBy_cons _ (by intro q; cases q)
    apply codeAny_handlers_test
    have LT : PySem.W.Looks (model X.prog X.w) h3 (typeOf (.ref a)) cls := fun A Q E s k q => wpAny_typeOf_ref (k _ _ e3) (z3.1.symm ▸ q)
    have LM := PySem.W.exm_one (M := model X.prog X.w) (J3.kIn) LT hb1
    have named : ∀ {Q : Value → Shared → Prop} {E : Value → Shared → Prop}, Q c { s' with heap := h3 } → wpAny (model X.prog X.w) (X.A.mark (some (.ref a))) (eval (.Name x np) X.env) Q E { s' with heap := h3 } := by
      intro Q E q
      obtain ⟨g, db, hm | ⟨hm, hv, hn⟩⟩ := hc
      · exact ld_glob (X := X.suite a ((a, o3) :: (X.pn ++ pins))) S3 g hm q db
      · exact ld_blt (X := X.suite a ((a, o3) :: (X.pn ++ pins))) S3 g hm hv q hn db
    apply named
    apply LM.here
    apply codeAny_handlers_suite_as
    apply HandSPX.lands_againZ fl3
    intro h4 fl4 up4
    have J4 : L2.Inv X pins σ1 H1 { s' with heap := h4 } := J.landed nb fl4.1 ((up.trans up3).trans up4) os ag
    obtain ⟨o4, vs4, e4, z4, d4⟩ := fl4.there
    have S4 := (pin_more J4 e4 d4 na nL nF).suite e4 d4 na nL nF
    refine store_ok (X := X.suite a ((a, o4) :: (X.pn ++ (a, o4) :: pins))) (v := .ref a) S4 nd hi (.inl ln) rfl (fun s5 S5 => ?_) (.inr ln)
    have hl : i < σ1.length := by rw [J.len]; exact hij
    have suite : PSs (X.suite a ((a, o4) :: (X.pn ++ (a, o4) :: pins))) [.Assign [.Name m p1] (.Name n p2) p3] _ := pss_one (ps_set (i := j) nd hj lm (pe_var (i := i) hi (.inl ln) hd1 hd2) hsw fm)
    have fin : tAsg (tVar i) (gName j) { nx := fun σ' H' => σ' = (σ1.set i (some (.ref a))).set j (some (.ref a)) ∧ H' = H1, rt := fun _ _ => False } (σ1.set i (some (.ref a))) H1 := ⟨.ref a, by rw [List.getElem?_set_self hl], rfl, rfl⟩
    refine wpAny_mono (suite.run [] s5 _ H1 _ S5 fin) (fun f s6 hsp => ?_) (fun _ _ z => False.elim z)
    cases f with
    | next =>
      obtain ⟨σ6, H6, S6, rfl, rfl⟩ := hsp
      refine gone_ok (S6.unsuite ok) nd hi ln fun s7 J7 => ⟨_, _, pin_track J7 d4 hx new0 npin, ?_⟩
      obtain ⟨rfl, rfl⟩ := z4
      exact yes a na
    | brk =>
      obtain ⟨_, _, _, q⟩ := hsp
      exact q.elim
    | cont =>
      obtain ⟨_, _, _, q⟩ := hsp
      exact q.elim
    | ret u =>
      obtain ⟨_, _, _, _, _, q⟩ := hsp
      exact q.elim
  apply wpAny_mono run _ (fun e s1 he => he)
  intro f s1 hsp
  cases f with
  | next =>
    obtain ⟨σ', H', J', q⟩ := hsp
    exact wpAny_execs_nil ⟨σ', H', J'.ofTry ok, q⟩
  | brk =>
    obtain ⟨σ', H', J', q⟩ := hsp
    exact ⟨σ', H', J'.ofTry ok, q⟩
  | cont =>
    obtain ⟨σ', H', J', q⟩ := hsp
    exact ⟨σ', H', J'.ofTry ok, q⟩
  | ret u =>
    obtain ⟨v, σ', H', J', r, q⟩ := hsp
    exact ⟨v, σ', H', J'.ofTry ok, r, q⟩
end
end Qv
end
section
set_option Elab.async false
set_option autoImplicit false
set_option linter.all false
set_option maxRecDepth 100000
set_option maxHeartbeats 2000000
/-! a caught exception, kept: isinstance, its fields. -/
namespace Qv
open PySem L2 PySem.Spec PyProof.Rows
/-- what the class at D must say of its instances -/
structure XqC (K : PySem.W.Frag) (D : Addr) : Prop where
  cl : (PySem.W.clsIn K D).isSome = true
  ga : PySem.W.findIn K (.ref D) "__getattribute__" = some (some (.builtin "BaseException.__getattribute__"))
  gt : PySem.W.findIn K (.ref D) "__getattr__" = some none
  ex : PySem.W.subIn K (.ref D) (.type "BaseException") = some true
  hd : PySem.W.hasDictIn K D = true
  ca : PySem.W.findIn K (.ref D) "__class__" = some (some (.builtin "object.__class__"))
  cg : PySem.W.specialIn K (.builtin "object.__class__") "__get__" = some (some (.builtin "getset_descriptor.__get__"))
  ct : PySem.W.takesIn K (.builtin "object.__class__") = some true
  mo : PySem.W.mroIn K D (.type "object") = some true
section
variable {X : Cx} {a D dd : Addr} {H : Hp} {h : Heap} {fs : List (Str × V)}
theorem exq_inst (hk : HOk X.prog X.w H h) (e : H a = some (exq a (.ref D) (some dd))) (ed : H dd = some (.xd fs)) : ∃ oe od mA, PySem.W.InstAt h a oe D (some od) ∧ h.Ns1 dd mA ∧ h.get? dd = some od ∧ (∀ f, RelO (fs.lookup f) (mA f)) := by
  obtain ⟨⟨oe, vs, he, hc, hdc, hdt⟩, _, _⟩ := (show ObjOk X.prog X.w H h a (exq a (.ref D) (some dd)) from hk a _ e)
  have hx : ObjOk X.prog X.w H h dd (.xd fs) := hk dd _ ed
  obtain ⟨mA, hns, hr⟩ := hx
  obtain ⟨od, ho, hl⟩ := lookIn_ns hns
  exact ⟨oe, od, mA, ⟨he, hc, by unfold PySem.W.notCls; rw [hdt] <;> rfl, by rw [hdc]; exact ho⟩, hns, ho, hr⟩
/-- isinstance(e, c), e a kept exception -/
def rIsQ (K : PySem.W.Frag) : List V → Hp → VK → Prop := fun xs H Q => ∃ (a D dd : Addr) (fs : List (Str × V)) (c : V) (cv : Value) (b : Bool), xs = [.ref a, c] ∧ H a = some (exq a (.ref D) (some dd)) ∧ H dd = some (.xd fs) ∧ XqC K D ∧ (∀ u, RelV c u → u = cv) ∧ PySem.W.kitOne K (.ref D) cv = some b ∧ Q (.bl b) H
theorem call_isQ : CallR X (.builtin "isinstance") (rIsQ X.K) := by
  intro pins s σ H xs us Q I r h
  obtain ⟨a, D, dd, fs, c, cv, b, rfl, ea, ed, C, hcv, e, q⟩ := h
  cases r with
  | cons rx rr =>
    cases rr with
    | cons rt rr =>
      cases rr
      cases rx
      cases hcv _ rt
      obtain ⟨oe, od, mA, J, _⟩ := exq_inst I.hok ea ed
      refine PySem.W.kia_one (PySem.W.kitx_exc C.cl C.ga C.gt C.ex C.ca C.cg C.ct C.mo) I.kIn J e (fun z => nomatch z) fun tk => ?_
      exact ⟨.bl b, H, I.kept (t' := tk) fun _ _ z => z, rfl, q⟩
/-- e.f, e a kept exception -/
def tXq (K : PySem.W.Frag) (f : Str) (te : TE) : TE := fun σ H Q => te σ H fun x H1 => ∃ (a D dd : Addr) (fs : List (Str × V)) (v : V), x = .ref a ∧ H1 a = some (exq a (.ref D) (some dd)) ∧ H1 dd = some (.xd fs) ∧ XqC K D ∧ PySem.W.findIn K (.ref D) f = some none ∧ fs.lookup f = some v ∧ Q v H1
theorem pe_xq {e : Expr} {te : TE} {pos : Pos} {f : Str} (he : PE X e te) (hb : attributeBase e f X.env (eval e X.env) = eval e X.env := by rfl) : PE X (.Attribute e f pos) (tXq X.K f te) := by
  constructor
  intro pins s σ H Q I h
  refine attr_of hb (thn (he.run pins s σ H _ I h) fun u s1 hh => ?_)
  obtain ⟨x, H1, I1, rx, a, D, dd, fs, v, rfl, ea, ed, T, hno, l, q⟩ := hh
  cases rx
  obtain ⟨oe, od, mA, J, hns, ho, hr⟩ := exq_inst I1.hok ea ed
  obtain ⟨od', ho', hl⟩ := lookIn_ns hns
  rw [ho] at ho'
  cases ho'
  obtain ⟨u, hu, ru⟩ := RelO.some_of (v := v) (o := mA f) (l ▸ hr f)
  exact HandSPX.exc_get I1.kIn J T.ga T.gt T.ex (PySem.W.findObj_own T.hd hno rfl (by rw [hl, hu])) (handed_of ru) ⟨v, H1, I1.tok _, ru, q⟩
end
end Qv
end
section
set_option Elab.async false
set_option autoImplicit false
set_option linter.all false
set_option maxRecDepth 100000
set_option maxHeartbeats 2000000
/-! Qv: isinstance, fields. -/
namespace Qv
open PySem L2 PySem.Spec PyProof.Rows
def Cl.nm : Cl → String
  | .int => "int" | .bool => "bool" | .str => "str" | .list => "list" | .tuple => "tuple" | .dict => "dict"
def Kd.nm : Kd → String
  | .non => "NoneType" | .bl => "bool" | .int => "int" | .str => "str" | .tup => "tuple" | .lst => "list" | .dct => "dict"
theorem kit_b : ∀ (c : Cl) (k : Kd), kitB k.nm c.nm = some (isiK c k) := by
  intro c k
  cases c <;> cases k <;> decide +kernel
/-- what an own class (no exception) must say, so that isinstance asks its instances rightly -/
structure InsC (K : PySem.W.Frag) (C : Addr) : Prop where
  cl : Cls K C
  ca : PySem.W.findIn K (.ref C) "__class__" = some (some (.builtin "object.__class__"))
  cg : PySem.W.specialIn K (.builtin "object.__class__") "__get__" = some (some (.builtin "getset_descriptor.__get__"))
  ct : PySem.W.takesIn K (.builtin "object.__class__") = some true
  mo : PySem.W.mroIn K C (.type "object") = some true

/-- what a value's class is -/
inductive TyQ (K : PySem.W.Frag) (H : Hp) : V → Value → Prop where
  | base {x : V} {t : Value} (h : TyX K H x t) : TyQ K H x t
  | dct {a : Addr} {w : World} {nk : List NestedKey} {xs ys : List V} (e : H a = some (dcq w a nk xs ys)) : TyQ K H (.ref a) (.type "dict")
  | exn {a D dd : Addr} {fs : List (Str × V)} (e : H a = some (exq a (.ref D) (some dd))) (ed : H dd = some (.xd fs)) (C : XqC K D) : TyQ K H (.ref a) (.ref D)
theorem kit_ofQ {X : Cx} {pins : List (Addr × Obj)} {σ : L2.St} {H : Hp} {s : Shared} {x : V} {u t : Value} (I : L2.Inv X pins σ H s) (rx : RelV x u) (ty : TyQ X.K H x t) : ∃ P : Heap → Prop, PySem.W.KitX X.K u t P ∧ P s.heap ∧ u ≠ .builtin "__main__.__loader__#opaque" := by
  cases ty with
  | base h => exact kit_of I rx h
  | @dct a w nk xs ys e =>
    cases (show u = Value.ref a from rx)
    obtain ⟨⟨_, o, es, ep, h1, h2, _⟩, _⟩ := (show ObjOk X.prog X.w H s.heap a (dcq w a nk xs ys) from I.hok a _ e)
    exact ⟨_, PySem.W.kitx_dict, ⟨o, h1, h2.1⟩, fun z => nomatch z⟩
  | @exn a D dd fs ea ed C =>
    cases (show u = Value.ref a from rx)
    obtain ⟨oe, od, mA, J, _⟩ := exq_inst I.hok ea ed
    exact ⟨_, PySem.W.kitx_exc C.cl C.ga C.gt C.ex C.ca C.cg C.ct C.mo, J, fun z => nomatch z⟩
section
variable {X : Cx}
def rIsi (K : PySem.W.Frag) : List V → Hp → VK → Prop := fun xs H Q => ∃ (x c : V) (t u : Value) (b : Bool), xs = [x, c] ∧ ClsV c u ∧ TyQ K H x t ∧ PySem.W.kitOne K t u = some b ∧ Q (.bl b) H
def rIsiT (K : PySem.W.Frag) : List V → Hp → VK → Prop := fun xs H Q => ∃ (x : V) (tp : Addr) (cs : List V) (t : Value) (us : List Value) (b : Bool), xs = [x, .ref tp] ∧ H tp = some (.tup cs) ∧ Paired ClsV cs us ∧ TyQ K H x t ∧ PySem.W.kitAny K t us = some b ∧ Q (.bl b) H
theorem call_isi : CallR X (.builtin "isinstance") (rIsi X.K) := by
  intro pins s σ H xs us Q I r h
  obtain ⟨x, c, t, u, b, rfl, k, ty, e, q⟩ := h
  obtain ⟨u1, u2, rfl, r1, r2⟩ := vals2 r
  have e2 := k.eq r2
  subst e2
  obtain ⟨P, Z, p, hx⟩ := kit_ofQ I r1 ty
  exact PySem.W.kia_one Z I.kIn p e hx fun tk => ⟨.bl b, H, I.tok tk, rfl, q⟩
theorem call_isiT : CallR X (.builtin "isinstance") (rIsiT X.K) := by
  intro pins s σ H xs us Q I r h
  obtain ⟨x, tp, cs, t, ws, b, rfl, hT, k, ty, e, q⟩ := h
  obtain ⟨u1, u2, rfl, r1, r2⟩ := vals2 r
  cases (show u2 = Value.ref tp from r2)
  obtain ⟨P, Z, p, hx⟩ := kit_ofQ I r1 ty
  obtain ⟨_, its, rv, o, h1, h2, n, h3⟩ := (show ObjOk X.prog X.w H s.heap tp (.tup cs) from I.hok tp _ hT)
  have e3 := ClsV.all k rv
  subst e3
  obtain ⟨oc, od, dt, sl⟩ := o
  simp only at h2 h3
  subst h2 h3
  exact PySem.W.kia_tup Z I.kIn p h1 e hx fun tk => ⟨.bl b, H, I.tok tk, rfl, q⟩
end
theorem ty_plain {K : Kx} {w : Wd} {H : Hp} {st : Sto} (g : Good K w H st) {v : V} {d : D} (h : Dv K w H v d) {k : Kd} (hm : kdOf st d = some k) : TyQ K.K H v (.type k.nm) := by
  cases h with
  | non => cases hm; exact .base (.base .non)
  | bl b => cases hm; exact .base (.base (.bl b))
  | int i => cases hm; exact .base (.base (.int i))
  | str x => cases hm; exact .base (.base (.str x))
  | tup f o q => cases hm; exact .base (.base (.tup o))
  | ktup k q =>
    cases hm
    rcases k with (k | ⟨o, k⟩) | ⟨o, its, n, hk, hc, _⟩
    · cases k
    · cases k
    · exact .base (.kTuple hk hc)
  | lst f o q => cases hm; exact .base (.base (.lst o))
  | rol f o q => cases hm; exact .base (.base (.frz o))
  | krol k q =>
    cases hm
    rcases k with (k | ⟨o, k⟩) | ⟨o, its, n, hk, hc, _⟩
    · cases k
    · cases k
    · exact .base (.kList hk hc)
  | dct0 f o => cases hm; exact .base (.base (.dK o))
  | dct f o => cases hm; exact .dct o
  | exn => cases hm
  | ins => cases hm
  | @mrf k0 _ o =>
    have hm : (match st.get k0 with | some (.lst _) => some Kd.lst | some (.dct _ _) => some Kd.dct | _ => none) = some k := hm
    split at hm
    · rename_i xs q
      cases hm
      obtain ⟨_, vs, h3, _⟩ := g.at q o
      exact .base (.base (.lst h3))
    · rename_i ks vs q
      cases hm
      obtain ⟨_, nk, xs, ys, h3, _⟩ := g.at q o
      exact .dct h3
    · cases hm
/-- the known classes -/
structure Kn (K : PySem.W.Frag) (kn ki : List Str) : Prop where
  ex : ∀ c ∈ kn, XqC K (He.ga K c)
  ob : ∀ c ∈ ki, InsC K (He.ga K c)
theorem ty_inst {K : Kx} {kn ki : List Str} (N : Kn K.K kn ki) {w : Wd} {H : Hp} {st : Sto} (g : Good K w H st) {v : V} {d : D} (h : Dv K w H v d) {c : Str} (hm : instOf kn ki st d = some c) : c ∈ kn ++ ki ∧ TyQ K.K H v (.ref (He.ga K.K c)) := by
  cases h with
  | @exn a0 dd0 c0 ns0 vs0 ds0 f1 o1 f2 o2 l r =>
    have hm : (if c0 ∈ kn then some c0 else none) = some c := hm
    split at hm
    · rename_i hk
      cases hm
      exact ⟨List.mem_append_left _ hk, .exn o1 o2 (N.ex _ hk)⟩
    · cases hm
  | @ins a0 dx0 c0 ns0 vs0 ds0 f1 o1 l r =>
    have hm : (if c0 ∈ ki then some c0 else none) = some c := hm
    split at hm
    · rename_i hk
      cases hm
      have ic := N.ob _ hk
      exact ⟨List.mem_append_right _ hk, .base (.base (.ins o1 ic.cl ic.ca ic.cg ic.ct ic.mo))⟩
    · cases hm
  | @mrf k0 _ o =>
    have hm : (match st.get k0 with | some (.obj c' _ _) => if c' ∈ ki then some c' else none | _ => none) = some c := hm
    split at hm
    · rename_i c' ns ds q
      split at hm
      · rename_i hk
        cases hm
        obtain ⟨_, dx, vs, h3, _⟩ := g.at q o
        have ic := N.ob _ hk
        exact ⟨List.mem_append_right _ hk, .base (.base (.ins h3 ic.cl ic.ca ic.cg ic.ct ic.mo))⟩
      · cases hm
    · cases hm
  | _ => cases hm
/-- what isinstance answers: of built-in classes -/
structure IsiF (K : PySem.W.Frag) (kn ki : List Str) (cs : List Cl) : Prop where
  nk : Kn K kn ki
  no : ∀ c ∈ kn ++ ki, ∀ cl ∈ cs, PySem.W.kitOne K (.ref (He.ga K c)) (.type cl.nm) = some false
/-- of an own class -/
structure IscF (K : PySem.W.Frag) (c : Str) (kn ki su : List Str) : Prop where
  nk : Kn K kn ki
  bi : ∀ k : Kd, PySem.W.kitOne K (.type k.nm) (.ref (He.ga K c)) = some false
  is : ∀ c' ∈ kn ++ ki, PySem.W.kitOne K (.ref (He.ga K c')) (.ref (He.ga K c)) = some (decide (c' ∈ su))
theorem kit_any {K : PySem.W.Frag} {t : Value} {f : Cl → Bool} : ∀ {cs : List Cl}, (∀ c ∈ cs, PySem.W.kitOne K t (.type c.nm) = some (f c)) → PySem.W.kitAny K t (cs.map fun c => .type c.nm) = some (cs.any f)
  | [], _ => rfl
  | c :: cs, h => kitAny_cons (h c List.mem_cons_self) (fun e => by rw [kit_any fun c hc => h c (List.mem_cons_of_mem _ hc), List.any_cons, e]; rfl) (fun e => by rw [List.any_cons, e]; rfl)
theorem isi_cases {K : Kx} {kn ki : List Str} {cs : List Cl} (F : IsiF K.K kn ki cs) {w : Wd} {H : Hp} {st : Sto} (g : Good K w H st) {v : V} {d d' : D} (h : Dv K w H v d) (e : fIsi kn ki cs st d = some d') :
    ∃ t b, d' = .bl b ∧ TyQ K.K H v t ∧ PySem.W.kitAny K.K t (cs.map fun c => .type c.nm) = some b ∧ ∀ cl, cs = [cl] → PySem.W.kitOne K.K t (.type cl.nm) = some b := by
  unfold fIsi at e
  split at e
  · rename_i k q
    cases e
    refine ⟨_, _, rfl, ty_plain g h q, kit_any fun c _ => kit_ty (kit_b c k), fun cl hc => ?_⟩
    subst hc
    rw [kit_ty (kit_b cl k)]
    simp
  · obtain ⟨c, q, rfl⟩ := map_some e
    obtain ⟨hc, ty⟩ := ty_inst F.nk g h q
    have hall : ∀ cl ∈ cs, PySem.W.kitOne K.K (.ref (He.ga K.K c)) (.type cl.nm) = some false := F.no c hc
    refine ⟨_, false, rfl, ty, ?_, fun cl hcl => hall cl (by rw [hcl]; exact List.mem_cons_self)⟩
    rw [kit_any (f := fun _ => false) hall]
    congr 1
    rw [List.any_eq_false]
    intro x _
    simp
section
variable {X : Cx} {pos p p2 q1 q2 q3 : Pos} {x c f : Str} {e a b : Expr} {xa xb xc : Ev D}
/-- isinstance(a, c) -/
theorem pev_isi1 (cl : Cl) {kn ki : List Str} {n : Str} (F : IsiF X.K kn ki [cl]) (ha : PEv X a xa) (hm : X.mg "isinstance" = none) (hn : X.mg n = none) (hv : bootBuiltins n = some (.type cl.nm)) (hg : Gl X "isinstance" := by rfl) (hgn : Gl X n := by rfl) (hs : isStar a = false := by rfl)
    (hnn : n ≠ "__name__" := by decide) (hnd : (n == ("__debug__" : Str)) = false := by decide) :
    PEv X (.Call (.Name "isinstance" p) [a, .Name n q1] [] pos) (xFn (fIsi kn ki [cl]) xa) :=
  pe_weak (pe_callB call_isi hg hm PyProof.Rows.boot_isinstance (pa_cons ha (pa_cons (pe_bltn (v := .ty cl.nm) hgn hn hv rfl hnn hnd) pa_nil) (star_cons hs)) (by decide) (by decide) (star_cons hs) rfl) fun σ H Q ⟨w, env, st, g, r, h⟩ => by
    unfold xFn at h
    rw [R.wp_bind] at h
    refine tEv_mono _ g r h fun d s1 v w1 H1 h1 e1 g1 d1 => ?_
    obtain ⟨d', q, h1⟩ := may_wp h1
    obtain ⟨t, b, rfl, ty, _, k1⟩ := isi_cases (K := kx X) F g1 d1 q
    exact ⟨v, .ty cl.nm, _, _, b, rfl, .ty _, ty, k1 cl rfl, Fin.here g1 (.bl _) (Fin.ext e1 h1)⟩
/-- isinstance(a, (c, c')) -/
theorem pev_isi2 (cl cl' : Cl) {kn ki : List Str} {n n' : Str} {k : Nat} (F : IsiF X.K kn ki [cl, cl']) (ha : PEv X a xa) (hm : X.mg "isinstance" = none) (hn : X.mg n = none) (hv : bootBuiltins n = some (.type cl.nm)) (hn' : X.mg n' = none) (hv' : bootBuiltins n' = some (.type cl'.nm))
    (hg : Gl X "isinstance" := by rfl) (hgn : Gl X n := by rfl) (hgn' : Gl X n' := by rfl) (hs : isStar a = false := by rfl)
    (hnn : n ≠ "__name__" := by decide) (hnd : (n == ("__debug__" : Str)) = false := by decide) (hnn' : n' ≠ "__name__" := by decide) (hnd' : (n' == ("__debug__" : Str)) = false := by decide) :
    PEv X (.Call (.Name "isinstance" p) [a, .Tuple [.Name n q1, .Name n' q2] k q3] [] pos) (xFn (fIsi kn ki [cl, cl']) xa) :=
  pe_weak (pe_callB call_isiT hg hm PyProof.Rows.boot_isinstance (pa_cons ha (pa_cons (pe_tup (pa_cons (pe_bltn (v := .ty cl.nm) hgn hn hv rfl hnn hnd) (pa_cons (pe_bltn (v := .ty cl'.nm) hgn' hn' hv' rfl hnn' hnd') pa_nil))) pa_nil) (star_cons hs)) (by decide) (by decide) (star_cons hs) rfl) fun σ H Q ⟨w, env, st, g, r, h⟩ => by
    unfold xFn at h
    rw [R.wp_bind] at h
    refine tEv_mono _ g r h fun d s1 v w1 H1 h1 e1 g1 d1 => ?_
    obtain ⟨d', q, h1⟩ := may_wp h1
    refine ⟨by show 2 ≤ sizeLine; decide, fun tp ht => ?_⟩
    have ee : Ext w1 H1 (w1.frz tp) (upd H1 tp (.tup [.ty cl.nm, .ty cl'.nm])) := Ext.frz g1 ht
    have g2 : Good (kx X) (w1.frz tp) (upd H1 tp (.tup [.ty cl.nm, .ty cl'.nm])) s1 := g1.frz ht
    obtain ⟨t, b, rfl, ty, k1, _⟩ := isi_cases (K := kx X) F g2 (d1.le ee.toLe) q
    exact ⟨v, tp, _, _, _, _, rfl, upd_same, .cons (.ty _) (.cons (.ty _) .nil), ty, k1, Fin.here g2 (.bl _) (Fin.ext (e1.trans ee) h1)⟩
/-- isinstance(a, C), C an own class -/
theorem pev_isc {kn ki su : List Str} (F : IscF X.K c kn ki su) (ha : PEv X a xa) (hm : X.mg "isinstance" = none) (hc : X.mg c = some (.ref (He.ga X.K c))) (hg : Gl X "isinstance" := by rfl) (hgc : Gl X c := by rfl) (hs : isStar a = false := by rfl) (hnd : (c == ("__debug__" : Str)) = false := by decide) :
    PEv X (.Call (.Name "isinstance" p) [a, .Name c q1] [] pos) (xFn (fIsc kn ki su) xa) :=
  pe_weak (pe_callB call_isi hg hm PyProof.Rows.boot_isinstance (pa_cons ha (pa_cons (pe_glob (v := .ref (He.ga X.K c)) hgc hc rfl hnd) pa_nil) (star_cons hs)) (by decide) (by decide) (star_cons hs) rfl) fun σ H Q ⟨w, env, st, g, r, h⟩ => by
    unfold xFn at h
    rw [R.wp_bind] at h
    refine tEv_mono _ g r h fun d s1 v w1 H1 h1 e1 g1 d1 => ?_
    obtain ⟨d', q, h1⟩ := may_wp h1
    unfold fIsc at q
    split at q
    · rename_i k qk
      cases q
      exact ⟨v, .ref (He.ga X.K c), _, _, false, rfl, .own _, ty_plain g1 d1 qk, F.bi _, Fin.here g1 (.bl _) (Fin.ext e1 h1)⟩
    · obtain ⟨c', qk, rfl⟩ := map_some q
      obtain ⟨hc', ty⟩ := ty_inst (K := kx X) F.nk g1 d1 qk
      exact ⟨v, .ref (He.ga X.K c), _, _, _, rfl, .own _, ty, F.is c' hc', Fin.here g1 (.bl _) (Fin.ext e1 h1)⟩
/-! ### fields -/
/-- e.f, e a kept exception or an instance -/
def tFx (K : PySem.W.Frag) (f : Str) (te : TE) : TE := fun σ H Q => te σ H fun x H1 =>
  (∃ (a D dd : Addr) (fs : List (Str × V)) (v : V), x = .ref a ∧ H1 a = some (exq a (.ref D) (some dd)) ∧ H1 dd = some (.xd fs) ∧ XqC K D ∧ PySem.W.findIn K (.ref D) f = some none ∧ fs.lookup f = some v ∧ Q v H1) ∨
  ∃ (a C dx : Addr) (fs : List (Str × V)) (v : V), x = .ref a ∧ H1 a = some (.ins C dx fs) ∧ Cls K C ∧ NoAttr K C f ∧ fs.lookup f = some v ∧ Q v H1
theorem pe_fx {e : Expr} {te : TE} (he : PE X e te) (hb : attributeBase e f X.env (eval e X.env) = eval e X.env := by rfl) : PE X (.Attribute e f pos) (tFx X.K f te) := by
  constructor
  intro pins s σ H Q I h
  refine attr_of hb (thn (he.run pins s σ H _ I h) fun u s1 hh => ?_)
  obtain ⟨x, H1, I1, rx, hh⟩ := hh
  rcases hh with ⟨a, D, dd, fs, v, rfl, ea, ed, T, hno, l, q⟩ | ⟨a, C, dx, fs, v, rfl, ea, cl, n, l, q⟩
  · cases rx
    obtain ⟨oe, od, mA, J, hns, ho, hr⟩ := exq_inst I1.hok ea ed
    obtain ⟨od', ho', hl⟩ := lookIn_ns hns
    rw [ho] at ho'
    cases ho'
    obtain ⟨u, hu, ru⟩ := RelO.some_of (v := v) (o := mA f) (l ▸ hr f)
    exact HandSPX.exc_get I1.kIn J T.ga T.gt T.ex (PySem.W.findObj_own T.hd hno rfl (by rw [hl, hu])) (handed_of ru) ⟨v, H1, I1.tok _, ru, q⟩
  · cases rx
    exact getattr_ok I1 ea cl n l fun u2 s2 I2 r2 => ⟨v, H1, I2, r2, q⟩
theorem lk_zip {K : Kx} {w : Wd} {H : Hp} {f : Str} {d : D} : ∀ {ns : List Str} {vs : List V} {ds : List D}, Dvs K w H vs ds → lkF f ns ds = some d → ∃ v, (ns.zip vs).lookup f = some v ∧ Dv K w H v d
  | [], _, _, _, e => by cases e
  | _ :: _, _, [], _, e => by cases e
  | n :: ns, v :: vs, d' :: ds, .cons a r, e => by
    have e : (if f = n then some d' else lkF f ns ds) = some d := e
    rw [List.zip_cons_cons, List.lookup_cons]
    by_cases h : f = n
    · rw [if_pos h] at e
      cases e
      subst h
      rw [beq_self_eq_true]
      exact ⟨v, rfl, a⟩
    · rw [if_neg h] at e
      have : (f == n) = false := by simpa using h
      rw [this]
      exact lk_zip r e
structure FldF (K : PySem.W.Frag) (f : Str) (kn ki : List Str) : Prop where
  ex : ∀ c' ∈ kn, XqC K (He.ga K c') ∧ PySem.W.findIn K (.ref (He.ga K c')) f = some none
  ob : ∀ c' ∈ ki, Cls K (He.ga K c') ∧ NoAttr K (He.ga K c') f
theorem pev_fld {kn ki : List Str} (F : FldF X.K f kn ki) (ha : PEv X a xa) (hb : attributeBase a f X.env (eval a X.env) = eval a X.env := by rfl) : PEv X (.Attribute a f pos) (xFn (fFld kn ki f) xa) :=
  pe_weak (pe_fx ha hb) fun σ H Q ⟨w, env, st, g, r, h⟩ => by
    unfold xFn at h
    rw [R.wp_bind] at h
    refine tEv_mono _ g r h fun d s1 v w1 H1 h1 e1 g1 d1 => ?_
    obtain ⟨y, q, h2⟩ := may_wp h1
    unfold fFld at q
    split at q
    · rename_i c' ns ds
      split at q
      · rename_i hk
        cases d1 with
        | exn f1 o1 f2 o2 l r1 =>
          obtain ⟨u, hu, du⟩ := lk_zip r1 q
          obtain ⟨xc, nf⟩ := F.ex c' hk
          exact .inl ⟨_, _, _, _, u, rfl, o1, o2, xc, nf, hu, Fin.here g1 du (Fin.ext e1 h2)⟩
      · cases q
    · rename_i c' ns ds
      split at q
      · rename_i hk
        cases d1 with
        | ins f1 o1 l r1 =>
          obtain ⟨u, hu, du⟩ := lk_zip r1 q
          obtain ⟨ic, nf⟩ := F.ob c' hk
          exact .inr ⟨_, _, _, _, u, rfl, o1, ic, nf, hu, Fin.here g1 du (Fin.ext e1 h2)⟩
      · cases q
    · split at q
      · rename_i k c' ns ds qs
        split at q
        · rename_i hk
          cases d1 with
          | mrf ha' =>
            obtain ⟨_, dx, vs, hH, hl, r1⟩ := g1.at qs ha'
            obtain ⟨u, hu, du⟩ := lk_zip r1 q
            obtain ⟨ic, nf⟩ := F.ob c' hk
            exact .inr ⟨_, _, _, _, u, rfl, hH, ic, nf, hu, Fin.here g1 du (Fin.ext e1 h2)⟩
        · cases q
      · cases q
    · cases q
end
end Qv
end
section
set_option Elab.async false
set_option autoImplicit false
set_option linter.all false
set_option maxRecDepth 100000
set_option maxHeartbeats 2000000
/-! Qv: targets, what is walked, comprehensions. -/
namespace Qv
open PySem L2
/-! ### slots -/
theorem wipe_get (σ : St) (j : Nat) : ∀ vs : List Nat, (L2.wipe σ vs)[j]? = if j ∈ vs then σ[j]?.map (fun _ => none) else σ[j]?
  | [] => by simp [L2.wipe]
  | v :: vs => by
    show ((L2.wipe σ vs).set v none)[j]? = _
    by_cases hv : v = j
    · subst hv
      rw [List.getElem?_set, if_pos rfl, if_pos (List.mem_cons_self ..), L2.wipe_length]
      by_cases hl : v < σ.length
      · rw [if_pos hl, List.getElem?_eq_getElem hl]; rfl
      · rw [if_neg hl, List.getElem?_eq_none (by omega)]; rfl
    · rw [List.getElem?_set_ne hv, wipe_get σ j vs]
      by_cases hm : j ∈ vs
      · rw [if_pos hm, if_pos (List.mem_cons_of_mem _ hm)]
      · rw [if_neg hm, if_neg (by simp [hm]; exact fun z => hv z.symm)]
theorem wipe_set {σ : St} {i : Nat} {x : Option V} {vs : List Nat} (h : i ∈ vs) : L2.wipe (σ.set i x) vs = L2.wipe σ vs := by
  apply List.ext_getElem?
  intro j
  rw [wipe_get, wipe_get]
  by_cases hj : j ∈ vs
  · rw [if_pos hj, if_pos hj]
    by_cases hl : j < σ.length
    · rw [List.getElem?_eq_getElem (by rw [List.length_set]; exact hl), List.getElem?_eq_getElem hl]; rfl
    · rw [List.getElem?_eq_none (by rw [List.length_set]; omega), List.getElem?_eq_none (by omega)]
  · rw [if_neg hj, if_neg hj, List.getElem?_set_ne (fun z => hj (by rw [← z]; exact h))]
theorem wipe_wipe (σ : St) (vs : List Nat) : L2.wipe (L2.wipe σ vs) vs = L2.wipe σ vs := by
  apply List.ext_getElem?
  intro j
  rw [wipe_get, wipe_get]
  by_cases hj : j ∈ vs
  · rw [if_pos hj, if_pos hj]
    cases σ[j]? <;> rfl
  · rw [if_neg hj, if_neg hj]
mutual
def tgIn : Tg → List Nat → Bool
  | .nm i, vs => decide (i ∈ vs)
  | .tup ts, vs => tgsIn ts vs
def tgsIn : List Tg → List Nat → Bool
  | [], _ => true
  | t :: ts, vs => tgIn t vs && tgsIn ts vs
end
def tTg (K : Kx) (tg : Tg) : TG := fun v σ H Q => ∃ w st env d env', Good K w H st ∧ EnvR K w H σ env ∧ Dv K w H v d ∧ bindT tg d env = some env' ∧
  ∀ σ', EnvR K w H σ' env' → (∀ vs, tgIn tg vs = true → L2.wipe σ' vs = L2.wipe σ vs) → Q σ' H
def tTgs (K : Kx) (ts : List Tg) : TGs := fun us σ H Q => ∃ w st env ds env', Good K w H st ∧ EnvR K w H σ env ∧ Dvs K w H us ds ∧ bindTs ts ds env = some env' ∧
  ∀ σ', EnvR K w H σ' env' → (∀ vs, tgsIn ts vs = true → L2.wipe σ' vs = L2.wipe σ vs) → Q σ' H
theorem pgs_weak {X : Cx} {e : List Expr} {t t' : TGs} (h : PGs X e t) (k : ∀ v σ H Q, t' v σ H Q → t v σ H Q) : PGs X e t' := ⟨fun pins s σ H v u Q I r q => h.run pins s σ H v u Q I r (k v σ H Q q)⟩
section
variable {X : Cx} {pos : Pos} {x : Str} {e : Expr} {es : List Expr} {t : Tg} {ts : List Tg}
theorem pgv_nm (i : Nat) (hN : X.N.Nodup) (hi : X.N[i]? = some x := by rfl) (hx : Loc X.env.scope x := by first | exact .inl rfl | exact .inr rfl) (hf : X.fn x = true ∨ X.env.scope.names.lookup x = some .local := by first | exact .inl rfl | exact .inr rfl) :
    PG X (.Name x pos) (tTg (kx X) (.nm i)) := pg_weak (pg_name hN hi hx hf) fun v σ H Q ⟨w, st, env, d, env', g, r, dv, hb, q⟩ => by
  unfold bindT at hb
  cases hb
  refine q _ (r.set dv) fun vs hv => ?_
  unfold tgIn at hv
  exact wipe_set (of_decide_eq_true hv)
theorem pgsv_nil : PGs X [] (tTgs (kx X) []) := pgs_weak pgs_nil fun v σ H Q ⟨w, st, env, d, env', g, r, dv, hb, q⟩ => by
  cases dv with
  | nil =>
    unfold bindTs at hb
    cases hb
    exact ⟨rfl, q σ r fun _ _ => rfl⟩
  | cons => unfold bindTs at hb; cases hb
theorem pgsv_cons (h1 : PG X e (tTg (kx X) t)) (h2 : PGs X es (tTgs (kx X) ts)) (hs : (assignEach (e :: es) X.env).map (·.2) = assign e X.env :: (assignEach es X.env).map (·.2) := by rfl) : PGs X (e :: es) (tTgs (kx X) (t :: ts)) :=
  pgs_weak (pgs_cons h1 h2 hs) fun v σ H Q ⟨w, st, env, d, env', g, r, dv, hb, q⟩ => by
    cases dv with
    | nil => unfold bindTs at hb; cases hb
    | @cons v vs d ds d1 d2 =>
      unfold bindTs at hb
      cases hb1 : bindT t d env with
      | none => rw [hb1] at hb; cases hb
      | some env1 =>
        rw [hb1] at hb
        refine ⟨v, vs, rfl, w, st, env, d, env1, g, r, d1, hb1, fun σ1 r1 hw1 => ?_⟩
        refine ⟨w, st, env1, ds, env', g, r1, d2, hb, fun σ2 r2 hw2 => q σ2 r2 fun us hu => ?_⟩
        unfold tgsIn at hu
        rw [Bool.and_eq_true] at hu
        exact (hw2 us hu.2).trans (hw1 us hu.1)
theorem bindTs_length : ∀ {ts : List Tg} {ds : List D} {env env' : En}, bindTs ts ds env = some env' → ds.length = ts.length
  | [], [], _, _, _ => rfl
  | [], _ :: _, _, _, h => by unfold bindTs at h; cases h
  | _ :: _, [], _, _, h => by unfold bindTs at h; cases h
  | t :: ts, d :: ds, env, env', h => by
    unfold bindTs at h
    cases h1 : bindT t d env with
    | none => rw [h1] at h; cases h
    | some env1 =>
      rw [h1] at h
      rw [List.length_cons, List.length_cons, bindTs_length h]
theorem pgv_tup {k : Nat} (hc : X.calm = true) (h : PGs X es (tTgs (kx X) ts)) (hn : (assignEach es X.env).length = ts.length := by rfl) (hst : (assignEach es X.env).findIdx? (·.1) = none := by rfl) : PG X (.Tuple es k pos) (tTg (kx X) (.tup ts)) := by
  constructor
  intro pins s σ H v u Q I rv ⟨w, st, env, d, env', g, r, dv, hb, q⟩
  have back : ∀ {ds us}, Dvs (kx X) w H us ds → bindTs ts ds env = some env' → tTgs (kx X) ts us σ H Q := fun {ds us} rr hb => ⟨w, st, env, ds, env', g, r, rr, hb, fun σ' r' hw => q σ' r' fun us hu => hw us (by unfold tgIn at hu; exact hu)⟩
  cases d with
  | tup ds =>
    obtain ⟨a, vs, rfl, hs, rr⟩ := tup_sq dv
    unfold bindT at hb
    exact (pg_tup hc h hn hst).run pins s σ H _ u Q I rv ⟨a, vs, rfl, hs, by rw [rr.length, bindTs_length hb], back rr hb⟩
  | lst ds =>
    obtain ⟨a, vs, rfl, hs, rr⟩ := as_lst g dv (show asLst st (.lst ds) = some ds from rfl)
    unfold bindT at hb
    exact (pg_unl hc h hn hst).run pins s σ H _ u Q I rv ⟨a, vs, rfl, .inl (.inl hs), by rw [rr.length, bindTs_length hb], back rr hb⟩
  | _ => unfold bindT at hb; cases hb
end
/-! ### what is walked -/
def JOk (K : Kx) (w : Wd) (H : Hp) (J : It) (ds : List D) : Prop := ∀ w' H', Le w H w' H' →
  (∀ (i : Nat) (d : D), ds[i]? = some d → J.go i H' ∧ ∀ x H'', J.yld i H' x H'' → ∀ st, Good K w' H' st → ∃ w'', Ext w' H' w'' H'' ∧ Good K w'' H'' st ∧ Dv K w'' H'' x d) ∧ ∀ i : Nat, ds.length ≤ i → J.stop i H'
def tIv (K : Kx) (W : WX) (it : Ev D) : TI := fun σ H R => ∃ w env st, Good K w H st ∧ EnvR K w H σ env ∧ (it env st).wp (fun d st' => ∃ ds, itemsOf st' d = some ds ∧
  ∀ J w' H', Ext w H w' H' → Good K w' H' st' → JOk K w' H' J ds → R J H') (FX K W w H (· = σ))
theorem jok_same {K : Kx} {w : Wd} {H H' : Hp} {x : V} {d : D} (e : H' = H) (h : Dv K w H x d) : ∀ st, Good K w H st → ∃ w'', Ext w H w'' H' ∧ Good K w'' H' st ∧ Dv K w'' H' x d := by
  subst e
  exact fun st g => ⟨w, Ext.refl w _, g, h⟩
theorem jok_list {K : Kx} {w : Wd} {H : Hp} {a : Addr} {vs : List V} {ds : List D} (hs : ∀ w' H', Le w H w' H' → SqL K.K H' a vs) (r : Dvs K w H vs ds) : JOk K w H (Itl K.K a) ds := fun w' H' e => by
  refine ⟨fun i d hi => ?_, fun i hi => ⟨vs, hs w' H' e, by rw [r.length]; exact hi⟩⟩
  obtain ⟨v, h1, h2⟩ := r.get hi
  refine ⟨⟨vs, v, hs w' H' e, h1⟩, fun x H'' ⟨e1, e2⟩ => jok_same e1 ?_⟩
  have := e2 vs (hs w' H' e)
  rw [h1] at this
  cases this
  exact h2.le e
theorem jok_tup {K : Kx} {w : Wd} {H : Hp} {a : Addr} {vs : List V} {ds : List D} (hs : ∀ w' H', Le w H w' H' → SqT K.K H' a vs) (r : Dvs K w H vs ds) : JOk K w H (Itt K.K a) ds := fun w' H' e => by
  refine ⟨fun i d hi => ?_, fun i hi => ⟨vs, hs w' H' e, by rw [r.length]; exact hi⟩⟩
  obtain ⟨v, h1, h2⟩ := r.get hi
  refine ⟨⟨vs, v, hs w' H' e, h1⟩, fun x H'' ⟨e1, e2⟩ => jok_same e1 ?_⟩
  have := e2 vs (hs w' H' e)
  rw [h1] at this
  cases this
  exact h2.le e
theorem jok_str {K : Kx} {w : Wd} {H : Hp} (x : Str) : JOk K w H (Its x) (x.cps.toList.map fun c => .str ⟨#[c]⟩) := fun w' H' e => by
  refine ⟨fun i d hi => ?_, fun i hi => ?_⟩
  · rw [List.getElem?_map] at hi
    cases q : x.cps.toList[i]? with
    | none => rw [q] at hi; cases hi
    | some c =>
      rw [q] at hi
      cases hi
      have q' : x.cps[i]? = some c := by rw [← Array.getElem?_toList]; exact q
      refine ⟨(Array.getElem?_eq_some_iff.mp q').1, fun y H'' ⟨e1, c', e2, e3⟩ => jok_same e1 ?_⟩
      rw [q'] at e2
      cases e2
      subst e3
      exact .str _
  · rw [List.length_map, Array.length_toList] at hi
    exact hi
theorem jok_range {K : Kx} {w : Wd} {H : Hp} (n : Nat) : JOk K w H (Itr 0 n) (rangeD n) := fun w' H' e => by
  refine ⟨fun i d hi => ?_, fun i hi => ?_⟩
  · unfold rangeD at hi
    rw [List.getElem?_map] at hi
    by_cases hl : i < n
    · rw [List.getElem?_range hl] at hi
      cases hi
      refine ⟨hl, fun y H'' ⟨e1, e2⟩ => jok_same e1 ?_⟩
      subst e2
      rw [Int.zero_add]
      exact .int _
    · rw [List.getElem?_eq_none (by simp; omega)] at hi
      cases hi
  · unfold rangeD at hi
    rw [List.length_map, List.length_range] at hi
    exact hi
section
variable {X : Cx} {pos p : Pos} {x : Str} {e it tg : Expr} {xi : Ev D}
theorem tEv_ok {K : Kx} {W : WX} {x : Ev D} {σ : St} {H : Hp} {Q : VK} {w : Wd} {env : En} {st st' : Sto} {d : D} (g : Good K w H st) (r : EnvR K w H σ env) (e : x env st = .ok d st')
    (k : ∀ v w' H', Ext w H w' H' → Good K w' H' st' → Dv K w' H' v d → Q v H') : tEv K W x σ H Q := ⟨w, env, st, g, r, by rw [e]; exact k⟩
theorem tEv_exc {K : Kx} {W : WX} {x : Ev D} {σ : St} {H : Hp} {Q : VK} {w : Wd} {env : En} {st st' : Sto} {c : Str} {ns : List Str} {ds : List D} (g : Good K w H st) (r : EnvR K w H σ env) (e : x env st = .exc c ns ds st') (k : FX K W w H (· = σ) c ns ds st') : tEv K W x σ H Q := ⟨w, env, st, g, r, by rw [e]; exact k⟩
theorem piv (he : PEv X it xi) : PI X tg it (tIv (kx X) (CW X) xi) := by
  refine ⟨fun pins s σ H R I ⟨w, env, st, g, r, h⟩ => ?_⟩
  cases q : xi env st with
  | stuck => rw [q] at h; exact h.elim
  | exc c ns xs st' =>
    rw [q] at h
    exact (pi_list he).run pins s σ H R I (tEv_exc g r q h)
  | ok d st' =>
    rw [q] at h
    obtain ⟨ds, hd, h⟩ := h
    cases d with
    | lst es =>
      cases hd
      refine (pi_list he).run pins s σ H R I (tEv_ok g r q fun v w' H' e' g' d' => ?_)
      cases d' with
      | @lst a vs _ f o rr =>
        have hH : ∀ w2 H2, Le w' H' w2 H2 → H2 a = some (.lst vs) := fun w2 H2 e2 => e2.ob a _ f o
        exact ⟨a, rfl, ⟨vs, .inl (.inl o)⟩, h _ w' H' e' g' (jok_list (fun w2 H2 e2 => .inl (.inl (hH w2 H2 e2))) rr)⟩
    | tup es =>
      cases hd
      refine (pi_tup he).run pins s σ H R I (tEv_ok g r q fun v w' H' e' g' d' => ?_)
      cases d' with
      | @tup a vs _ f o rr => exact ⟨a, rfl, ⟨vs, .inl (.inl o)⟩, h _ w' H' e' g' (jok_tup (fun w2 H2 e2 => .inl (.inl (e2.ob a _ f o))) rr)⟩
      | @ktup a vs _ k rr => exact ⟨a, rfl, ⟨vs, k.sq⟩, h _ w' H' e' g' (jok_tup (fun w2 H2 e2 => k.sq) rr)⟩
    | rol es =>
      cases hd
      refine (pi_list he).run pins s σ H R I (tEv_ok g r q fun v w' H' e' g' d' => ?_)
      cases d' with
      | @rol a vs _ o f q1 rr => exact ⟨a, rfl, ⟨vs, .inl (.inr ⟨o, q1⟩)⟩, h _ w' H' e' g' (jok_list (fun w2 H2 e2 => .inl (.inr ⟨o, e2.ob a _ f q1⟩)) rr)⟩
      | @krol a vs _ k rr => exact ⟨a, rfl, ⟨vs, k.sq⟩, h _ w' H' e' g' (jok_list (fun w2 H2 e2 => k.sq) rr)⟩
    | str x =>
      cases hd
      refine (pi_str he).run pins s σ H R I (tEv_ok g r q fun v w' H' e' g' d' => ?_)
      cases d'
      exact ⟨x, rfl, h _ w' H' e' g' (jok_str x)⟩
    | _ => cases hd
theorem zip0_get : ∀ {xs ys : List D} {i : Nat} {d : D}, (zip0 xs ys)[i]? = some d → ∃ x y, xs[i]? = some x ∧ ys[i]? = some y ∧ d = .tup [x, y]
  | [], ys, i, d, h => by unfold zip0 at h; cases h
  | _ :: _, [], i, d, h => by unfold zip0 at h; cases h
  | x :: xs, y :: ys, 0, d, h => by unfold zip0 at h; cases h; exact ⟨x, y, rfl, rfl, rfl⟩
  | x :: xs, y :: ys, i + 1, d, h => by
    unfold zip0 at h
    obtain ⟨a, b, h1, h2, h3⟩ := zip0_get (show (zip0 xs ys)[i]? = some d from h)
    exact ⟨a, b, h1, h2, h3⟩
theorem zip0_len : ∀ {xs ys : List D} {i : Nat}, (zip0 xs ys).length ≤ i → xs.length ≤ i ∨ ys.length ≤ i
  | [], ys, i, h => .inl (Nat.zero_le _)
  | _ :: _, [], i, h => .inr (Nat.zero_le _)
  | x :: xs, y :: ys, 0, h => by unfold zip0 at h; cases h
  | x :: xs, y :: ys, i + 1, h => by
    unfold zip0 at h
    rcases zip0_len (show (zip0 xs ys).length ≤ i from Nat.le_of_succ_le_succ h) with z | z
    · exact .inl (Nat.succ_le_succ z)
    · exact .inr (Nat.succ_le_succ z)
theorem jok_pair {K : Kx} {w : Wd} {H H2 : Hp} {p : Addr} {x y : V} {c d : D} (hp : H p = none) (e : H2 = upd H p (.tup [x, y])) (dx : Dv K w H x c) (dy : Dv K w H y d) : ∀ st, Good K w H st → ∃ w'', Ext w H w'' H2 ∧ Good K w'' H2 st ∧ Dv K w'' H2 (.ref p) (.tup [c, d]) := by
  subst e
  exact fun st g => ⟨w.frz p, Ext.frz g hp, g.frz hp, .tup (.inr rfl) upd_same (.cons (dx.le (Ext.frz g hp).toLe) (.cons (dy.le (Ext.frz g hp).toLe) .nil))⟩
theorem jok_zip {K : Kx} {w : Wd} {H : Hp} {a b : Addr} {vs us : List V} {ds es : List D} (h1 : ∀ w' H', Le w H w' H' → SqL K.K H' a vs) (h2 : ∀ w' H', Le w H w' H' → SqL K.K H' b us) (r1 : Dvs K w H vs ds) (r2 : Dvs K w H us es) : JOk K w H (Itz K.K a b) (zip0 ds es) := fun w' H' e => by
  refine ⟨fun i d hi => ?_, fun i hi => ⟨vs, us, h1 w' H' e, h2 w' H' e, by rw [r1.length, r2.length]; exact zip0_len hi⟩⟩
  obtain ⟨c1, c2, q1, q2, rfl⟩ := zip0_get hi
  obtain ⟨v1, k1, m1⟩ := r1.get q1
  obtain ⟨v2, k2, m2⟩ := r2.get q2
  refine ⟨⟨vs, us, v1, v2, h1 w' H' e, h2 w' H' e, k1, k2⟩, fun x H'' hy => ?_⟩
  obtain ⟨T, x1, x2, rfl, hT, e2, l1, l2⟩ := hy
  have z1 := l1 vs (h1 w' H' e)
  have z2 := l2 us (h2 w' H' e)
  rw [k1] at z1; rw [k2] at z2
  cases z1; cases z2
  exact jok_pair hT e2 (m1.le e) (m2.le e)
theorem jok_zipT {K : Kx} {w : Wd} {H : Hp} {a b : Addr} {vs us : List V} {ds es : List D} (h1 : ∀ w' H', Le w H w' H' → SqT K.K H' a vs) (h2 : ∀ w' H', Le w H w' H' → SqT K.K H' b us) (r1 : Dvs K w H vs ds) (r2 : Dvs K w H us es) : JOk K w H (RZ.ItzT K.K a b) (zip0 ds es) := fun w' H' e => by
  refine ⟨fun i d hi => ?_, fun i hi => ⟨vs, us, h1 w' H' e, h2 w' H' e, by rw [r1.length, r2.length]; exact zip0_len hi⟩⟩
  obtain ⟨c1, c2, q1, q2, rfl⟩ := zip0_get hi
  obtain ⟨v1, k1, m1⟩ := r1.get q1
  obtain ⟨v2, k2, m2⟩ := r2.get q2
  refine ⟨⟨vs, us, v1, v2, h1 w' H' e, h2 w' H' e, k1, k2⟩, fun x H'' hy => ?_⟩
  obtain ⟨T, x1, x2, rfl, hT, e2, l1, l2⟩ := hy
  have z1 := l1 vs (h1 w' H' e)
  have z2 := l2 us (h2 w' H' e)
  rw [k1] at z1; rw [k2] at z2
  cases z1; cases z2
  exact jok_pair hT e2 (m1.le e) (m2.le e)
/-- a sequence that is walked: it stays -/
theorem sq_stays {K : Kx} {w : Wd} {H : Hp} {v : V} {d : D} {ds : List D} (h : Dv K w H v d) (hl : lstOf d = some ds) : ∃ a vs, v = .ref a ∧ (∀ w' H', Le w H w' H' → SqL K.K H' a vs) ∧ Dvs K w H vs ds := by
  cases h with
  | lst f o r => cases hl; exact ⟨_, _, rfl, fun w' H' l => .inl (.inl (l.ob _ _ f o)), r⟩
  | rol f o r => cases hl; exact ⟨_, _, rfl, fun w' H' l => .inl (.inr ⟨_, l.ob _ _ f o⟩), r⟩
  | krol k r => cases hl; exact ⟨_, _, rfl, fun _ _ _ => k.sq, r⟩
  | _ => cases hl
theorem tup_stays {K : Kx} {w : Wd} {H : Hp} {v : V} {ds : List D} (h : Dv K w H v (.tup ds)) : ∃ a vs, v = .ref a ∧ (∀ w' H', Le w H w' H' → SqT K.K H' a vs) ∧ Dvs K w H vs ds := by
  cases h with
  | tup f o r => exact ⟨_, _, rfl, fun w' H' l => .inl (.inl (l.ob _ _ f o)), r⟩
  | ktup k r => exact ⟨_, _, rfl, fun _ _ _ => k.sq, r⟩
/-- zip(a, b) -/
def tZv (K : Kx) (W : WX) (a b : Ev D) : TI := fun σ H R => ∃ w env st, Good K w H st ∧ EnvR K w H σ env ∧ (a env st).wp (fun x s1 => (b env s1).wp (fun y s2 => ∃ ds, zip2 x y = some ds ∧
  ∀ J w' H', Ext w H w' H' → Good K w' H' s2 → JOk K w' H' J ds → R J H') (FX K W w H (· = σ))) (FX K W w H (· = σ))
def tRv (K : Kx) (W : WX) (n : Ev D) : TI := fun σ H R => ∃ w env st, Good K w H st ∧ EnvR K w H σ env ∧ (n env st).wp (fun d st' => ∃ j, asI d = some j ∧ (-(2 ^ 62) ≤ j ∧ j < 2 ^ 62) ∧
  ∀ J w' H', Ext w H w' H' → Good K w' H' st' → JOk K w' H' J (rangeD j.toNat) → R J H') (FX K W w H (· = σ))
theorem pi_weak {tg it : Expr} {t t' : TI} (h : PI X tg it t) (k : ∀ σ H R, t' σ H R → t σ H R) : PI X tg it t' := ⟨fun pins s σ H R I q => h.run pins s σ H R I (k σ H R q)⟩
theorem pirv (hm : X.mg "range" = none) (he : PEv X e xi) (hg : Gl X "range" := by rfl) (hs : isStar e = false := by rfl) : PI X tg (.Call (.Name "range" p) [e] [] pos) (tRv (kx X) (CW X) xi) :=
  pi_weak (pi_range1 hg hm (pa_cons he pa_nil (star_cons hs)) (star_cons hs)) fun σ H R ⟨w, env, st, g, r, h⟩ => by
    refine tEv_mono _ g r h fun d s1 v w1 H1 ⟨j, hj, hb, h1⟩ e1 g1 d1 => ?_
    cases d1 <;> cases hj
    exact ⟨_, rfl, hb.1, hb.2, h1 _ w1 H1 e1 g1 (jok_range _)⟩
theorem pizv {a b : Expr} {xa xb : Ev D} {elts : List Expr} {kk : Nat} {tpos : Pos} (hm : X.mg "zip" = none) (ha : PEv X a xa) (hb : PEv X b xb) (hg : Gl X "zip" := by rfl) (hsa : isStar a = false := by rfl) (hsb : isStar b = false := by rfl) :
    PI X (.Tuple elts kk tpos) (.Call (.Name "zip" p) [a, b] [] pos) (tZv (kx X) (CW X) xa xb) := by
  refine pi_weak (RZ.pi_zipA hg hm (pa_cons ha (pa_cons hb pa_nil (star_cons hsb)) (star_cons hsa)) (star_cons hsa) (by rw [star_cons hsb]; rfl)) fun σ H R ⟨w, env, st, g, r, h⟩ => ?_
  refine tEv_mono _ g r h fun d s1 v w1 H1 h1 e1 g1 d1 => ?_
  refine tEv_then _ e1 g1 r h1 fun d2 s2 v2 w2 H2 ⟨ds, hz, q⟩ e2 g2 dv2 => ?_
  have d1 := d1.le e2.toLe
  have e12 := e1.trans e2
  unfold zip2 at hz
  cases z1 : asTup d with
  | some xs =>
    cases z2 : asTup d2 with
    | none => rw [z1, z2] at hz; cases hz
    | some ys =>
      rw [z1, z2] at hz
      cases hz
      cases d with
      | tup _ =>
        cases d2 with
        | tup _ =>
          cases z1; cases z2
          obtain ⟨a1, vs, rfl, s1, r1⟩ := tup_stays d1
          obtain ⟨a2, us, rfl, s2, r2⟩ := tup_stays dv2
          exact ⟨a1, a2, vs, us, rfl, .inr ⟨s1 w2 H2 (Le.refl w2 H2), s2 w2 H2 (Le.refl w2 H2), q _ w2 H2 e12 g2 (jok_zipT s1 s2 r1 r2)⟩⟩
        | _ => cases z2
      | _ => cases z1
  | none =>
    cases z2 : asTup d2 with
    | some ys => rw [z1, z2] at hz; cases hz
    | none =>
      rw [z1, z2] at hz
      have hz : ((lstOf d).bind fun xs => (lstOf d2).map fun ys => zip0 xs ys) = some ds := hz
      cases y1 : lstOf d with
      | none => rw [y1] at hz; cases hz
      | some xs =>
        cases y2 : lstOf d2 with
        | none => rw [y1, y2] at hz; cases hz
        | some ys =>
          rw [y1, y2] at hz
          cases hz
          obtain ⟨a1, vs, rfl, s1, r1⟩ := sq_stays d1 y1
          obtain ⟨a2, us, rfl, s2, r2⟩ := sq_stays dv2 y2
          exact ⟨a1, a2, vs, us, rfl, .inl ⟨s1 w2 H2 (Le.refl w2 H2), s2 w2 H2 (Le.refl w2 H2), q _ w2 H2 e12 g2 (jok_zip s1 s2 r1 r2)⟩⟩
end
/-! ### tests of a clause -/
section
variable {X : Cx} {pos p : Pos} {x : Str} {e it tg c : Expr} {xi xc xe : Ev D} {cs : Ev Bool}
abbrev PTsv (X : Cx) (es : List Expr) (cs : Ev Bool) : Prop := PTs X es (tTv (kx X) (CW X) cs)
theorem ptcs_nil : PTsv X [] qNil := ⟨fun pins s σ H Q I ⟨w, env, st, g, r, h⟩ => pts_nil.run pins s σ H Q I (h w H (Ext.refl w H) g)⟩
theorem ptcs_one (h : PTv X c xc) : PTsv X [c] (qCons xc qNil) := ⟨fun pins s σ H Q I ⟨w, env, st, g, r, hh⟩ => (pts_one h).run pins s σ H Q I (by
  refine ⟨w, env, st, g, r, ?_⟩
  unfold qCons at hh
  rw [R.wp_bind] at hh
  refine wp_tVal (R.wp_mono hh (fun d s1 h1 => ?_) fun _ _ _ _ h => h)
  obtain ⟨t, q, h1⟩ := may_wp h1
  refine ⟨t, q, ?_⟩
  cases t with
  | true => rw [if_pos rfl] at h1; exact h1
  | false => rw [if_neg Bool.false_ne_true] at h1; exact h1)⟩
theorem pts_weak {X : Cx} {e : List Expr} {t t' : TT} (h : PTs X e t) (k : ∀ σ H Q, t' σ H Q → t σ H Q) : PTs X e t' := ⟨fun pins s σ H Q I q => h.run pins s σ H Q I (k σ H Q q)⟩
/-! ### comprehensions -/
/-- one turn's invariant -/
def CInv (K : Kx) (w1 : Wd) (H1 : Hp) (L : Addr) (ds : List D) (F : List D → List D → Sto → Prop) (i m : Nat) (H2 : Hp) : Prop := i ≤ ds.length ∧ m = ds.length - i ∧ ∃ w2 st2 vs acc, Ext w1 H1 w2 H2 ∧ Good K w2 H2 st2 ∧ H2 L = some (.lst vs) ∧ ¬ w2.fz L ∧ L ∉ w2.th ∧ Dvs K w2 H2 vs acc ∧ F acc (ds.drop i) st2
theorem comp_core {own : List Nat} {tg : Tg} {cs : Ev Bool} {xe : Ev D} (ht : tgIn tg own = true) {K : Kx} {w w1 : Wd} {H H1 : Hp} {σ : St} {env : En} {st1 : Sto} {ds : List D} {Q : VK} {J : It}
    (e1 : Ext w H w1 H1) (g1 : Good K w1 H1 st1) (r : EnvR K w H σ env) (jok : JOk K w1 H1 J ds)
    (h : (compR tg (wipeE env own) cs xe [] ds st1).wp (fun ys st' => Fin K w H Q (.lst ys) st') fun _ _ _ _ => False) :
    ∀ L, H1 L = none → ∃ W : Nat → Nat → Hp → Prop, (∃ m, W 0 m (upd H1 L (.lst []))) ∧ ∀ i m H2, W i m H2 →
      (J.stop i H2 ∧ Q (.ref L) H2) ∨ (J.go i H2 ∧ ∃ Nx : Hp → Prop, (∀ H', Nx H' → ∃ m', m' < m ∧ W (i + 1) m' H') ∧ ∀ x H', J.yld i H2 x H' → tTg K tg x (L2.wipe σ own) H' fun σ2 H3 => L2.wipe σ2 own = L2.wipe σ own ∧ tTv K W0 cs σ2 H3 fun b H4 =>
        if b = true then tEv K W0 xe σ2 H4 fun y H5 => ∃ acc, H5 L = some (.lst acc) ∧ acc.length < sizeLine ∧ Nx (upd H5 L (.lst (acc ++ [y]))) else Nx H4) := by
  intro L hL
  have nf1 : ¬ w1.fz L := fun z => g1.fzIn L z hL
  have nt1 : L ∉ w1.th := fun z => g1.thIn L z hL
  refine ⟨CInv K w1 H1 L ds fun acc rest st => (compR tg (wipeE env own) cs xe acc rest st).wp (fun ys st' => Fin K w H Q (.lst ys) st') fun _ _ _ _ => False, ⟨ds.length, Nat.zero_le _, by omega, w1, st1, [], [], (Ext.refl w1 H1).beside hL, g1.upd nf1 nt1 (g1.no_tb hL), upd_same, nf1, nt1, .nil, by rw [List.drop_zero]; exact h⟩, ?_⟩
  intro i m H2 ⟨hi, hm, w2, st2, vs, acc, e2, g2, hL2, nf, nt, ra, hr⟩
  have jk := jok w2 H2 e2.toLe
  by_cases hend : i = ds.length
  · subst hend
    refine .inl ⟨jk.2 _ (Nat.le_refl _), ?_⟩
    rw [List.drop_length] at hr
    unfold compR at hr
    have ee : Ext w H (w2.frz L) H2 := e1.trans (e2.fix hL)
    refine hr (.ref L) (w2.frz L) H2 ee (g2.fix (by rw [hL2]; intro z; cases z) nt (by intro ps; rw [hL2]; intro z; cases z)) (.lst (.inr rfl) hL2 (ra.le ⟨fun _ _ e => e, fun _ e => .inl e, fun _ _ _ e => e⟩))
  · have hlt : i < ds.length := by omega
    have hd : ds[i]? = some ds[i] := List.getElem?_eq_getElem hlt
    obtain ⟨hgo, hy⟩ := jk.1 i _ hd
    refine .inr ⟨hgo, fun H' => CInv K w1 H1 L ds (fun acc rest st => (compR tg (wipeE env own) cs xe acc rest st).wp (fun ys st' => Fin K w H Q (.lst ys) st') fun _ _ _ _ => False) (i + 1) (ds.length - (i + 1)) H', fun H' n => ⟨_, by omega, n⟩, fun x H3 hyl => ?_⟩
    obtain ⟨wy, ey, g2, dx⟩ := hy x H3 hyl st2 g2
    have nf : ¬ wy.fz L := fun z => by
      rcases ey.newF L z with z | z | z | ⟨q, z⟩
      · exact nf z
      · exact nt z
      · rw [hL2] at z; cases z
      · rw [hL2] at z
        exact HO.noConfusion (Option.some.inj (show some (HO.lst vs) = some (HO.ext _) from z))
    have nt0 := nt
    have nt : L ∉ wy.th := fun z => by
      rcases ey.newT L z with z | z
      · exact nt z
      · rw [hL2] at z; cases z
    have hL2 : H3 L = some (.lst vs) := ey.keep L _ hL2 nt0 (by intro ps z; cases z)
    have ra := ra.le ey.toLe
    have e2 := e2.trans ey
    rw [List.drop_eq_getElem_cons hlt] at hr
    unfold compR at hr
    obtain ⟨env', hb, hr⟩ := may_wp hr
    rw [R.wp_bind] at hr
    have r2 : EnvR K wy H3 (L2.wipe σ own) (wipeE env own) := (r.le (e1.trans e2).toLe).wipe own
    refine ⟨wy, st2, _, _, env', g2, r2, dx, hb, fun σ2 r3 hw => ⟨(hw own ht).trans (wipe_wipe σ own), ?_⟩⟩
    refine ⟨wy, env', st2, g2, r3, R.wp_mono hr (fun b st3 h3 w3 H4 e3 g3 => ?_) fun _ _ _ _ z => z.elim⟩
    have nf3 : ¬ w3.fz L := fun z => by
      rcases e3.newF L z with z | z | z | ⟨q, z⟩
      · exact nf z
      · exact nt z
      · rw [hL2] at z; cases z
      · rw [hL2] at z
        exact HO.noConfusion (Option.some.inj (show some (HO.lst vs) = some (HO.ext _) from z))
    have nt3 : L ∉ w3.th := fun z => by
      rcases e3.newT L z with z | z
      · exact nt z
      · rw [hL2] at z; cases z
    have hL3 : H4 L = some (.lst vs) := e3.keep L _ hL2 nt (by intro ps z; cases z)
    cases b with
    | false =>
      rw [if_neg Bool.false_ne_true] at h3
      refine iteF ?_
      exact ⟨by omega, rfl, w3, st3, vs, acc, e2.trans e3, g3, hL3, nf3, nt3, ra.le e3.toLe, h3⟩
    | true =>
      rw [if_pos rfl] at h3
      rw [R.wp_bind] at h3
      refine iteT ?_
      refine tEv_mono _ g3 (r3.le e3.toLe) (R.wp_mono h3 (fun _ _ h => h) fun _ _ _ _ z => z.elim) fun y st4 v w4 H5 h4 e4 g4 dy => ?_
      obtain ⟨hlen, h4⟩ := must_wp h4
      have nf4 : ¬ w4.fz L := fun z => by
        rcases e4.newF L z with z | z | z | ⟨q, z⟩
        · exact nf3 z
        · exact nt3 z
        · rw [hL3] at z; cases z
        · rw [hL3] at z
          exact HO.noConfusion (Option.some.inj (show some (HO.lst vs) = some (HO.ext _) from z))
      have nt4 : L ∉ w4.th := fun z => by
        rcases e4.newT L z with z | z
        · exact nt3 z
        · rw [hL3] at z; cases z
      have ra4 : Dvs K w4 H5 vs acc := (ra.le e3.toLe).le e4.toLe
      refine ⟨vs, e4.keep L _ hL3 nt3 (by intro ps z; cases z), by rw [ra4.length]; exact hlen, by omega, rfl, w4, st4, vs ++ [v], acc ++ [y], ((e2.trans e3).trans e4).beside hL, g4.upd nf4 nt4 (by intro ps; rw [e4.keep L _ hL3 nt3 (by intro ps z; cases z)]; intro z; cases z), upd_same, nf4, nt4, ?_, h4⟩
      exact (ra4.append (.cons dy .nil)).le (Le.upd nf4)
theorem calm_wp {α : Type} {r : R α} {Q : α → Sto → Prop} {E : XW} (h : r.calm.wp Q E) : r.wp Q fun _ _ _ _ => False := R.wp_calm h
theorem w0_le {c : Value} {d : Option Addr} {σ : St} {H : Hp} {W : WX} (h : W0 c d σ H) : W c d σ H := h.elim
section
variable {p2 : Pos} {elt : Expr} {ifs : List Expr} {scope : Scope} {own : List (Str × Nat)} {tgx : Tg} {n : Expr}
theorem pev_comp {k : Nat} (cz : Cz X k) (own : List (Str × Nat)) (hi : PEv X it xi) (ok : blkC X.N X.env.scope scope own = true)
    (hg : ∀ (s : Shared) (H : Hp) (C : Addr) (cl : List (Str × Addr)) (fp : List Addr), PG (X.blk s H scope (compEnvC scope cl C X.env) fp) tg (tTg (kx X) tgx))
    (ht : ∀ (s : Shared) (H : Hp) (C : Addr) (cl : List (Str × Addr)) (fp : List Addr), PTsv (X.blk s H scope (compEnvC scope cl C X.env) fp) ifs cs)
    (he : ∀ (s : Shared) (H : Hp) (C : Addr) (cl : List (Str × Addr)) (fp : List Addr), PEv (X.blk s H scope (compEnvC scope cl C X.env) fp) e xe)
    (hin : tgIn tgx (own.map (·.2)) = true := by rfl) (hs : ∀ x, foldedSetIterable it X.env x = pure x := by intro _; rfl) :
    PEv X (.ListComp e [⟨tg, it, ifs, 0⟩] scope pos) (xComp (own.map (·.2)) tgx xi cs xe) :=
  pe_weak (pe_lc cz.calm cz.nd (piv hi) (blkOk_by ok) hg (fun s H C cl fp => pts_weak (ht s H C cl fp) (tTv_imp fun _ _ _ _ => w0_le)) (fun s H C cl fp => pe_weak (he s H C cl fp) (tEv_imp fun _ _ _ _ => w0_le)) hs) fun σ H Q ⟨w, env, st, g, r, h⟩ => by
    unfold xComp at h
    rw [R.wp_bind] at h
    refine ⟨w, env, st, g, r, R.wp_mono h (fun d s1 h1 => ?_) fun _ _ _ _ h => h⟩
    obtain ⟨ds, q, h1⟩ := may_wp h1
    rw [R.wp_bind] at h1
    exact ⟨ds, q, fun J w1 H1 e1 g1 jok => comp_core hin e1 g1 r jok (calm_wp h1)⟩
theorem pev_rcomp {k : Nat} (cz : Cz X k) (own : List (Str × Nat)) (hm : X.mg "range" = none) (hi : PEv X n xi) (ok : blkC X.N X.env.scope scope own = true)
    (hg : ∀ (s : Shared) (H : Hp) (C : Addr) (cl : List (Str × Addr)) (fp : List Addr), PG (X.blk s H scope (compEnvC scope cl C X.env) fp) tg (tTg (kx X) tgx))
    (ht : ∀ (s : Shared) (H : Hp) (C : Addr) (cl : List (Str × Addr)) (fp : List Addr), PTsv (X.blk s H scope (compEnvC scope cl C X.env) fp) ifs cs)
    (he : ∀ (s : Shared) (H : Hp) (C : Addr) (cl : List (Str × Addr)) (fp : List Addr), PEv (X.blk s H scope (compEnvC scope cl C X.env) fp) e xe)
    (hgr : Gl X "range" := by rfl) (hst : isStar n = false := by rfl) (hin : tgIn tgx (own.map (·.2)) = true := by rfl) :
    PEv X (.ListComp e [⟨tg, .Call (.Name "range" p) [n] [] p2, ifs, 0⟩] scope pos) (xRcomp (own.map (·.2)) tgx xi cs xe) :=
  pe_weak (pe_lc cz.calm cz.nd (pirv hm hi hgr hst) (blkOk_by ok) hg (fun s H C cl fp => pts_weak (ht s H C cl fp) (tTv_imp fun _ _ _ _ => w0_le)) (fun s H C cl fp => pe_weak (he s H C cl fp) (tEv_imp fun _ _ _ _ => w0_le))) fun σ H Q ⟨w, env, st, g, r, h⟩ => by
    unfold xRcomp at h
    rw [R.wp_bind] at h
    refine ⟨w, env, st, g, r, R.wp_mono h (fun d s1 h1 => ?_) fun _ _ _ _ h => h⟩
    obtain ⟨j, q, h1⟩ := may_wp h1
    obtain ⟨hb, h1⟩ := must_wp h1
    rw [R.wp_bind] at h1
    exact ⟨j, q, hb, fun J w1 H1 e1 g1 jok => comp_core hin e1 g1 r jok (calm_wp h1)⟩
theorem pev_zcomp {k : Nat} {a b : Expr} {xa xb : Ev D} {elts : List Expr} {kk : Nat} {tpos : Pos} (cz : Cz X k) (own : List (Str × Nat)) (hm : X.mg "zip" = none) (ha : PEv X a xa) (hb : PEv X b xb) (ok : blkC X.N X.env.scope scope own = true)
    (hg : ∀ (s : Shared) (H : Hp) (C : Addr) (cl : List (Str × Addr)) (fp : List Addr), PG (X.blk s H scope (compEnvC scope cl C X.env) fp) (.Tuple elts kk tpos) (tTg (kx X) tgx))
    (ht : ∀ (s : Shared) (H : Hp) (C : Addr) (cl : List (Str × Addr)) (fp : List Addr), PTsv (X.blk s H scope (compEnvC scope cl C X.env) fp) ifs cs)
    (he : ∀ (s : Shared) (H : Hp) (C : Addr) (cl : List (Str × Addr)) (fp : List Addr), PEv (X.blk s H scope (compEnvC scope cl C X.env) fp) e xe)
    (hgz : Gl X "zip" := by rfl) (hsa : isStar a = false := by rfl) (hsb : isStar b = false := by rfl) (hin : tgIn tgx (own.map (·.2)) = true := by rfl) :
    PEv X (.ListComp e [⟨.Tuple elts kk tpos, .Call (.Name "zip" p) [a, b] [] p2, ifs, 0⟩] scope pos) (xZcomp (own.map (·.2)) tgx xa xb cs xe) :=
  pe_weak (pe_lc cz.calm cz.nd (pizv hm ha hb hgz hsa hsb) (blkOk_by ok) hg (fun s H C cl fp => pts_weak (ht s H C cl fp) (tTv_imp fun _ _ _ _ => w0_le)) (fun s H C cl fp => pe_weak (he s H C cl fp) (tEv_imp fun _ _ _ _ => w0_le))) fun σ H Q ⟨w, env, st, g, r, h⟩ => by
    unfold xZcomp at h
    rw [R.wp_bind] at h
    refine ⟨w, env, st, g, r, R.wp_mono h (fun d s1 h1 => ?_) fun _ _ _ _ h => h⟩
    rw [R.wp_bind] at h1
    refine R.wp_mono h1 (fun d2 s2 h2 => ?_) fun _ _ _ _ h => h
    obtain ⟨ds, q, h2⟩ := may_wp h2
    rw [R.wp_bind] at h2
    exact ⟨ds, q, fun J w1 H1 e1 g1 jok => comp_core hin e1 g1 r jok (calm_wp h2)⟩
end
end
end Qv
end
section
set_option Elab.async false
set_option autoImplicit false
set_option linter.all false
set_option maxRecDepth 100000
set_option maxHeartbeats 2000000
/-! Qv: dict comprehensions. -/
namespace Qv
open PySem L2 PySem.Spec PyProof.Rows
/-- behind dA[y] = z -/
def PutsTo (K : Kx) (y z : V) (dA : Addr) (H : Hp) (N : Hp → Prop) : Prop := ∃ (w : Wd) (nk : List NestedKey) (xs ys : List V) (ks vs : List D) (d v : D) (p : List D × List D), H dA = some (dcq K.w dA nk xs ys) ∧ toKs ks = some nk ∧ nk.Nodup ∧ Dvs K w H xs ks ∧ Dvs K w H ys vs ∧ Dv K w H y d ∧ Dv K w H z v ∧ putQ ks vs d v = some p ∧
  ∀ (nk' : List NestedKey) (xs' ys' : List V), toKs p.1 = some nk' → nk'.Nodup → uniD p.1 = true → Dvs K w H xs' p.1 → Dvs K w H ys' p.2 → N (upd H dA (dcq K.w dA nk' xs' ys'))
/-- what a dict comprehension reads -/
def tDq (K : Kx) (wi : TI) (g : TG) (tt : TT) (tk tv : TE) (own : List Nat) : TE := fun σ H Q => wi σ H fun J H1 => ∀ dA, H1 dA = none → ∃ Z : Nat → Nat → Hp → Prop, (∃ m, Z 0 m (upd H1 dA (dcq K.w dA [] [] []))) ∧ ∀ i m H2, Z i m H2 →
  (J.stop i H2 ∧ Q (.ref dA) H2) ∨ (J.go i H2 ∧ ∃ Nx : Hp → Prop, (∀ G, Nx G → ∃ m', m' < m ∧ Z (i + 1) m' G) ∧ ∀ x G, J.yld i H2 x G → g x (L2.wipe σ own) G fun σ2 H3 => L2.wipe σ2 own = L2.wipe σ own ∧ tt σ2 H3 fun b H4 =>
    if b = true then tk σ2 H4 fun y H5 => tv σ2 H5 fun z H6 => PutsTo K y z dA H6 Nx else Nx H4)
section
variable {X : Cx}
theorem dq_core {pins : List (Addr × Obj)} {s : Shared} {σ : L2.St} {H : Hp} {Q : VK} {ke ve tg it : Expr} {ifs : List Expr} {scope : Scope} {own : List (Str × Nat)} {pos pos' : Pos} {wi : TI} {g : TG} {tt : TT} {tk tv : TE} {use : Option (Value → Sem Unit)} {Qf : Value → Shared → Prop}
    (hc : X.calm = true) (hN : X.N.Nodup) (hu : X.A.units + 9 < cLine) (I : L2.Inv X pins σ H s) (hi : PI X tg it wi) (ok : BlkOk X.N X.env.scope scope own) (hs : ∀ x, foldedSetIterable it X.env x = pure x)
    (parts : ∀ (s : Shared) (H : Hp) (C : Addr) (cl : List (Str × Addr)) (fp : List Addr), PG (X.blk s H scope (compEnvC scope cl C X.env) fp) tg g ∧ PTs (X.blk s H scope (compEnvC scope cl C X.env) fp) ifs tt ∧ PE (X.blk s H scope (compEnvC scope cl C X.env) fp) ke tk ∧ PE (X.blk s H scope (compEnvC scope cl C X.env) fp) ve tv)
    (h : tDq (kx X) wi g tt tk tv (own.map (·.2)) σ H Q)
    (stop : ∀ dA C s' m H', L2.Inv X pins σ H' s' → Q (.ref dA) H' → s'.heap.Ns C m → FpOk X pins H' C → compPost (model X.prog X.w) X.A X.xe use Qf (.ref dA) C (.ok .next) s') :
    wpAny (model X.prog X.w) X.A (comprehension (.DictComp ke ve [⟨tg, it, ifs, 0⟩] scope pos) scope X.env pos' newDict false (eval it X.env) use) Qf X.xe s := by
  have captured : ∀ y ∈ scope.names, y.2 = .free → ∃ c, X.env.cells.lookup y.1 = some c := fun y hy e => (ok.free y hy e).elim (fun k => I.ok.has _ (.inl k)) fun k => I.ok.has _ (.inr k)
  refine wpAny_comprehension_free (use := use) rfl hs (closure_ok captured) ok.kind (fun y hy e => by rw [ok.uniq y hy, e]) (thn (hi.run pins s σ H _ I h) fun xv s1 hx => thn hx fun itv s2 hz => ?_)
  obtain ⟨ita, fp, tn, J, Hi, e, Ji, T, stI, fpI, next⟩ := hz
  subst e
  refine wpAny_newObj_type (newEnv_comp ?_)
  obtain ⟨dA, hdA⟩ : ∃ b, s2.heap.objs.size = b := ⟨_, rfl⟩
  rw [hdA]
  obtain ⟨Z, ⟨m0, z0⟩, turn⟩ := next dA (Ji.hok.fresh (Nat.le_of_eq hdA))
  obtain ⟨s3, hs3⟩ : ∃ s3 : Shared, ({ s2 with heap := s2.heap.push { cls := .type "dict", data := .dict #[] } } : Shared) = s3 := ⟨_, rfl⟩
  have hp3 : s3.heap = s2.heap.push { cls := .type "dict", data := .dict #[] } := by rw [← hs3]
  have grown : ∀ b o, s2.heap.get? b = some o → s3.heap.get? b = some o := fun b o e => by rw [hp3]; exact Heap.get?_push_of_some _ e
  obtain ⟨H3, hH3⟩ : ∃ H3 : Hp, upd Hi dA (dcq X.w dA [] [] []) = H3 := ⟨_, rfl⟩
  have J3 : L2.Inv X pins σ H3 s3 := by
    rw [← hs3, ← hH3]
    refine Ji.laid (t' := s2.toks) (fun b o e => Heap.get?_push_of_some _ e) (Nat.le_of_eq hdA) ?_
    rw [← hdA]
    exact dcq_new s2.heap Ji.big
  rw [hH3] at z0
  have fp3 : ∀ b ∈ fp, FpOk X pins H3 b ∧ b < s3.heap.objs.size := fun b hb => by
    obtain ⟨o, eo, _⟩ := T.obj _ _ stI b hb
    have hlt := Heap.lt_size eo
    refine ⟨⟨?_, (fpI b hb).2⟩, by rw [hp3, Heap.size_push]; exact Nat.le_succ_of_le hlt⟩
    rw [← hH3, upd_ne (hdA ▸ Nat.ne_of_lt hlt)]
    exact (fpI b hb).1
  have no3 : ∀ b ∈ fp, H3 b = none := fun b hb => (fp3 b hb).1.1
  rw [hs3]
  obtain ⟨cl, hcl⟩ : ∃ cl, cellsFrom (s3.heap.objs.size + 1) scope.names (cloFrom X.env.cells scope.names []) = cl := ⟨_, rfl⟩
  obtain ⟨pg, pt, pk, pv⟩ := parts s3 H3 s3.heap.objs.size cl fp
  have J4 := block_start J3 ok hN fp3
  rw [hcl] at J4
  show codeAny _ _ (.compStart (.DictComp ke ve [⟨tg, it, ifs, 0⟩] scope pos) 0 (.ref ita) (.ref dA) (compEnvC scope (cellsFrom (s3.heap.objs.size + 1) scope.names (cloFrom X.env.cells scope.names [])) s3.heap.objs.size X.env)) (compPost (model X.prog X.w) X.A X.xe use Qf (.ref dA) s3.heap.objs.size) { s3 with heap := pushCells (s3.heap.push { cls := .type "dict", data := .dict #[] }) scope.names }
  rw [hcl]
  obtain ⟨ce, hce⟩ : ∃ ce, compEnvC scope cl s3.heap.objs.size X.env = ce := ⟨_, rfl⟩
  have locals : ce.locals = s3.heap.objs.size := by rw [← hce]; rfl
  obtain ⟨s4, hs4⟩ : ∃ s4 : Shared, ({ s3 with heap := pushCells (s3.heap.push { cls := .type "dict", data := .dict #[] }) scope.names } : Shared) = s4 := ⟨_, rfl⟩
  rw [hce] at J4 pg pt pk pv ⊢
  rw [hs4] at J4 ⊢
  have st4 : tn 0 s4.heap := T.keep _ _ _ stI fun b _ o e => by rw [← hs4]; exact pushCells_keeps _ _ _ _ (Heap.get?_push_of_some _ (grown b o e))
  have fpB : ∀ {σ' : L2.St} {G : Hp} {s' : Shared}, L2.Inv (X.blk s3 H3 scope ce fp) [] σ' G s' → (∀ b ∈ fp, G b = none) → ∀ b ∈ fp, FpOk (X.blk s3 H3 scope ce fp) [] G b := fun {σ' G s'} J' hn b hb =>
    ⟨hn b hb, (J'.ok.exf b hb).1, J'.ok.exfs b hb, .inl hb, (J'.ok.exf b hb).2, fun p hp => nomatch (show p ∈ ([] : List (Addr × Obj)) from hp)⟩
  have loop : codeAny (model X.prog X.w) X.A (.compLoop (.DictComp ke ve [⟨tg, it, ifs, 0⟩] scope pos) 0 (.ref ita) (.ref dA) ce) (compPost (model X.prog X.w) X.A X.xe use Qf (.ref dA) s3.heap.objs.size) s4 := by
    refine compLoop_anyD (fun n t => ∃ i G, L2.Inv (X.blk s3 H3 scope ce fp) [] (L2.wipe σ (own.map (·.2))) G t ∧ tn i t.heap ∧ (∀ b ∈ fp, G b = none) ∧ Z i n G) (fun n s5 hI => ?_) m0 ⟨0, H3, J4, st4, no3, z0⟩
    obtain ⟨i, H5, J5, st5, no5, z5⟩ := hI
    rcases turn i n H5 z5 with ⟨ends, q⟩ | ⟨goes, Nx, down, step⟩
    · refine thnF (T.done (X.blk s3 H3 scope ce fp) rfl rfl rfl hc i [] s5 _ H5 (fun _ _ => False) J5 (fpB J5 no5) st5 ends) fun r s6 hr => ?_
      obtain ⟨rfl, J6⟩ := hr
      have back : L2.Inv X pins σ H5 s6 := J3.call' (ch := fp) J6.os J6.base J6.hok J6.bare fun b hb => let f := (fp3 b hb).1; ⟨f.2.2.2.1, f.2.1, f.2.2.2.2.1, f.2.2.2.2.2⟩
      have fresh : H5 s3.heap.objs.size = none := locals ▸ (show H5 ce.locals = none from J6.free)
      obtain ⟨m, hn, _⟩ := J6.loc
      exact stop dA s3.heap.objs.size s6 m H5 back q (locals ▸ (show s6.heap.Ns ce.locals m from hn)) (J3.fpOk (Nat.le_refl _) fresh)
    · refine thnF (T.item (X.blk s3 H3 scope ce fp) rfl rfl rfl hc i [] s5 _ H5 (fun _ _ => False) J5 (fpB J5 no5) st5 goes) fun r s6 hr => ?_
      obtain ⟨u, rfl, h6⟩ := hr
      refine thnF h6 fun _ s7 hr => ?_
      obtain ⟨x, H7, J7, r7, y7, st7, no7⟩ := hr
      have P7 := J7.pinned (fpB J7 no7) (T.obj _ _ st7)
      refine thnF (pg.run _ s7 _ H7 x u _ P7 r7 (step x H7 y7)) fun _ s8 hr => ?_
      obtain ⟨σ8, H8, J8, hw8, q8⟩ := hr
      refine thnF (pt.run _ s8 σ8 H8 _ J8 q8) fun b s9 hr => ?_
      obtain ⟨H9, J9, q9⟩ := hr
      have again : ∀ {t : Shared} {G : Hp}, L2.Inv (X.blk s3 H3 scope ce fp) ([] ++ pinsAt fp s7.heap) σ8 G t → Nx G → ∃ m, m < n ∧ ∃ i G, L2.Inv (X.blk s3 H3 scope ce fp) [] (L2.wipe σ (own.map (·.2))) G t ∧ tn i t.heap ∧ (∀ b ∈ fp, G b = none) ∧ Z i m G := fun {t G} J' nx => by
        obtain ⟨m', lt, z'⟩ := down G nx
        have there : ∀ b ∈ fp, ∀ o, s7.heap.get? b = some o → t.heap.get? b = some o ∧ G b = none := fun b hb o e => by
          have z := J'.pin (b, o) (List.mem_append_right _ (List.mem_append_right _ (mem_pinsAt hb e)))
          exact ⟨z.1, z.2.1⟩
        refine ⟨m', lt, i + 1, G, (J'.unpinned (pins := [])).weak (by rw [← hw8, wipe_length]) (fun j v e => ?_), T.keep _ _ _ st7 fun b hb o e => (there b hb o e).1, fun b hb => ?_, z'⟩
        · rw [← hw8] at e
          exact (wipe_some e).1
        · obtain ⟨o, e, _⟩ := T.obj _ _ st7 b hb
          exact (there b hb o e).2
      cases b with
      | false => exact again J9 (by rw [if_neg Bool.false_ne_true] at q9; exact q9)
      | true =>
        rw [if_pos rfl] at q9
        refine thnF (pk.run _ s9 σ8 H9 _ J9 q9) fun ku s10 hr => ?_
        obtain ⟨yk, H10, J10, r10, q10⟩ := hr
        refine thnF (pv.run _ s10 σ8 H10 _ J10 q10) fun vu s11 hr => ?_
        obtain ⟨yv, H11, J11, r11, w, nk, xs, ys, ks, vs, d, v, p, hD, h1, h2, h3, h4, h5, h6, h7, nx⟩ := hr
        exact dictSet_q (X := X.blk s3 H3 scope ce fp) J11 hD h1 h2 h3 h4 h5 h6 h7 r10 r11 hu fun t nk' xs' ys' J12 a1 a2 a3 a4 a5 => again J12 (nx nk' xs' ys' a1 a2 a3 a4 a5)
  exact codeAny_compStart_dict loop (T.self X.A 0 _ _ _ st4 loop)
theorem pe_dq {ke ve tg it : Expr} {ifs : List Expr} {scope : Scope} {own : List (Str × Nat)} {pos : Pos} {wi : TI} {g : TG} {tt : TT} {tk tv : TE} (hc : X.calm = true) (hN : X.N.Nodup) (hu : X.A.units + 9 < cLine) (hi : PI X tg it wi) (ok : BlkOk X.N X.env.scope scope own) (hs : ∀ x, foldedSetIterable it X.env x = pure x)
    (parts : ∀ (s : Shared) (H : Hp) (C : Addr) (cl : List (Str × Addr)) (fp : List Addr), PG (X.blk s H scope (compEnvC scope cl C X.env) fp) tg g ∧ PTs (X.blk s H scope (compEnvC scope cl C X.env) fp) ifs tt ∧ PE (X.blk s H scope (compEnvC scope cl C X.env) fp) ke tk ∧ PE (X.blk s H scope (compEnvC scope cl C X.env) fp) ve tv) :
    PE X (.DictComp ke ve [⟨tg, it, ifs, 0⟩] scope pos) (tDq (kx X) wi g tt tk tv (own.map (·.2))) := by
  constructor
  intro pins s σ H Q I h
  rw [arm_eval_DictComp]
  refine dq_core hc hN hu I hi ok hs parts h fun dA C s' m H' J q hn f => ⟨m, hn, fun h2 sb => ⟨.ref dA, H', ?_, rfl, q⟩⟩
  exact J.turned (t' := s'.toks) (fun b o hb e => (sb.2 b hb).trans e) f.1 f.2.1 f.2.2.2.1 f.2.2.2.2.1 f.2.2.2.2.2
end
/-! ### the values -/
def compK (tg : Tg) (env : En) (tests : Ev Bool) (ke ve : Ev D) : List D → List D → List D → Sto → R (List D × List D)
  | ks, vs, [], st => .ok (ks, vs) st
  | ks, vs, d :: ds, st => may (bindT tg d env) fun env' => (tests env' st).bind fun c st =>
      if c then (ke env' st).bind fun k st => (ve env' st).bind fun v st => may (putQ ks vs k v) fun p => compK tg env tests ke ve p.1 p.2 ds st else compK tg env tests ke ve ks vs ds st
/-- a dict comprehension -/
def xDcomp (own : List Nat) (tg : Tg) (it : Ev D) (cs : Ev Bool) (ke ve : Ev D) : Ev D := fun env st => (it env st).bind fun x st => may (itemsOf st x) fun ds =>
  ((compK tg (wipeE env own) cs ke ve [] [] ds st).calm).bind fun p st => .ok (.dct p.1 p.2) st
/-- no new thing is frozen, none is the store's -/
theorem stays_off {K : Kx} {w w' : Wd} {H H' : Hp} {dA : Addr} {nk : List NestedKey} {xs ys : List V} (e : Ext w H w' H') (hD : H dA = some (dcq K.w dA nk xs ys)) (nf : ¬ w.fz dA) (nt : dA ∉ w.th) : ¬ w'.fz dA ∧ dA ∉ w'.th ∧ H' dA = some (dcq K.w dA nk xs ys) := by
  refine ⟨fun z => ?_, fun z => ?_, e.keep dA _ hD nt fun ps z => by unfold dcq at z; cases z⟩
  · rcases e.newF dA z with z | z | z | ⟨q, z⟩
    · exact nf z
    · exact nt z
    · rw [hD] at z; cases z
    · rw [hD] at z
      exact dcq_codeO (c := dA) (Option.some.inj z)
  · rcases e.newT dA z with z | z
    · exact nt z
    · rw [hD] at z; cases z
def DInv (K : Kx) (w1 : Wd) (H1 : Hp) (dA : Addr) (ds : List D) (F : List D → List D → List D → Sto → Prop) (i m : Nat) (H2 : Hp) : Prop := i ≤ ds.length ∧ m = ds.length - i ∧ ∃ (w2 : Wd) (st2 : Sto) (nk : List NestedKey) (xs ys : List V) (ks vs : List D), Ext w1 H1 w2 H2 ∧ Good K w2 H2 st2 ∧
  H2 dA = some (dcq K.w dA nk xs ys) ∧ toKs ks = some nk ∧ nk.Nodup ∧ uniD ks = true ∧ ¬ w2.fz dA ∧ dA ∉ w2.th ∧ Dvs K w2 H2 xs ks ∧ Dvs K w2 H2 ys vs ∧ F ks vs (ds.drop i) st2
theorem dcomp_core {own : List Nat} {tg : Tg} {cs : Ev Bool} {xk xv : Ev D} (ht : tgIn tg own = true) {K : Kx} {w w1 : Wd} {H H1 : Hp} {σ : L2.St} {env : En} {st1 : Sto} {ds : List D} {Q : VK} {J : It}
    (e1 : Ext w H w1 H1) (g1 : Good K w1 H1 st1) (r : EnvR K w H σ env) (jok : JOk K w1 H1 J ds)
    (h : (compK tg (wipeE env own) cs xk xv [] [] ds st1).wp (fun p st' => Fin K w H Q (.dct p.1 p.2) st') fun _ _ _ _ => False) :
    ∀ dA, H1 dA = none → ∃ Z : Nat → Nat → Hp → Prop, (∃ m, Z 0 m (upd H1 dA (dcq K.w dA [] [] []))) ∧ ∀ i m H2, Z i m H2 →
      (J.stop i H2 ∧ Q (.ref dA) H2) ∨ (J.go i H2 ∧ ∃ Nx : Hp → Prop, (∀ G, Nx G → ∃ m', m' < m ∧ Z (i + 1) m' G) ∧ ∀ x G, J.yld i H2 x G → tTg K tg x (L2.wipe σ own) G fun σ2 H3 => L2.wipe σ2 own = L2.wipe σ own ∧ tTv K W0 cs σ2 H3 fun b H4 =>
        if b = true then tEv K W0 xk σ2 H4 fun y H5 => tEv K W0 xv σ2 H5 fun z H6 => PutsTo K y z dA H6 Nx else Nx H4) := by
  intro dA hA
  have nf1 : ¬ w1.fz dA := fun z => g1.fzIn dA z hA
  have nt1 : dA ∉ w1.th := fun z => g1.thIn dA z hA
  obtain ⟨F, hF⟩ : ∃ F : List D → List D → List D → Sto → Prop, F = fun ks vs rest st => (compK tg (wipeE env own) cs xk xv ks vs rest st).wp (fun p st' => Fin K w H Q (.dct p.1 p.2) st') fun _ _ _ _ => False := ⟨_, rfl⟩
  refine ⟨DInv K w1 H1 dA ds F, ⟨ds.length, Nat.zero_le _, by omega, w1, st1, [], [], [], [], [], (Ext.refl w1 H1).beside hA, g1.upd nf1 nt1 (g1.no_tb hA) (fun ps z => by unfold dcq at z; cases z), upd_same, rfl, List.nodup_nil, rfl, nf1, nt1, .nil, .nil, by rw [List.drop_zero, hF]; exact h⟩, ?_⟩
  intro i m H2 ⟨hi, hm, w2, st2, nk, xs, ys, ks, vs, e2, g2, hD, hk, hn, hu, nf, nt, rk, rv, hr⟩
  rw [hF] at hr
  have jk := jok w2 H2 e2.toLe
  by_cases hend : i = ds.length
  · subst hend
    refine .inl ⟨jk.2 _ (Nat.le_refl _), ?_⟩
    rw [List.drop_length] at hr
    unfold compK at hr
    have ee : Ext w H (w2.frz dA) H2 := e1.trans (e2.fix hA)
    have lift : Le w2 H2 (w2.frz dA) H2 := ⟨fun _ _ e => e, fun _ e => .inl e, fun _ _ _ e => e⟩
    exact hr (.ref dA) (w2.frz dA) H2 ee (g2.fix (by rw [hD]; intro z; cases z) nt (by intro ps; rw [hD]; intro z; unfold dcq at z; cases z)) (.dct (.inr rfl) hD hk hn hu (rk.le lift) (rv.le lift))
  · have hlt : i < ds.length := by omega
    obtain ⟨hgo, hy⟩ := jk.1 i _ (List.getElem?_eq_getElem hlt)
    refine .inr ⟨hgo, fun G => DInv K w1 H1 dA ds F (i + 1) (ds.length - (i + 1)) G, fun G n => ⟨_, by omega, n⟩, fun x H3 hyl => ?_⟩
    obtain ⟨wy, ey, g2, dx⟩ := hy x H3 hyl st2 g2
    obtain ⟨nf, nt, hD⟩ := stays_off ey hD nf nt
    have rk := rk.le ey.toLe
    have rv := rv.le ey.toLe
    have e2 := e2.trans ey
    rw [List.drop_eq_getElem_cons hlt] at hr
    unfold compK at hr
    obtain ⟨env', hb, hr⟩ := may_wp hr
    rw [R.wp_bind] at hr
    have r2 : EnvR K wy H3 (L2.wipe σ own) (wipeE env own) := (r.le (e1.trans e2).toLe).wipe own
    refine ⟨wy, st2, _, _, env', g2, r2, dx, hb, fun σ2 r3 hw => ⟨(hw own ht).trans (wipe_wipe σ own), ?_⟩⟩
    refine ⟨wy, env', st2, g2, r3, R.wp_mono hr (fun b st3 h3 w3 H4 e3 g3 => ?_) fun _ _ _ _ z => z.elim⟩
    obtain ⟨nf3, nt3, hD3⟩ := stays_off e3 hD nf nt
    cases b with
    | false =>
      rw [if_neg Bool.false_ne_true] at h3
      refine iteF ?_
      exact ⟨by omega, rfl, w3, st3, nk, xs, ys, ks, vs, e2.trans e3, g3, hD3, hk, hn, hu, nf3, nt3, rk.le e3.toLe, rv.le e3.toLe, by rw [hF]; exact h3⟩
    | true =>
      rw [if_pos rfl] at h3
      rw [R.wp_bind] at h3
      refine iteT ?_
      refine tEv_mono _ g3 (r3.le e3.toLe) (R.wp_mono h3 (fun _ _ h => h) fun _ _ _ _ z => z.elim) fun dk st4 y w4 H5 h4 e4 g4 dy => ?_
      rw [R.wp_bind] at h4
      obtain ⟨nf4, nt4, hD4⟩ := stays_off e4 hD3 nf3 nt3
      refine tEv_mono _ g4 ((r3.le e3.toLe).le e4.toLe) (R.wp_mono h4 (fun _ _ h => h) fun _ _ _ _ z => z.elim) fun dz st5 z w5 H6 h5 e5 g5 dv => ?_
      obtain ⟨nf5, nt5, hD5⟩ := stays_off e5 hD4 nf4 nt4
      obtain ⟨p, hp, h5⟩ := may_wp h5
      have e345 := (e3.trans e4).trans e5
      refine ⟨w5, nk, xs, ys, ks, vs, dk, dz, p, hD5, hk, hn, rk.le e345.toLe, rv.le e345.toLe, dy.le e5.toLe, dv, hp, fun nk' xs' ys' a1 a2 a3 a4 a5 => ?_⟩
      have nd : ∀ ps, dcq K.w dA nk' xs' ys' ≠ HO.tbl ps := fun ps z => by unfold dcq at z; cases z
      exact ⟨by omega, rfl, w5, st5, nk', xs', ys', p.1, p.2, (e2.trans e345).beside hA, g5.upd nf5 nt5 (fun ps => by rw [hD5]; intro z; unfold dcq at z; cases z) nd, upd_same, a1, a2, a3, nf5, nt5, a4.le (Le.upd nf5), a5.le (Le.upd nf5), by rw [hF]; exact h5⟩
section
variable {X : Cx} {pos p p2 : Pos} {it tg ke ve n : Expr} {xi xk xv : Ev D} {cs : Ev Bool} {ifs : List Expr} {scope : Scope} {tgx : Tg}
theorem pev_dcomp {k : Nat} (cz : Cz X k) (own : List (Str × Nat)) (hi : PEv X it xi) (ok : blkC X.N X.env.scope scope own = true)
    (hg : ∀ (s : Shared) (H : Hp) (C : Addr) (cl : List (Str × Addr)) (fp : List Addr), PG (X.blk s H scope (compEnvC scope cl C X.env) fp) tg (tTg (kx X) tgx))
    (ht : ∀ (s : Shared) (H : Hp) (C : Addr) (cl : List (Str × Addr)) (fp : List Addr), PTsv (X.blk s H scope (compEnvC scope cl C X.env) fp) ifs cs)
    (hk : ∀ (s : Shared) (H : Hp) (C : Addr) (cl : List (Str × Addr)) (fp : List Addr), PEv (X.blk s H scope (compEnvC scope cl C X.env) fp) ke xk)
    (hv : ∀ (s : Shared) (H : Hp) (C : Addr) (cl : List (Str × Addr)) (fp : List Addr), PEv (X.blk s H scope (compEnvC scope cl C X.env) fp) ve xv)
    (hin : tgIn tgx (own.map (·.2)) = true := by rfl) (hs : ∀ x, foldedSetIterable it X.env x = pure x := by intro _; rfl) :
    PEv X (.DictComp ke ve [⟨tg, it, ifs, 0⟩] scope pos) (xDcomp (own.map (·.2)) tgx xi cs xk xv) :=
  pe_weak (pe_dq cz.calm cz.nd (by have := cz.u; omega) (piv hi) (blkOk_by ok) hs fun s H C cl fp => ⟨hg s H C cl fp, pts_weak (ht s H C cl fp) (tTv_imp fun _ _ _ _ => w0_le), pe_weak (hk s H C cl fp) (tEv_imp fun _ _ _ _ => w0_le), pe_weak (hv s H C cl fp) (tEv_imp fun _ _ _ _ => w0_le)⟩) fun σ H Q ⟨w, env, st, g, r, h⟩ => by
    unfold xDcomp at h
    rw [R.wp_bind] at h
    refine ⟨w, env, st, g, r, R.wp_mono h (fun d s1 h1 => ?_) fun _ _ _ _ h => h⟩
    obtain ⟨ds, q, h1⟩ := may_wp h1
    rw [R.wp_bind] at h1
    exact ⟨ds, q, fun J w1 H1 e1 g1 jok => dcomp_core hin e1 g1 r jok (calm_wp h1)⟩
end
end Qv
end
section
set_option Elab.async false
set_option autoImplicit false
set_option linter.all false
set_option maxRecDepth 100000
set_option maxHeartbeats 2000000
/-! Qv: statements. -/
namespace Qv
open PySem L2 PySem.Spec PyProof.Rows
/-- what is wanted behind a statement -/
def Out (K : Kx) (w : Wd) (H : Hp) (E : Ends) : Fl → Sto → Prop
  | .next env', st' => ∀ σ' w' H', Ext w H w' H' → Good K w' H' st' → EnvR K w' H' σ' env' → E.nx σ' H'
  | .brk env', st' => ∀ σ' w' H', Ext w H w' H' → Good K w' H' st' → EnvR K w' H' σ' env' → E.bk σ' H'
  | .cont env', st' => ∀ σ' w' H', Ext w H w' H' → Good K w' H' st' → EnvR K w' H' σ' env' → E.ct σ' H'
  | .ret d, st' => ∀ v w' H', Ext w H w' H' → Good K w' H' st' → Dv K w' H' v d → E.rt v H'
theorem Out.ext {K : Kx} {w w' : Wd} {H H' : Hp} {E : Ends} {f : Fl} {st : Sto} (e : Ext w H w' H') (h : Out K w H E f st) : Out K w' H' E f st := by
  cases f with
  | next env => exact fun σ' w2 H2 e2 => h σ' w2 H2 (e.trans e2)
  | brk env => exact fun σ' w2 H2 e2 => h σ' w2 H2 (e.trans e2)
  | cont env => exact fun σ' w2 H2 e2 => h σ' w2 H2 (e.trans e2)
  | ret d => exact fun v w2 H2 e2 => h v w2 H2 (e.trans e2)
def Tr : L2.St → Prop := fun _ => True
def tSv (K : Kx) (W : WX) (s : Ex) : TS := fun E σ H => ∃ w env st, Good K w H st ∧ EnvR K w H σ env ∧ (s env st).wp (Out K w H E) (FX K W w H Tr)
section
variable {K : Kx} {W : WX} {w w' : Wd} {H H' : Hp} {E : Ends} {Q : VK} {σ : L2.St} {env : En} {st : Sto}
theorem wp_out {r : R Fl} (e : Ext w H w' H') (h : r.wp (Out K w H E) (FX K W w H Tr)) : r.wp (Out K w' H' E) (FX K W w' H' Tr) := R.wp_mono h (fun _ _ h => Out.ext e h) fun _ _ _ _ h => FX.ext e h
theorem wp_at {α : Type} {r : R α} {P : α → Sto → Prop} (h : r.wp P (FX K W w H Tr)) : r.wp P (FX K W w H (· = σ)) := R.wp_mono h (fun _ _ h => h) fun _ _ _ _ h => h.sub fun _ _ => trivial
/-- an expression of a statement -/
theorem tEv_st {x : Ev D} (P : D → Sto → Prop) (g : Good K w H st) (r : EnvR K w H σ env) (h : (x env st).wp P (FX K W w H Tr))
    (k : ∀ d st' v w' H', P d st' → Ext w H w' H' → Good K w' H' st' → Dv K w' H' v d → Q v H') : tEv K W x σ H Q := tEv_mono P g r (wp_at h) k
theorem tEv_stn {x : Ev D} {w0 : Wd} {H0 : Hp} (P : D → Sto → Prop) (e0 : Ext w0 H0 w H) (g : Good K w H st) (r : EnvR K w0 H0 σ env) (h : (x env st).wp P (FX K W w0 H0 Tr))
    (k : ∀ d st' v w' H', P d st' → Ext w H w' H' → Good K w' H' st' → Dv K w' H' v d → Q v H') : tEv K W x σ H Q := tEv_then P e0 g r (wp_at h) k
end
section
variable {X : Cx} {pos p p' : Pos} {x y : Str} {e a b c o i tg it n : Expr} {xa xb xc xe xo xi : Ev D} {t : Tg} {ss ss' s : Ex} {st : Stmt} {sts sts' : List Stmt}
abbrev PSv (X : Cx) (st : Stmt) (s : Ex) : Prop := PS X st (tSv (kx X) (CW X) s)
abbrev PSsv (X : Cx) (st : List Stmt) (s : Ex) : Prop := PSs X st (tSv (kx X) (CW X) s)
theorem pssv_nil : PSsv X [] sNil := pss_weak pss_nil fun E σ H ⟨w, env, st, g, r, h⟩ => h σ w H (Ext.refl w H) g r
theorem pssv_cons (h1 : PSv X st s) (h2 : PSsv X sts ss) : PSsv X (st :: sts) (sCons s ss) := pss_weak (pss_cons h1 h2) fun E σ H ⟨w, env, st, g, r, h⟩ => by
  unfold sCons at h
  rw [R.wp_bind] at h
  refine ⟨w, env, st, g, r, R.wp_mono h (fun f s1 h1 => ?_) fun _ _ _ _ h => h⟩
  cases f with
  | next env1 => exact fun σ1 w1 H1 e1 g1 r1 => ⟨w1, env1, s1, g1, r1, wp_out e1 h1⟩
  | brk env1 => exact h1
  | cont env1 => exact h1
  | ret d => exact h1
theorem pssv_one (h1 : PSv X st s) : PSsv X [st] s := pss_weak (pss_one h1) fun E σ H h => h
theorem psv_set (he : PEv X e xe) (hg : PG X tg (tTg (kx X) t)) (hs : swapsWithSole [tg] e pos.line X.env = pure false := by rfl) (hw : swappedStores [tg] e X.env = pure none := by rfl) (h1 : (assignEach [tg] X.env).map (·.2) = [assign tg X.env] := by rfl) : PSv X (.Assign [tg] e pos) (sSet t xe) :=
  ps_weak (ps_asg he hg hs hw h1) fun E σ H ⟨w, env, st, g, r, h⟩ => by
    unfold sSet at h
    rw [R.wp_bind] at h
    refine tEv_st _ g r h fun d s1 v w1 H1 h1 e1 g1 d1 => ?_
    obtain ⟨env', hb, h1⟩ := may_wp h1
    exact ⟨w1, s1, env, d, env', g1, r.le e1.toLe, d1, hb, fun σ' r' _ => h1 σ' w1 H1 e1 g1 r'⟩
theorem psv_par (i j : Nat) {kt k2 : Nat} {px py pt pt2 : Pos} (hc : X.calm = true) (hN : X.N.Nodup) (ha : PEv X a xa) (hb : PEv X b xb) (hi : X.N[i]? = some x := by rfl) (hj : X.N[j]? = some y := by rfl) (hij : i ≠ j := by decide)
    (hx : X.env.scope.names.lookup x = some .local := by rfl) (hy : X.env.scope.names.lookup y = some .local := by rfl) (hsa : isStar a = false := by rfl) (hsb : isStar b = false := by rfl)
    (hw : swappedStores [.Tuple [.Name x px, .Name y py] kt pt] (.Tuple [a, b] k2 pt2) X.env = pure (some [x, y]) := by rfl)
    (hs : swapsWithSole [.Tuple [.Name x px, .Name y py] kt pt] (.Tuple [a, b] k2 pt2) pos.line X.env = pure false := by rfl) :
    PSv X (.Assign [.Tuple [.Name x px, .Name y py] kt pt] (.Tuple [a, b] k2 pt2) pos) (sPar i j xa xb) :=
  ps_weak (ps_par hc hN hi hj hij hx hy (pa_cons ha (pa_cons hb pa_nil (star_cons hsb)) (star_cons hsa)) hw hs) fun E σ H ⟨w, env, st, g, r, h⟩ => by
    unfold sPar at h
    rw [R.wp_bind] at h
    refine tEv_st _ g r h fun d s1 v w1 H1 h1 e1 g1 d1 => ?_
    rw [R.wp_bind] at h1
    refine tEv_stn _ e1 g1 r h1 fun d' s2 v2 w2 H2 h2 e2 g2 d2 => ?_
    exact ⟨v, v2, rfl, h2 _ w2 H2 (e1.trans e2) g2 (((r.le e1.toLe).le e2.toLe).set (d1.le e2.toLe) |>.set d2)⟩
theorem psv_if (hc : PTv X c xc) (ha : PSsv X sts ss) (hb : PSsv X sts' ss') : PSv X (.If c sts sts' pos) (sIf xc ss ss') := ps_weak (ps_if hc ha hb) fun E σ H ⟨w, env, st, g, r, h⟩ => by
  have h' := wp_test (P := fun _ _ => True) (k := fun t st => if t = true then ss env st else ss' env st) h
  refine tTv_mono _ g r (wp_at h') fun t s1 w1 H1 h1 e1 g1 => ?_
  cases t with
  | true => exact iteT ⟨w1, env, s1, g1, r.le e1.toLe, wp_out e1 h1⟩
  | false => exact iteF ⟨w1, env, s1, g1, r.le e1.toLe, wp_out e1 h1⟩
theorem psv_ret (he : PEv X e xe) : PSv X (.Return (some e) pos) (sRet xe) := ps_weak (ps_ret he) fun E σ H ⟨w, env, st, g, r, h⟩ => by
  unfold sRet at h
  rw [R.wp_bind] at h
  exact tEv_st _ g r h fun d s1 v w1 H1 h1 e1 g1 d1 => h1 v w1 H1 e1 g1 d1
theorem psv_retN : PSv X (.Return none pos) sRetN := ps_weak ps_retN fun E σ H ⟨w, env, st, g, r, h⟩ => h _ w H (Ext.refl w H) g .non
theorem psv_exp (he : PEv X e xe) (hs : swapsWith e none pos.line X.env = pure false := by rfl) : PSv X (.Expr e pos) (sExp xe) := ps_weak (ps_expr he hs) fun E σ H ⟨w, env, st, g, r, h⟩ => by
  unfold sExp at h
  rw [R.wp_bind] at h
  exact tEv_st _ g r h fun d s1 v w1 H1 h1 e1 g1 d1 => h1 σ w1 H1 e1 g1 (r.le e1.toLe)
theorem psv_pass : PSv X (.Pass pos) sPass := ps_weak ps_pass fun E σ H ⟨w, env, st, g, r, h⟩ => h _ w H (Ext.refl w H) g r
theorem psv_brk : PSv X (.Break pos) sBrk := ps_weak ps_break fun E σ H ⟨w, env, st, g, r, h⟩ => h _ w H (Ext.refl w H) g r
theorem psv_cont : PSv X (.Continue pos) sCont := ps_weak ps_continue fun E σ H ⟨w, env, st, g, r, h⟩ => h _ w H (Ext.refl w H) g r
section
variable {elt : Expr} {ifs : List Expr} {scope : Scope} {tgx : Tg} {cs : Ev Bool}
/-- name = [..] -/
theorem psv_setLc {k : Nat} (cz : Cz X k) (i : Nat) (own : List (Str × Nat)) (hi : PEv X it xi) (ok : blkC X.N X.env.scope scope own = true)
    (hg : ∀ (s : Shared) (H : Hp) (C : Addr) (cl : List (Str × Addr)) (fp : List Addr), PG (X.blk s H scope (compEnvC scope cl C X.env) fp) tg (tTg (kx X) tgx))
    (ht : ∀ (s : Shared) (H : Hp) (C : Addr) (cl : List (Str × Addr)) (fp : List Addr), PTsv (X.blk s H scope (compEnvC scope cl C X.env) fp) ifs cs)
    (he : ∀ (s : Shared) (H : Hp) (C : Addr) (cl : List (Str × Addr)) (fp : List Addr), PEv (X.blk s H scope (compEnvC scope cl C X.env) fp) elt xe)
    (hsw : swapsWith (.ListComp elt [⟨tg, it, ifs, 0⟩] scope pos) (some (.Name y p)) p'.line X.env = pure true)
    (hy : X.N[i]? = some y := by rfl) (hyl : X.env.scope.names.lookup y = some .local := by rfl) (hin : tgIn tgx (own.map (·.2)) = true := by rfl) (hs : ∀ x, foldedSetIterable it X.env x = pure x := by intro _; rfl) :
    PSv X (.Assign [.Name y p] (.ListComp elt [⟨tg, it, ifs, 0⟩] scope pos) p') (sSet (.nm i) (xComp (own.map (·.2)) tgx xi cs xe)) :=
  ps_weak (ps_setLc cz.calm cz.nd hy hyl hsw (piv hi) (blkOk_by ok) hg (fun s H C cl fp => pts_weak (ht s H C cl fp) (tTv_imp fun _ _ _ _ => w0_le)) (fun s H C cl fp => pe_weak (he s H C cl fp) (tEv_imp fun _ _ _ _ => w0_le)) hs) fun E σ H ⟨w, env, st, g, r, h⟩ => by
    unfold sSet xComp at h
    rw [R.wp_bind, R.wp_bind] at h
    refine ⟨w, env, st, g, r, R.wp_mono (wp_at h) (fun d s1 h1 => ?_) fun _ _ _ _ h => h⟩
    obtain ⟨ds, q, h1⟩ := may_wp h1
    rw [R.wp_bind] at h1
    refine ⟨ds, q, fun J w1 H1 e1 g1 jok => comp_core (Q := fun x H1 => gName i x σ H1 E.nx) hin e1 g1 r jok (R.wp_mono (calm_wp h1) (fun ys s2 h2 v w2 H2 e2 g2 d2 => ?_) fun _ _ _ _ z => z)⟩
    obtain ⟨env', hb, h2⟩ := may_wp (show (may (bindT (.nm i) (.lst ys) env) fun env => R.ok (Fl.next env) s2).wp (Out (kx X) w H E) (FX (kx X) (CW X) w H Tr) from h2)
    unfold bindT at hb
    cases hb
    exact h2 _ w2 H2 e2 g2 ((r.le e2.toLe).set d2)
theorem psv_setRc {k : Nat} (cz : Cz X k) (i : Nat) {q1 q2 : Pos} (own : List (Str × Nat)) (hm : X.mg "range" = none) (hi : PEv X n xi) (ok : blkC X.N X.env.scope scope own = true)
    (hg : ∀ (s : Shared) (H : Hp) (C : Addr) (cl : List (Str × Addr)) (fp : List Addr), PG (X.blk s H scope (compEnvC scope cl C X.env) fp) tg (tTg (kx X) tgx))
    (ht : ∀ (s : Shared) (H : Hp) (C : Addr) (cl : List (Str × Addr)) (fp : List Addr), PTsv (X.blk s H scope (compEnvC scope cl C X.env) fp) ifs cs)
    (he : ∀ (s : Shared) (H : Hp) (C : Addr) (cl : List (Str × Addr)) (fp : List Addr), PEv (X.blk s H scope (compEnvC scope cl C X.env) fp) elt xe)
    (hsw : swapsWith (.ListComp elt [⟨tg, .Call (.Name "range" q1) [n] [] q2, ifs, 0⟩] scope pos) (some (.Name y p)) p'.line X.env = pure true)
    (hy : X.N[i]? = some y := by rfl) (hyl : X.env.scope.names.lookup y = some .local := by rfl) (hgr : Gl X "range" := by rfl) (hst : isStar n = false := by rfl) (hin : tgIn tgx (own.map (·.2)) = true := by rfl) :
    PSv X (.Assign [.Name y p] (.ListComp elt [⟨tg, .Call (.Name "range" q1) [n] [] q2, ifs, 0⟩] scope pos) p') (sSet (.nm i) (xRcomp (own.map (·.2)) tgx xi cs xe)) :=
  ps_weak (ps_setLc cz.calm cz.nd hy hyl hsw (pirv hm hi hgr hst) (blkOk_by ok) hg (fun s H C cl fp => pts_weak (ht s H C cl fp) (tTv_imp fun _ _ _ _ => w0_le)) (fun s H C cl fp => pe_weak (he s H C cl fp) (tEv_imp fun _ _ _ _ => w0_le))) fun E σ H ⟨w, env, st, g, r, h⟩ => by
    unfold sSet xRcomp at h
    rw [R.wp_bind, R.wp_bind] at h
    refine ⟨w, env, st, g, r, R.wp_mono (wp_at h) (fun d s1 h1 => ?_) fun _ _ _ _ h => h⟩
    obtain ⟨j, q, h1⟩ := may_wp h1
    obtain ⟨hb, h1⟩ := must_wp h1
    rw [R.wp_bind] at h1
    refine ⟨j, q, hb, fun J w1 H1 e1 g1 jok => comp_core (Q := fun x H1 => gName i x σ H1 E.nx) hin e1 g1 r jok (R.wp_mono (calm_wp h1) (fun ys s2 h2 v w2 H2 e2 g2 d2 => ?_) fun _ _ _ _ z => z)⟩
    obtain ⟨env', hb, h2⟩ := may_wp (show (may (bindT (.nm i) (.lst ys) env) fun env => R.ok (Fl.next env) s2).wp (Out (kx X) w H E) (FX (kx X) (CW X) w H Tr) from h2)
    unfold bindT at hb
    cases hb
    exact h2 _ w2 H2 e2 g2 ((r.le e2.toLe).set d2)
end
theorem psv_put (hv : PEv X e xe) (hns : PG X (.Subscript o i p) (gSub (tEv (kx X) (CW X) xo) (tEv (kx X) (CW X) xi) rSetL)) (hs : swapsWithSole [.Subscript o i p] e pos.line X.env = pure false := by rfl) (hw : swappedStores [.Subscript o i p] e X.env = pure none := by rfl)
    (h1 : (assignEach [.Subscript o i p] X.env).map (·.2) = [assign (.Subscript o i p) X.env] := by rfl) : PSv X (.Assign [.Subscript o i p] e pos) (sPut xo xi xe) :=
  ps_weak (ps_asg hv hns hs hw h1) fun E σ H ⟨w, env, st, g, r, h⟩ => by
    unfold sPut at h
    rw [R.wp_bind] at h
    refine tEv_st _ g r h fun d s1 v w1 H1 h1 e1 g1 d1 => ?_
    rw [R.wp_bind] at h1
    refine tEv_stn _ e1 g1 r h1 fun d2 s2 v2 w2 H2 h2 e2 g2 dv2 => ?_
    rw [R.wp_bind] at h2
    refine tEv_stn _ (e1.trans e2) g2 r h2 fun d3 s3 v3 w3 H3 h3 e3 g3 dv3 => ?_
    obtain ⟨st', hp, h3⟩ := may_wp h3
    unfold putD at hp
    split at hp
    · rename_i k j
      split at hp
      · rename_i xs hx
        cases q : ixN xs.length j with
        | none => rw [q] at hp; cases hp
        | some n =>
          rw [q] at hp
          cases hp
          have dv2 := dv2.le e3.toLe
          cases dv2 with
          | mrf ha' =>
            obtain ⟨nf, vs, hH, rr⟩ := g3.at hx ha'
            cases dv3
            refine ⟨_, vs, j, n, rfl, rfl, hH, by rw [rr.length]; exact q, ?_⟩
            have ed : Ext w3 H3 w3 (upd H3 _ (.lst (vs.set n v))) := Ext.put g3 (List.mem_of_getElem? ha') nf
            have e13 := (e1.trans e2).trans e3
            exact h3 σ w3 _ (e13.trans ed) (g3.put ha' nf ⟨_, upd_same, (Dvs.set ((d1.le e2.toLe).le e3.toLe) n rr).le ed.toLe⟩) (r.le (e13.trans ed).toLe)
      · cases hp
    · cases hp
/-! ### for, while -/
theorem for_core {K : Kx} {W : WX} {w w1 : Wd} {H H1 : Hp} {σ : L2.St} {env : En} {st1 : Sto} {ds : List D} {E : Ends} {J : It}
    (e1 : Ext w H w1 H1) (g1 : Good K w1 H1 st1) (r : EnvR K w H σ env) (jok : JOk K w1 H1 J ds)
    (h : (forR t ss env ds st1).wp (Out K w H E) (FX K W w H Tr)) :
    ∃ Y : Nat → Nat → L2.St → Hp → Prop, (∃ m, Y 0 m σ H1) ∧ ∀ i m σ H, Y i m σ H →
      (J.stop i H ∧ E.nx σ H) ∨ (J.go i H ∧ ∃ N : L2.St → Hp → Prop, (∀ σ' H', N σ' H' → ∃ m', m' < m ∧ Y (i + 1) m' σ' H') ∧ ∀ x H', J.yld i H x H' → tTg K t x σ H' fun σ2 H2 => tSv K W ss { E with nx := N, ct := N, bk := E.nx } σ2 H2) := by
  refine ⟨fun i m σ2 H2 => i ≤ ds.length ∧ m = ds.length - i ∧ ∃ w2 env2 st2, Ext w1 H1 w2 H2 ∧ Good K w2 H2 st2 ∧ EnvR K w2 H2 σ2 env2 ∧ (forR t ss env2 (ds.drop i) st2).wp (Out K w H E) (FX K W w H Tr),
    ⟨ds.length, Nat.zero_le _, by omega, w1, env, st1, Ext.refl w1 H1, g1, r.le e1.toLe, by rw [List.drop_zero]; exact h⟩, ?_⟩
  intro i m σ2 H2 ⟨hi, hm, w2, env2, st2, e2, g2, r2, hr⟩
  have jk := jok w2 H2 e2.toLe
  by_cases hend : i = ds.length
  · subst hend
    rw [List.drop_length] at hr
    unfold forR at hr
    exact .inl ⟨jk.2 _ (Nat.le_refl _), hr σ2 w2 H2 (e1.trans e2) g2 r2⟩
  · have hlt : i < ds.length := by omega
    obtain ⟨hgo, hy⟩ := jk.1 i _ (List.getElem?_eq_getElem hlt)
    refine .inr ⟨hgo, fun σ3 H3 => i + 1 ≤ ds.length ∧ ∃ w2 env2 st2, Ext w1 H1 w2 H3 ∧ Good K w2 H3 st2 ∧ EnvR K w2 H3 σ3 env2 ∧ (forR t ss env2 (ds.drop (i + 1)) st2).wp (Out K w H E) (FX K W w H Tr),
      fun σ' H' ⟨n1, n2⟩ => ⟨ds.length - (i + 1), by omega, n1, rfl, n2⟩, fun x H3 hyl => ?_⟩
    obtain ⟨wy, ey, g2, dx⟩ := hy x H3 hyl st2 g2
    have r2 := r2.le ey.toLe
    have e2 := e2.trans ey
    rw [List.drop_eq_getElem_cons hlt] at hr
    unfold forR at hr
    obtain ⟨env', hb, hr⟩ := may_wp hr
    rw [R.wp_bind] at hr
    refine ⟨wy, st2, env2, _, env', g2, r2, dx, hb, fun σ3 r3 _ => ⟨wy, env', st2, g2, r3, R.wp_mono hr (fun f s3 h3 => ?_) fun _ _ _ _ h => h.ext (e1.trans e2)⟩⟩
    cases f with
    | next env3 => exact fun σ4 w4 H4 e4 g4 r4 => ⟨hlt, w4, env3, s3, e2.trans e4, g4, r4, h3⟩
    | cont env3 => exact fun σ4 w4 H4 e4 g4 r4 => ⟨hlt, w4, env3, s3, e2.trans e4, g4, r4, h3⟩
    | brk env3 => exact fun σ4 w4 H4 e4 g4 r4 => h3 σ4 w4 H4 ((e1.trans e2).trans e4) g4 r4
    | ret d => exact fun v w4 H4 e4 g4 r4 => h3 v w4 H4 ((e1.trans e2).trans e4) g4 r4
theorem psv_for (hp : PassesOwn (model X.prog X.w) X.A X.env X.xe) (hc : X.calm = true) (hi : PEv X it xi) (hg : PG X tg (tTg (kx X) t)) (hb : PSsv X sts ss) (hs : ∀ x, foldedSetIterable it X.env x = pure x := by intro _; rfl) :
    PSv X (.For tg it sts [] pos) (sFor t xi ss) := ps_weak (ps_for hp hc (piv hi) hg hb hs) fun E σ H ⟨w, env, st, g, r, h⟩ => by
  unfold sFor at h
  rw [R.wp_bind] at h
  refine ⟨w, env, st, g, r, R.wp_mono (wp_at h) (fun d s1 h1 => ?_) fun _ _ _ _ h => h⟩
  obtain ⟨ds, q, h1⟩ := may_wp h1
  exact ⟨ds, q, fun J w1 H1 e1 g1 jok => for_core e1 g1 r jok h1⟩
theorem psv_range (hp : PassesOwn (model X.prog X.w) X.A X.env X.xe) (hc : X.calm = true) (hm : X.mg "range" = none) (hi : PEv X n xi) (hg : PG X tg (tTg (kx X) t)) (hb : PSsv X sts ss) (hgr : Gl X "range" := by rfl) (hst : isStar n = false := by rfl) :
    PSv X (.For tg (.Call (.Name "range" p) [n] [] p') sts [] pos) (sRange t xi ss) := ps_weak (ps_for hp hc (pirv hm hi hgr hst) hg hb) fun E σ H ⟨w, env, st, g, r, h⟩ => by
  unfold sRange at h
  rw [R.wp_bind] at h
  refine ⟨w, env, st, g, r, R.wp_mono (wp_at h) (fun d s1 h1 => ?_) fun _ _ _ _ h => h⟩
  obtain ⟨j, q, h1⟩ := may_wp h1
  obtain ⟨hb, h1⟩ := must_wp h1
  exact ⟨j, q, hb, fun J w1 H1 e1 g1 jok => for_core e1 g1 r jok h1⟩
theorem psv_while (hp : PassesOwn (model X.prog X.w) X.A X.env X.xe) (hc : PTv X c xc) (hb : PSsv X sts ss) : PSv X (.While c sts [] pos) (sWhile xc ss) := ps_weak (ps_while hp hc hb) fun E σ H ⟨w, env, st, g, r, h⟩ => by
  unfold sWhile at h
  refine ⟨fun m σ2 H2 => ∃ w2 env2 st2, Ext w H w2 H2 ∧ Good (kx X) w2 H2 st2 ∧ EnvR (kx X) w2 H2 σ2 env2 ∧ (whileR (tVal xc) ss m env2 st2).wp (Out (kx X) w H E) (FX (kx X) (CW X) w H Tr), ⟨1000000, w, env, st, Ext.refl w H, g, r, h⟩, ?_⟩
  intro m σ2 H2 ⟨w2, env2, st2, e2, g2, r2, h2⟩
  cases m with
  | zero => exact h2.elim
  | succ m =>
    unfold whileR at h2
    rw [R.wp_bind] at h2
    refine ⟨w2, env2, st2, g2, r2, R.wp_mono h2 (fun t s3 h3 w3 H3 e3 g3 => ?_) fun _ _ _ _ h => (h.sub fun _ _ => trivial).ext e2⟩
    have e23 := e2.trans e3
    cases t with
    | false =>
      rw [if_neg Bool.false_ne_true] at h3
      exact iteF (h3 σ2 w3 H3 e23 g3 (r2.le e3.toLe))
    | true =>
      rw [if_pos rfl, R.wp_bind] at h3
      refine iteT ?_
      refine ⟨fun σ4 H4 => ∃ w4 env4 st4, Ext w H w4 H4 ∧ Good (kx X) w4 H4 st4 ∧ EnvR (kx X) w4 H4 σ4 env4 ∧ (whileR (tVal xc) ss m env4 st4).wp (Out (kx X) w H E) (FX (kx X) (CW X) w H Tr), fun σ' H' n => ⟨m, Nat.lt_succ_self m, n⟩, w3, env2, s3, g3, r2.le e3.toLe, R.wp_mono h3 (fun f s4 h4 => ?_) fun _ _ _ _ h => h.ext e23⟩
      cases f with
      | next env4 => exact fun σ4 w4 H4 e4 g4 r4 => ⟨w4, env4, s4, e23.trans e4, g4, r4, h4⟩
      | cont env4 => exact fun σ4 w4 H4 e4 g4 r4 => ⟨w4, env4, s4, e23.trans e4, g4, r4, h4⟩
      | brk env4 => exact fun σ4 w4 H4 e4 g4 r4 => h4 σ4 w4 H4 (e23.trans e4) g4 r4
      | ret d => exact fun v w4 H4 e4 g4 r4 => h4 v w4 H4 (e23.trans e4) g4 r4
end
/-! ### lists that change; what changes no more -/
section
variable {K : Kx} {w : Wd} {H : Hp} {st : Sto}
theorem Dvs.eraseIdx : ∀ {vs : List V} {ds : List D} (n : Nat), Dvs K w H vs ds → Dvs K w H (vs.eraseIdx n) (ds.eraseIdx n)
  | [], _, n, h => by cases h; exact .nil
  | v :: vs, _, 0, h => by cases h with | cons a r => exact r
  | v :: vs, _, n + 1, h => by cases h with | cons a r => exact .cons a (r.eraseIdx n)
theorem EnvR.refit {σ : L2.St} {env : En} (r : EnvR K w H σ env) {i : Nat} {v : V} {d : D} (hv : σ[i]? = some (some v)) (h : Dv K w H v d) : EnvR K w H σ (env.set i (some d)) := by
  refine ⟨by rw [List.length_set]; exact r.len, fun j d' e => ?_⟩
  by_cases hj : j = i
  · subst hj
    have hl := (List.getElem?_eq_some_iff.mp e).1
    rw [List.getElem?_set_self (by simpa using hl)] at e
    cases e
    exact ⟨v, hv, h⟩
  · rw [List.getElem?_set_ne (Ne.symm hj)] at e
    exact r.get j d' e
theorem still_ok (g : Good K w H st) {k : Nat} {a : Addr} {d : D} (ha : w.th[k]? = some a) (h : stillD st k = some d) : Dv K (w.frz a) H (.ref a) d := by
  have e1 : Ext w H (w.frz a) H := Ext.set (List.mem_of_getElem? ha)
  unfold stillD at h
  split at h
  · rename_i xs q
    cases h
    obtain ⟨nf, vs, h3, h4⟩ := g.at q ha
    exact .lst (.inr rfl) h3 (h4.le e1.toLe)
  · rename_i ks vs q
    cases h
    obtain ⟨nf, nk, xs, ys, h3, h4, h5, hu, h6, h7⟩ := g.at q ha
    exact .dct (.inr rfl) h3 h4 h5 hu (h6.le e1.toLe) (h7.le e1.toLe)
  · cases h
end
section
variable {X : Cx} {pos p p' : Pos} {e a b c o i : Expr} {xa xe xo xi : Ev D} {ss : Ex} {sts : List Stmt}
theorem pssv_frz (k : Nat) (h : PSsv X sts ss) : PSsv X sts (sCons (sFrz k) ss) := pss_weak h fun E σ H ⟨w, env, st, g, r, h⟩ => by
  unfold sCons sFrz at h
  rw [R.wp_bind] at h
  obtain ⟨pr, q, h⟩ := may_wp h
  unfold frzD at q
  split at q
  · rename_i j ej
    obtain ⟨d, qd, rfl⟩ := map_some q
    obtain ⟨a, ha1, ha2⟩ := r.get_mrf ej
    have e1 : Ext w H (w.frz a) H := Ext.set (List.mem_of_getElem? ha2)
    exact ⟨w.frz a, env.set k (some d), st.del j, g.set ha2, (r.le e1.toLe).refit ha1 (still_ok g ha2 qd), wp_out e1 h⟩
  · cases q
theorem pssv_drop (k : Nat) (h : PSsv X sts ss) : PSsv X sts (sCons (sDrop k) ss) := pss_weak h fun E σ H ⟨w, env, st, g, r, h⟩ => by
  refine ⟨w, env, dropD env st k, ?_, r, h⟩
  unfold dropD
  split
  · exact g.del _
  · exact g
theorem pev_mcopy (hm : X.mg "list" = none) (ha : PEv X a xa) (hg : Gl X "list" := by rfl) (hs : isStar a = false := by rfl) : PEv X (.Call (.Name "list" p) [a] [] pos) (xMcopy xa) :=
  pe_weak (pe_callTy call_list_of hg hm (by kernel_rfl) (pav_cons ha pav_nil hs).pa (by decide) (by decide) (star_cons hs) rfl) fun σ H Q ⟨w, env, st, g, r, h⟩ => by
    unfold xMcopy at h
    rw [R.wp_bind] at h
    refine ⟨w, env, st, g, r, ?_⟩
    unfold xCons
    rw [R.wp_bind]
    refine R.wp_mono h (fun d s1 h1 => ?_) fun _ _ _ _ h => h
    intro vs w1 H1 e1 g1 d1
    cases d1 with
    | cons d1 d2 =>
      cases d2
      obtain ⟨ds, q, h1⟩ := may_wp h1
      obtain ⟨p, us, rfl, hs, rr⟩ := as_seq g1 d1 q
      exact ⟨p, us, rfl, hs, Fin.newM g1 rr (Fin.ext e1 h1)⟩
theorem live_lst {K : Kx} {w : Wd} {H : Hp} {st : Sto} (g : Good K w H st) {v : V} {d : D} (h : Dv K w H v d) (e : liveM st d = true) : ∃ k a vs, d = .mrf k ∧ v = .ref a ∧ w.th[k]? = some a ∧ H a = some (.lst vs) := by
  unfold liveM at e
  split at e
  · rename_i k
    split at e
    · rename_i xs ex
      cases h with
      | mrf h =>
        obtain ⟨_, vs, h3, _⟩ := g.at ex h
        exact ⟨k, _, vs, rfl, rfl, h, h3⟩
    · cases e
  · cases e
theorem pev_app (ho : PEv X o xo) (he : PEv X e xe) (hs : attributeBase o "append" X.env (eval o X.env) = eval o X.env := by rfl)
    (hfew : ((backTo pos (starEach [e] X.env)).all (fun x => !x.1) && (backToKw pos (keywordEach [] X.env)).all (fun x => x.1.isSome)
      && decide ([e].length + ([] : List Keyword).length + (if ([] : List Keyword).isEmpty then 0 else 1) < 30)) = true := by rfl)
    (hline : (p.endLine == pos.line) = true := by rfl) (hst : isStar e = false := by rfl) : PEv X (.Call (.Attribute o "append" p) [e] [] pos) (xApp xo xe) :=
  pe_weak (pe_bm PySem.F.plainAttrs_list PySem.F.slot_list_append PySem.F.type_list_append mt_append ho (pav_cons he pav_nil hst).pa hs hfew hline (star_cons hst) rfl) fun σ H Q ⟨w, env, st, g, r, h⟩ => by
    unfold xApp at h
    rw [R.wp_bind] at h
    refine tEv_mono _ g r h fun d s1 v w1 H1 h1 e1 g1 d1 => ?_
    obtain ⟨hl, h1⟩ := must_wp h1
    obtain ⟨k, a, us, rfl, rfl, ha, hH⟩ := live_lst g1 d1 hl
    refine ⟨.inl ⟨rfl, us, SqL.of hH⟩, w1, env, s1, g1, r.le e1.toLe, ?_⟩
    unfold xCons
    rw [R.wp_bind]
    rw [R.wp_bind] at h1
    refine R.wp_mono h1 (fun d2 s2 h2 => ?_) fun _ _ _ _ h => h.ext e1
    intro ws w2 H2 e2 g2 d2'
    cases d2' with
    | @cons v0 _ _ _ dd dn =>
      cases dn
      obtain ⟨st', hp, h2⟩ := may_wp h2
      have hp : (match s2.get k with | some (.lst xs) => if xs.length < sizeLine then some (s2.set k (.lst (xs ++ [d2]))) else none | _ => none) = some st' := hp
      · split at hp
        · rename_i xs q
          split at hp
          · rename_i hz
            cases hp
            have ha2 := e2.th _ _ ha
            obtain ⟨nf, vs, hH2, rr⟩ := g2.at q ha2
            have ed : Ext w2 H2 w2 (upd H2 a (.lst (vs ++ [v0]))) := Ext.put g2 (List.mem_of_getElem? ha2) nf
            refine ⟨a, vs, _, rfl, rfl, hH2, by rw [rr.length]; exact hz, ?_⟩
            exact h2 .non w2 _ ((e1.trans e2).trans ed) (g2.put ha2 nf ⟨_, upd_same, (rr.append (.cons dd .nil)).le ed.toLe⟩) .non
          · cases hp
        · cases hp
theorem pev_popAt (ho : PEv X o xo) (he : PEv X e xe) (hs : attributeBase o "pop" X.env (eval o X.env) = eval o X.env := by rfl)
    (hfew : ((backTo pos (starEach [e] X.env)).all (fun x => !x.1) && (backToKw pos (keywordEach [] X.env)).all (fun x => x.1.isSome)
      && decide ([e].length + ([] : List Keyword).length + (if ([] : List Keyword).isEmpty then 0 else 1) < 30)) = true := by rfl)
    (hline : (p.endLine == pos.line) = true := by rfl) (hst : isStar e = false := by rfl) : PEv X (.Call (.Attribute o "pop" p) [e] [] pos) (xPopAt xo xe) :=
  pe_weak (pe_bm PySem.F.plainAttrs_list PySem.F.slot_list_pop PySem.F.type_list_pop mt_popAt ho (pav_cons he pav_nil hst).pa hs hfew hline (star_cons hst) rfl) fun σ H Q ⟨w, env, st, g, r, h⟩ => by
    unfold xPopAt at h
    rw [R.wp_bind] at h
    refine tEv_mono _ g r h fun d s1 v w1 H1 h1 e1 g1 d1 => ?_
    obtain ⟨hl, h1⟩ := must_wp h1
    obtain ⟨k, a, us, rfl, rfl, ha, hH⟩ := live_lst g1 d1 hl
    refine ⟨.inl ⟨rfl, us, SqL.of hH⟩, w1, env, s1, g1, r.le e1.toLe, ?_⟩
    unfold xCons
    rw [R.wp_bind]
    rw [R.wp_bind] at h1
    refine R.wp_mono h1 (fun d2 s2 h2 => ?_) fun _ _ _ _ h => h.ext e1
    intro ws w2 H2 e2 g2 d2'
    cases d2' with
    | cons dd dn =>
      cases dn
      obtain ⟨pr, hp, h2⟩ := may_wp h2
      cases d2 with
      | int j =>
        have hp : (match s2.get k with | some (.lst xs) => (ixN xs.length j).bind fun n => if xs.length < 9223372036854775808 then (xs[n]?).map fun d => (d, s2.set k (.lst (xs.eraseIdx n))) else none | _ => none) = some pr := hp
        split at hp
        · rename_i xs q
          obtain ⟨n, qn, hp⟩ := Option.bind_eq_some_iff.mp hp
          split at hp
          · rename_i hz
            obtain ⟨d0, qd, rfl⟩ := map_some hp
            cases dd
            have ha2 := e2.th _ _ ha
            obtain ⟨nf, vs, hH2, rr⟩ := g2.at q ha2
            obtain ⟨y, hy, dy⟩ := rr.get qd
            obtain ⟨i1, i2, i3, i4⟩ := ixN_seq qn
            have ed : Ext w2 H2 w2 (upd H2 a (.lst (vs.eraseIdx n))) := Ext.put g2 (List.mem_of_getElem? ha2) nf
            refine ⟨a, vs, j, n, y, rfl, rfl, hH2, by omega, by omega, by rw [rr.length]; exact i1, hy, ?_⟩
            exact h2 y w2 _ ((e1.trans e2).trans ed) (g2.put ha2 nf ⟨_, upd_same, (rr.eraseIdx n).le ed.toLe⟩) (dy.le ed.toLe)
          · cases hp
        · cases hp
      | _ => cases hp
end
end Qv
end
section
set_option Elab.async false
set_option autoImplicit false
set_option linter.all false
set_option maxRecDepth 100000
set_option maxHeartbeats 2000000
/-! Qv: defs, their calls, what they raise. -/
namespace Qv
open PySem L2 PySem.Spec PyProof.Rows
/-- a def keeps its promise wherever no repr is under way -/
structure FnX (P : Program) (w : World) (K : PySem.W.Frag) (mg : Str → Option Value) (base : Heap) (k : Nat) (f : Addr) (fd : FuncData) (ps : List Str) (sp : Sp) : Prop where
  len : ∀ vs H Q E, sp vs H Q E → vs.length = ps.length
  run : ∀ (A : Around) (outer : List Env) (s : Shared) (H : Hp) (args : Args) (us : List Value) (vs : List V) (Q : VK) (E : XK), Room k A → A.guards = some [] → Env0 P w K mg base A outer s H → BindsTo s fd args (ps.zip us) → Vals vs us →
    sp vs H Q E → codeAny (model P w) A (.call (.ref f) args) (CR (L2.CX P w) outer P w H s Q E) s
/-- what is wanted of what a call raises -/
def EX (K : Kx) (w : Wd) (H : Hp) (E : XK) : XW := fun c ns xs st' => ∀ dd vs w' H', Ext w H w' H' → Good K w' H' st' → w'.fz dd → H' dd = some (.xd (ns.zip vs)) → ns.length = xs.length → Dvs K w' H' vs xs → E (.ref (He.ga K.K c)) (some dd) H'
theorem EX.ext {K : Kx} {w w' : Wd} {H H' : Hp} {E : XK} {c : Str} {ns : List Str} {xs : List D} {st : Sto} (e : Ext w H w' H') (h : EX K w H E c ns xs st) : EX K w' H' E c ns xs st := fun dd vs w2 H2 e2 => h dd vs w2 H2 (e.trans e2)
theorem FX.ex {K : Kx} {W : WX} {w : Wd} {H : Hp} {σ : L2.St} {c : Str} {ns : List Str} {xs : List D} {st : Sto} (h : FX K W w H (· = σ) c ns xs st) : EX K w H (WE W σ) c ns xs st := fun dd vs w2 H2 e2 g f hd hl r => h σ dd vs w2 H2 rfl e2 g f hd hl r
/-- what a call of the table's promises -/
def spx (K : Kx) (cn : List D → Sto → R D) : Sp := fun vs H Q E => ∃ w ds st, Good K w H st ∧ Dvs K w H vs ds ∧ (cn ds st).wp (Fin K w H Q) (EX K w H E)
/-! ### what stands in a call's brackets -/
theorem Vals.pickN {vs : List V} {us : List Value} (r : Vals vs us) : ∀ sel : List Nat, Vals (Qv.pickN vs sel) (Qv.pickN us sel)
  | [] => .nil
  | i :: sel => by
    unfold Qv.pickN
    cases q : vs[i]? with
    | none =>
      rw [r.none_of q]
      exact Vals.pickN r sel
    | some x =>
      obtain ⟨u, h1, h2⟩ := r.get q
      rw [h1]
      exact .cons h2 (Vals.pickN r sel)
theorem Dvs.none_of {K : Kx} {w : Wd} {H : Hp} {vs : List V} {ds : List D} (r : Dvs K w H vs ds) {i : Nat} (h : ds[i]? = none) : vs[i]? = none := by
  rw [List.getElem?_eq_none_iff] at h ⊢
  rw [r.length]
  exact h
theorem Dvs.pickN {K : Kx} {w : Wd} {H : Hp} {vs : List V} {ds : List D} (r : Dvs K w H vs ds) : ∀ sel : List Nat, Dvs K w H (Qv.pickN vs sel) (Qv.pickN ds sel)
  | [] => .nil
  | i :: sel => by
    unfold Qv.pickN
    cases q : ds[i]? with
    | none =>
      rw [r.none_of q]
      exact Dvs.pickN r sel
    | some x =>
      obtain ⟨u, h1, h2⟩ := r.get q
      rw [h1]
      exact .cons h2 (Dvs.pickN r sel)
section
variable {X : Cx} {pos p kp : Pos} {e : Expr} {es : List Expr} {kws : List Keyword} {xa : Ev D} {xs ys : Ev (List D)} {nm : Option Str}
structure PKv (X : Cx) (kws : List Keyword) (xs : Ev (List D)) : Prop where
  pk : PK X kws (tEvs (kx X) (CW X) xs)
  len : Len xs kws.length
theorem pk_weak {kws : List Keyword} {t t' : TA} (h : PK X kws t) (k : ∀ σ H Q, t' σ H Q → t σ H Q) : PK X kws t' := ⟨fun pos pins s σ H Q I q => h.run pos pins s σ H Q I (k σ H Q q)⟩
theorem pkv_nil : PKv X [] xNil := ⟨pk_weak pk_nil fun σ H Q ⟨w, env, st, g, r, h⟩ => h [] w H (Ext.refl w H) g .nil, len_nil⟩
theorem pkv_cons (ha : PEv X e xa) (hr : PKv X kws xs) : PKv X (⟨nm, e, kp⟩ :: kws) (xCons xa xs) := ⟨pk_weak (pk_cons ha hr.pk) cons_read, len_cons hr.len⟩
/-- es, kws: n values, keywords ks, together xs -/
structure PCa (X : Cx) (pos : Pos) (es : List Expr) (kws : List Keyword) (n : Nat) (ks : List Str) (xs : Ev (List D)) : Prop where
  run : ∀ {f : Value} {first : List Value} {Q : Value → Shared → Prop} {R : List V → Hp → Prop} (pins : List (Addr × Obj)) (s : Shared) (σ : L2.St) (H : Hp), PySem.W.keepIn X.K f = true → L2.Inv X pins σ H s → tEvs (kx X) (CW X) xs σ H R →
    (∀ (us ws : List Value) (vs : List V) (H2 : Hp) (s2 : Shared), L2.Inv X pins σ H2 s2 → Vals vs (us ++ ws) → us.length = n → ws.length = ks.length → R vs H2 → wpAny (model X.prog X.w) X.A (PySem.call f (first ++ us) (ks.zip ws)) Q X.xe s2) →
    wpAny (model X.prog X.w) X.A (callWith pos f first (backTo pos (starEach es X.env)) (backToKw pos (keywordEach kws X.env))) Q X.xe s
theorem pca_nil : PCa X pos [] [] 0 [] xNil := ⟨fun pins s σ H hk I ⟨w, env, st, g, r, h⟩ k => by
  exact PySem.W.callWith_K0 I.kIn hk (k [] [] [] H s I .nil rfl rfl (h [] w H (Ext.refl w H) g .nil))⟩
theorem tEvs_len {K : Kx} {W : WX} {n : Nat} {σ : L2.St} {H : Hp} {Q : List V → Hp → Prop} (hl : Len xs n) (h : tEvs K W xs σ H Q) : tEvs K W xs σ H fun vs H2 => vs.length = n ∧ Q vs H2 := by
  obtain ⟨w, env, st, g, r, h⟩ := h
  refine ⟨w, env, st, g, r, ?_⟩
  cases q : xs env st with
  | stuck => rw [q] at h; exact h
  | exc => rw [q] at h; exact h
  | ok ds st' =>
    rw [q] at h
    intro vs w' H' e' g' r'
    exact ⟨r'.length.trans (hl _ _ _ _ q), h vs w' H' e' g' r'⟩
theorem pca_pos (ha : PAv X (e :: es) xs) (hs : isStar e = false := by rfl) (hpl : (backTo pos (starEach es X.env)).any (·.1) = false := by rfl) : PCa X pos (e :: es) [] (e :: es).length [] xs := ⟨fun pins s σ H hk I h k => by
  refine PySem.W.callWith_K (h₀ := X.base) I.ok.mod.kin hk (wpAny_mono (ha.pa.run pos pins s σ H _ I (tEvs_len ha.len h)) (fun us s1 hq => ?_) fun _ _ z => z) (star_cons hs) hpl
  obtain ⟨vs, H1, I1, rv, hl, q⟩ := hq
  exact ⟨I1.kIn, k us [] vs H1 s1 I1 (by rw [List.append_nil]; exact rv) (rv.length.symm.trans hl) rfl q⟩⟩
theorem pca_kw0 (hk0 : PKv X kws xs) (hall : (backToKw pos (keywordEach kws X.env)).all (·.1.isSome) = true := by rfl) {ks : List Str} (hks : (backToKw pos (keywordEach kws X.env)).filterMap (·.1) = ks := by rfl) (hkl : ks.length = kws.length := by rfl)
    (hpl : ((backTo pos (starEach [] X.env)).any (·.1) || (backToKw pos (keywordEach kws X.env)).any (·.1.isNone)) = false := by rfl) : PCa X pos [] kws 0 ks xs := ⟨fun pins s σ H hk I h k => by
  refine PySem.W.callWith_KW0 (h₀ := X.base) I.ok.mod.kin hk hall ?_ hpl
  refine wpAny_mono (hk0.pk.run pos pins s σ H _ I (tEvs_len hk0.len h)) (fun ws s1 hq => ?_) fun _ _ z => z
  obtain ⟨vs, H1, I1, rv, hl, q⟩ := hq
  rw [hks]
  exact ⟨I1.kIn, k [] ws vs H1 s1 I1 rv rfl (by rw [hkl]; exact rv.length.symm.trans hl) q⟩⟩
theorem ap_read {K : Kx} {W : WX} {n m : Nat} (h1 : Len xs n) (h2 : Len ys m) : ∀ σ H Q, tEvs K W (xAp xs ys) σ H Q → tEvs K W xs σ H fun vs H1 => tEvs K W ys σ H1 fun us H2 => Q (vs ++ us) H2 := fun σ H Q ⟨w, env, st, g, r, h⟩ => by
  unfold xAp at h
  rw [R.wp_bind] at h
  refine ⟨w, env, st, g, r, R.wp_mono h (fun ds s1 h1 vs w1 H1 e1 g1 d1 => ?_) fun _ _ _ _ h => h⟩
  rw [R.wp_bind] at h1
  exact ⟨w1, env, s1, g1, r.le e1.toLe, R.wp_mono h1 (fun es s2 h2 us w2 H2 e2 g2 d2 => h2 (vs ++ us) w2 H2 (e1.trans e2) g2 ((d1.le e2.toLe).append d2)) fun _ _ _ _ h => h.ext e1⟩
theorem pca_kw (ha : PAv X (e :: es) xs) (hk0 : PKv X kws ys) (hs : isStar e = false := by rfl) (hall : (backToKw pos (keywordEach kws X.env)).all (·.1.isSome) = true := by rfl) {ks : List Str} (hks : (backToKw pos (keywordEach kws X.env)).filterMap (·.1) = ks := by rfl) (hkl : ks.length = kws.length := by rfl)
    (hpl : ((backTo pos (starEach (e :: es) X.env)).any (·.1) || (backToKw pos (keywordEach kws X.env)).any (·.1.isNone)) = false := by rfl) : PCa X pos (e :: es) kws (e :: es).length ks (xAp xs ys) := ⟨fun pins s σ H hk I h k => by
  refine PySem.W.callWith_KW (h₀ := X.base) I.ok.mod.kin hk hall (wpAny_mono (ha.pa.run pos pins s σ H _ I (tEvs_len ha.len (ap_read ha.len hk0.len σ H _ h))) (fun us s1 hq => ?_) fun _ _ z => z) hpl (star_cons hs)
  obtain ⟨vs, H1, I1, rv, hl, q⟩ := hq
  refine wpAny_mono (hk0.pk.run pos pins s1 σ H1 _ I1 (tEvs_len hk0.len q)) (fun ws s2 hq => ?_) fun _ _ z => z
  obtain ⟨zs, H2, I2, rz, hz, q⟩ := hq
  rw [hks]
  exact ⟨I2.kIn, k us ws (vs ++ zs) H2 s2 I2 (rv.append rz) (rv.length.symm.trans hl) (by rw [hkl]; exact rz.length.symm.trans hz) q⟩⟩
end
/-- a call of n values and keywords ks binds the parameters to some of them, by their places -/
def BindS (K : PySem.W.Frag) (fd : FuncData) (ps : List Str) (n : Nat) (ks : List Str) (sel : List Nat) : Prop :=
  ∀ (s : Shared) (us ws : List Value), K.In s.heap → us.length = n → ws.length = ks.length → BindsTo s fd ⟨us, ks.zip ws⟩ (ps.zip (pickN (us ++ ws) sel))
section
variable {X : Cx} {k : Nat} {f : Addr} {fd : FuncData} {ps ks : List Str} {sp : Sp} {pos p : Pos} {x : Str} {es : List Expr} {kws : List Keyword} {xs : Ev (List D)} {n : Nat} {sel : List Nat}
/-- the callee runs -/
theorem run_X (F : FnX X.prog X.w X.K X.mg X.base k f fd ps sp) (cz : Cz X k) (hb : BindS X.K fd ps n ks sel) {pins : List (Addr × Obj)} {σ : L2.St} {H : Hp} {s : Shared} {Q : VK} {us ws : List Value} {vs : List V} (I : L2.Inv X pins σ H s) (r : Vals vs (us ++ ws))
    (h1 : us.length = n) (h2 : ws.length = ks.length) (q : sp (pickN vs sel) H Q (WE (CW X) σ)) : wpAny (model X.prog X.w) X.A (PySem.call (.ref f) us (ks.zip ws)) (EP X pins σ Q) X.xe s := by
  refine wpAny_call (codeAny_mono (F.run X.A X.stack s H ⟨us, ks.zip ws⟩ (pickN (us ++ ws) sel) (pickN vs sel) Q _ cz.room cz.grd I.env0 (hb s us ws I.kIn h1 h2) (Vals.pickN r sel) q) fun r s' hr => ?_)
  cases r with
  | error e => exact passAt cw_takes σ _ _ _ e s' I hr
  | ok fl =>
    cases fl with
    | ret u => exact I.after hr
    | next => exact hr.elim
    | brk => exact hr.elim
    | cont => exact hr.elim
theorem pe_callX (F : FnX X.prog X.w X.K X.mg X.base k f fd ps sp) (cz : Cz X k) (hm : X.mg x = some (.ref f)) (hk : PySem.W.keepIn X.K (.ref f) = true) (hb : BindS X.K fd ps n ks sel) (ha : PCa X pos es kws n ks xs) (hg : Gl X x) (hd : (x == ("__debug__" : Str)) = false) :
    PE X (.Call (.Name x p) es kws pos) (fun σ H Q => tEvs (kx X) (CW X) xs σ H fun vs H1 => sp (pickN vs sel) H1 Q (WE (CW X) σ)) := by
  constructor
  intro pins s σ H Q I h
  apply wpAny_Call_Name_kw
  apply ld_glob I hg hm (hd := hd)
  exact ha.run (first := []) pins s σ H hk I h fun us ws vs H2 s2 I2 r l1 l2 q => run_X F cz hb I2 r l1 l2 q
/-- what a call reads -/
theorem call_read {K : Kx} {W : WX} {call : Ca} {fn : Nat} : ∀ σ H Q, tEv K W (xCall call fn (xSel sel xs)) σ H Q → tEvs K W xs σ H fun vs H1 => spx K (call fn) (pickN vs sel) H1 Q (WE W σ) := fun σ H Q ⟨w, env, st, g, r, h⟩ => by
  unfold xCall xSel at h
  rw [R.wp_bind, R.wp_bind] at h
  refine ⟨w, env, st, g, r, R.wp_mono h (fun ds s1 h1 vs w1 H1 e1 g1 d1 => ?_) fun _ _ _ _ h => h⟩
  exact ⟨w1, pickN ds sel, s1, g1, d1.pickN sel, R.wp_mono (show (call fn (pickN ds sel) s1).wp _ _ from h1) (fun _ _ h => Fin.ext e1 h) fun _ _ _ _ h => h.ex.ext e1⟩
theorem pev_call {call : Ca} (fn : Nat) (F : FnX X.prog X.w X.K X.mg X.base k f fd ps (spx (kx X) (call fn))) (cz : Cz X k) (hm : X.mg x = some (.ref f)) (hk : PySem.W.keepIn X.K (.ref f) = true) (hb : BindS X.K fd ps n ks sel) (ha : PCa X pos es kws n ks xs) (hg : Gl X x := by rfl) (hd : (x == ("__debug__" : Str)) = false := by decide) :
    PEv X (.Call (.Name x p) es kws pos) (xCall call fn (xSel sel xs)) := pe_weak (pe_callX F cz hm hk hb ha hg hd) call_read
end
/-! ### a def's body -/
section
variable {P : Program} {w : World} {K : PySem.W.Frag} {mg : Str → Option Value} {base : Heap} {x qual : Str} {params : Arguments} {body : List Stmt} {scope : Scope} {dvs : List V} {kws : List (Str × V)} {f : Addr} {fd : FuncData} {k : Nat}
/-- its wish of what is raised -/
abbrev WD (E : XK) : WX := fun cls d _ H => E cls d H
theorem tk_def {N : List Str} {cdv : Value} {A : Around} {outer : List Env} {s : Shared} {H : Hp} {E : XK} : Takes (cxOf (L2.CX P w) P w K mg base N qual scope f cdv A outer s H E) (WD E) := takes_of rfl rfl rfl rfl
theorem po_def {N : List Str} {cdv : Value} {A : Around} {outer : List Env} {s : Shared} {H : Hp} {E : XK} :
    PassesOwn (model P w) (cxOf (L2.CX P w) P w K mg base N qual scope f cdv A outer s H E).A (cxOf (L2.CX P w) P w K mg base N qual scope f cdv A outer s H E).env (cxOf (L2.CX P w) P w K mg base N qual scope f cdv A outer s H E).xe :=
  passes_of (X := cxOf (L2.CX P w) P w K mg base N qual scope f cdv A outer s H E) rfl
theorem fn_X {N ps : List Str} {sp : Sp} (F : FunD K x qual params body scope dvs kws f fd) (S : FnScope N ps scope) (len : ∀ vs H Q E, sp vs H Q E → vs.length = ps.length)
    (hb : ∀ (cdv : Value) (A : Around) (outer : List Env) (s : Shared) (H : Hp) (vs : List V) (Q : VK) (E : XK), fd.code = cdv → Cz (cxOf (L2.CX P w) P w K mg base N qual scope f cdv A outer s H E) k → sp vs H Q E →
      ∃ t, PSs (cxOf (L2.CX P w) P w K mg base N qual scope f cdv A outer s H E) body t ∧ t { nx := fun _ H' => Q .non H', rt := Q } (start N vs) H) : FnX P w K mg base (k + 1) f fd ps sp := by
  obtain ⟨oc, od, dV, kV, doc, pm, an, cdv, ct, osl, rfl, lk, hcd, _, _⟩ := F.ex
  constructor
  · exact len
  intro A outer s H args us vs Q E hr hgd e0 hbind rv hsp
  have here : ∀ b o, base.get? b = some o → s.heap.get? b = some o := fun b o e => (e0.bs b o e).1
  have kin : K.In s.heap := e0.mod.kin.keeps here
  apply codeAny_call_function hr.depth (kin _ _ lk) rfl S.co S.gen rfl (PySem.W.codeRec_of kin hcd)
  apply hbind
  apply wpAny_newFunctionEnv_cells S.kind
  · rintro ⟨n, v⟩ hy
    rcases S.par n (List.of_mem_zip hy).1 with hn | hn
    · exact .inl hn
    · exact .inr ⟨hn, PySem.W.cellsFrom_some _ _ _ (.inl hn)⟩
  intro env he s1 hx
  subst he
  refine ⟨(e0.mod.nolimit.keeps here).keeps hx.toInCall.keep, ?_⟩
  apply codeAny_func
  have I0 := inv_start (CX := L2.CX P w) (E := E) S hr.hd e0 (len _ _ _ _ hsp) rv hx
  obtain ⟨t, ht, hq⟩ := hb cdv A outer s H vs Q E rfl ⟨hr.deeper _, hgd, rfl, S.nd⟩ hsp
  refine wpAny_mono (ht.run [] s1 (start N vs) H _ I0 hq) (fun fl s' hs => ?_) fun _ _ z => z
  cases fl with
  | ret u =>
    obtain ⟨v, σ', H', J, r1, q⟩ := hs
    exact ⟨v, H', J.os, J.bare, J.base, J.hok, r1, q⟩
  | next =>
    obtain ⟨σ', H', J, q⟩ := hs
    exact ⟨.non, H', J.os, J.bare, J.base, J.hok, rfl, q⟩
  | brk =>
    obtain ⟨_, _, _, q⟩ := hs
    cases q
  | cont =>
    obtain ⟨_, _, _, q⟩ := hs
    cases q
theorem runD_len {d : Df} {call : Ca} {ds : List D} {st : Sto} {Q : D → Sto → Prop} {E : XW} (h : (runD d call ds st).wp Q E) : ds.length = d.ps ∧ (resOf st.th.length (d.body call (startE d.ns ds) st)).wp Q E := by
  unfold runD at h
  split at h
  · rename_i hl; exact ⟨hl, h⟩
  · exact h.elim
theorem resOf_wp {m : Nat} {r : R Fl} {Q : D → Sto → Prop} {E : XW} (h : (resOf m r).wp Q E) : r.wp (fun f st => (∃ env, f = .next env ∧ Q .non st) ∨ ∃ d, f = .ret d ∧ Q d st) fun c ns xs st => E c ns xs (st.cut m) := by
  cases r with
  | stuck => exact h
  | exc c ns xs st => exact h
  | ok f st =>
    cases f with
    | next env => exact .inl ⟨env, rfl, h⟩
    | ret d => exact .inr ⟨d, rfl, h⟩
    | brk env => exact h.elim
    | cont env => exact h.elim
/-- a def of the table's -/
theorem fn_Q {N ps : List Str} {call : Ca} {bd : Ca → Ex} (F : FunD K x qual params body scope dvs kws f fd) (SC : FnScope N ps scope)
    (hb : ∀ (cdv : Value) (A : Around) (outer : List Env) (s : Shared) (H : Hp) (E : XK), fd.code = cdv → Cz (cxOf (L2.CX P w) P w K mg base N qual scope f cdv A outer s H E) k → PSsv (cxOf (L2.CX P w) P w K mg base N qual scope f cdv A outer s H E) body (bd call)) :
    FnX P w K mg base (k + 1) f fd ps (spx ⟨K, w⟩ (runD ⟨ps.length, N.length, bd⟩ call)) := by
  refine fn_X F SC (fun vs H Q E ⟨w1, ds, st, g, r, h⟩ => r.length.trans (runD_len h).1) fun cdv A outer s H vs Q E hcd cz ⟨w1, ds, st, g, r, h⟩ => ⟨_, hb cdv A outer s H E hcd cz, ?_⟩
  have h := resOf_wp (runD_len h).2
  refine ⟨w1, _, st, g, EnvR.start r N.length N rfl, R.wp_mono h (fun fl s2 h2 => ?_) fun c ns xs s2 h2 => ?_⟩
  · rcases h2 with ⟨env, rfl, h2⟩ | ⟨d, rfl, h2⟩
    · exact fun σ' w2 H2 e2 g2 _ => h2 .non w2 H2 e2 g2 .non
    · exact fun v w2 H2 e2 g2 d2 => h2 v w2 H2 e2 g2 d2
  · exact fun σ' dd vs2 w2 H2 _ e2 g2 fz hd hl2 dv => CW.of tk_def (h2 dd vs2 w2 H2 e2 (g2.cut _) fz hd hl2 dv)
theorem FnX.imp {ps : List Str} {sp sp' : Sp} (F : FnX P w K mg base k f fd ps sp) (h : ∀ vs H Q E, sp' vs H Q E → sp vs H Q E) : FnX P w K mg base k f fd ps sp' :=
  ⟨fun vs H Q E q => F.len vs H Q E (h vs H Q E q), fun A outer s H args us vs Q E hr hg he hb hv hs => F.run A outer s H args us vs Q E hr hg he hb hv (h vs H Q E hs)⟩
theorem FnX.none {ps : List Str} {sp : Sp} (h : ∀ vs H Q E, sp vs H Q E → False) : FnX P w K mg base k f fd ps sp := ⟨fun vs H Q E q => (h vs H Q E q).elim, fun A outer s H args us vs Q E _ _ _ _ _ q => (h vs H Q E q).elim⟩
theorem FnX.mono {ps : List Str} {sp : Sp} {j : Nat} (F : FnX P w K mg base j f fd ps sp) (h : j ≤ k) : FnX P w K mg base k f fd ps sp := ⟨F.len, fun A outer s H args us vs Q E hr => F.run A outer s H args us vs Q E (hr.mono h)⟩
end
/-! ### raise -/
/-- a class whose __init__(self, x) says super().__init__(x) and keeps x -/
structure SupCls (P : Program) (w : World) (K : PySem.W.Frag) (mg : Str → Option Value) (base : Heap) (k : Nat) (c x : Str) (fI : Addr) (fd : FuncData) : Prop where
  at_ : mg c = some (.ref (He.ga K c))
  oex : OexC K (He.ga K c)
  ini : PySem.W.findIn K (.ref (He.ga K c)) "__init__" = some (some (.ref fI))
  typ : PySem.W.typeIn K (.ref fI) = some (.type "function")
  fn : FnOk P w K mg base CX0 k fI fd ["self", x] (spSup1 K (He.ga K c) x)
  bind : Binds K fd ["self", x] []
section
variable {X : Cx} {k : Nat} {fI : Addr} {fd : FuncData} {pos pos' p : Pos} {c x : Str} {e : Expr} {xe : Ev D}
theorem psv_raise (C : SupCls X.prog X.w X.K X.mg X.base k c x fI fd) (cz : Cz X (k + 1)) (he : PEv X e xe) (hg : Gl X c := by rfl) (hs : isStar e = false := by rfl) (hd : (c == ("__debug__" : Str)) = false := by decide) :
    PSv X (.Raise (some (.Call (.Name c p) [e] [] pos)) none pos') (sRaise c [x] (xCons xe xNil)) :=
  ps_weak (ps_raise cz.calm cw_takes (pmk_oex (dvs := []) (ds := []) C.oex C.ini C.typ C.fn cz.room C.bind .nil pass0 hg C.at_ (pav_cons he pav_nil hs).pa hd (star_cons hs) rfl)) fun E σ H ⟨w, env, st, g, r, h⟩ => by
    unfold sRaise at h
    rw [R.wp_bind] at h
    refine ⟨w, env, st, g, r, ?_⟩
    cases q : xCons xe xNil env st with
    | stuck => rw [q] at h; exact h.elim
    | exc c ns xs s1 =>
      rw [q] at h
      exact (show FX (kx X) (CW X) w H Tr c ns xs s1 from h).sub fun _ _ => trivial
    | ok ds s1 =>
      rw [q] at h
      have h1 : FX (kx X) (CW X) w H Tr c [x] ds s1 := h
      have hl := len_cons (xa := xe) len_nil _ _ _ _ q
      intro vs w1 H1 e1 g1 d1
      match ds, hl, d1 with
      | [d], _, .cons (v := y) dy .nil =>
        refine ⟨by show 1 ≤ 1000; decide, fun a na => ⟨a, y, rfl, upd_same, fun dx hdx hne => ⟨rfl, dx, [(x, y)], upd_same, by rw [upd_ne hne, upd_same], ?_, ?_⟩⟩⟩
        · rw [upd_ne hne] at hdx
          exact hdx
        · rw [upd_ne hne] at hdx
          have eh : upd (del (upd (upd (upd H1 a (exo a (He.ga X.K c) none)) dx (exd dx [(x, y)])) a (exo a (He.ga X.K c) (some dx))) a) dx (.xd [(x, y)]) = upd H1 dx (.xd [(x, y)]) := by
            funext b
            by_cases hb : b = dx
            · rw [hb, upd_same, upd_same]
            · rw [upd_ne hb, upd_ne hb]
              by_cases ha : b = a
              · rw [ha, del_same, na]
              · rw [del_ne ha, upd_ne ha, upd_ne hb, upd_ne ha]
          rw [eh]
          have ef : Ext w1 H1 (w1.frz dx) (upd H1 dx (.xd [(x, y)])) := Ext.frz g1 hdx
          exact h1 σ dx [y] (w1.frz dx) _ trivial (e1.trans ef) (g1.frz hdx) (.inr rfl) upd_same rfl (.cons (dy.le ef.toLe) .nil)
end
end Qv
end
section
set_option Elab.async false
set_option autoImplicit false
set_option linter.all false
set_option maxRecDepth 100000
set_option maxHeartbeats 2000000
/-! Qv: instances: their making, their fields, their methods. -/
namespace Qv
open PySem L2 PySem.Spec PyProof.Rows
theorem putF_zip {f : Str} {y : V} : ∀ {ns : List Str} {vs : List V}, ns.length = vs.length → putF f y (ns.zip vs) = (addN f ns).zip (putL f y ns vs)
  | [], [], _ => rfl
  | n :: ns, v :: vs, hl => by
    show (if n = f then (n, y) :: ns.zip vs else (n, v) :: putF f y (ns.zip vs)) = (addN f (n :: ns)).zip (putL f y (n :: ns) (v :: vs))
    unfold addN putL
    by_cases h : n = f
    · rw [if_pos h, if_pos h, if_pos h]; rfl
    · rw [if_neg h, if_neg h, if_neg h, putF_zip (by simpa using hl)]; rfl
  | [], _ :: _, hl => by cases hl
  | _ :: _, [], hl => by cases hl
theorem putL_len {α : Type} {f : Str} {y : α} : ∀ {ns : List Str} {vs : List α}, ns.length = vs.length → (addN f ns).length = (putL f y ns vs).length
  | [], [], _ => rfl
  | n :: ns, v :: vs, hl => by
    unfold addN putL
    by_cases h : n = f
    · rw [if_pos h, if_pos h]; exact hl
    · rw [if_neg h, if_neg h, List.length_cons, List.length_cons, putL_len (by simpa using hl)]
  | [], _ :: _, hl => by cases hl
  | _ :: _, [], hl => by cases hl
section
variable {K : Kx} {w : Wd} {H : Hp}
theorem Dvs.putL {f : Str} {v : V} {d : D} (h : Dv K w H v d) : ∀ {ns : List Str} {vs : List V} {ds : List D}, Dvs K w H vs ds → Dvs K w H (Qv.putL f v ns vs) (Qv.putL f d ns ds)
  | [], _, _, .nil => .cons h .nil
  | [], _, _, .cons _ _ => .cons h .nil
  | _ :: _, _, _, .nil => .cons h .nil
  | n :: ns, _, _, .cons a r => by
    unfold Qv.putL
    by_cases hn : n = f
    · rw [if_pos hn, if_pos hn]; exact .cons h r
    · rw [if_neg hn, if_neg hn]; exact .cons a (Dvs.putL h r)
end
theorem wp_okd {α : Type} {r : R α} {Q : α → Sto → Prop} {E : XW} {a : α} {st : Sto} (h : r.wp Q E) (e : r = .ok a st) : Q a st := by rw [e] at h; exact h
section
variable {X : Cx} {pos p p' : Pos} {x f c : Str} {e o : Expr} {xe xo : Ev D}
/-- o.f = e -/
theorem psv_fset {kn ki : List Str} (F : FldF X.K f kn ki) (ho : PEv X o xo) (he : PEv X e xe) (hs : swapsWith e (some (.Attribute o f p')) pos.line X.env = pure false := by rfl) : PSv X (.Assign [.Attribute o f p'] e pos) (sFset ki f xo xe) :=
  ps_weak (ps_fld ho he hs) fun E σ H ⟨w, env, st, g, r, h⟩ => by
    unfold sFset at h
    rw [R.wp_bind] at h
    refine tEv_st _ g r h fun d s1 y w1 H1 h1 e1 g1 d1 => ?_
    rw [R.wp_bind] at h1
    refine tEv_stn _ e1 g1 r h1 fun d2 s2 v2 w2 H2 h2 e2 g2 dv2 => ?_
    obtain ⟨st', q, h2⟩ := may_wp h2
    unfold fsetD at q
    split at q
    · rename_i k
      split at q
      · rename_i c' ns ds es
        split at q
        · rename_i hc
          obtain ⟨hk, hz⟩ := hc
          cases q
          cases dv2 with
          | @mrf _ a ha =>
            obtain ⟨nf, dx, vs, hH, hl, rr⟩ := g2.at es ha
            obtain ⟨hC, hn⟩ := F.ob c' hk
            have hlv : ns.length = vs.length := by rw [rr.length]; exact hl
            refine ⟨a, _, dx, _, rfl, hH, hC, hn, by rw [List.length_zip]; omega, ?_⟩
            rw [putF_zip hlv]
            have ed : Ext w2 H2 w2 (upd H2 a (.ins (He.ga X.K c') dx ((addN f ns).zip (putL f y ns vs)))) := Ext.put g2 (List.mem_of_getElem? ha) nf
            have e12 := (e1.trans e2).trans ed
            exact h2 σ w2 _ e12 (g2.put ha nf ⟨dx, _, upd_same, putL_len hl, (Dvs.putL (d1.le e2.toLe) rr).le ed.toLe⟩) (r.le e12.toLe)
        · cases q
      · cases q
    · cases q
theorem lkF_at {K : Kx} {w : Wd} {H : Hp} {f : Str} {v : V} {d d' : D} : ∀ {ns : List Str} {vs : List V} {ds : List D}, Dvs K w H vs ds → lkF f ns ds = some d' → (∀ u, Dv K w H u d' → ∃ v, u = v ∧ Dv K w H v d) → Dvs K w H vs (putL f d ns ds)
  | [], _, _, _, e, _ => by cases e
  | _ :: _, _, [], _, e, _ => by cases e
  | n :: ns, v :: vs, d0 :: ds, .cons a r, e, k => by
    have e : (if f = n then some d0 else lkF f ns ds) = some d' := e
    unfold putL
    by_cases h : f = n
    · rw [if_pos h] at e
      cases e
      rw [if_pos h.symm]
      obtain ⟨v', rfl, dv⟩ := k _ a
      exact .cons dv r
    · rw [if_neg h] at e
      rw [if_neg (Ne.symm h)]
      exact .cons a (lkF_at (v := v) r e k)
theorem addN_has {f : Str} {d : D} : ∀ {ns : List Str} {ds : List D}, lkF f ns ds = some d → (putL f d ns ds).length = ds.length ∧ ∀ y : D, (putL f y ns ds).length = ds.length
  | [], _, e => by cases e
  | _ :: _, [], e => by cases e
  | n :: ns, d0 :: ds, e => by
    have e : (if f = n then some d0 else lkF f ns ds) = some d := e
    have k : ∀ y : D, (putL f y (n :: ns) (d0 :: ds)).length = (d0 :: ds).length := fun y => by
      unfold putL
      by_cases h : f = n
      · rw [if_pos h.symm]; rfl
      · rw [if_neg (Ne.symm h)]
        rw [if_neg h] at e
        rw [List.length_cons, (addN_has e).2 y]; rfl
    exact ⟨k d, k⟩
theorem pssv_frzF {sts : List Stmt} {ss : Ex} (i : Nat) (f : Str) (h : PSsv X sts ss) : PSsv X sts (sCons (sFrzF i f) ss) := pss_weak h fun E σ H ⟨w, env, st, g, r, h⟩ => by
  unfold sCons sFrzF at h
  rw [R.wp_bind] at h
  obtain ⟨st', q, h⟩ := may_wp h
  unfold frzF at q
  split at q
  · rename_i k ek
    split at q
    · rename_i c ns ds eo
      split at q
      · rename_i j ej
        split at q
        · cases q
        · rename_i hjk
          obtain ⟨d, qd, rfl⟩ := map_some q
          obtain ⟨a, ha1, ha2⟩ := r.get_mrf ek
          obtain ⟨nf, dx, vs, hH, hl, rr⟩ := g.at eo ha2
          obtain ⟨u, hu, du⟩ := lk_zip rr ej
          cases du with
          | @mrf _ b hb =>
            have e1 : Ext w H (w.frz b) H := Ext.set (List.mem_of_getElem? hb)
            have g1 : Good (kx X) (w.frz b) H (st.del j) := g.set hb
            have dv : Dv (kx X) (w.frz b) H (.ref b) d := still_ok g hb qd
            have rr1 : Dvs (kx X) (w.frz b) H vs (putL f d ns ds) := lkF_at (v := .ref b) (rr.le e1.toLe) ej fun u hu => by
              cases hu with
              | mrf hb' =>
                have hb'' : w.th[j]? = some _ := hb'
                rw [hb] at hb''
                cases hb''
                exact ⟨_, rfl, dv⟩
            have nab : a ≠ b := g.uniq ha2 hb (fun z => hjk z.symm)
            have nf1 : ¬ (w.frz b).fz a := fun z => by
              rcases z with z | z
              · exact nf z
              · exact nab z
            have g2 : Good (kx X) (w.frz b) H ((st.del j).set k (.obj c ns (putL f d ns ds))) := by
              refine ⟨g1.len, g1.nd, g1.thIn, g1.fzIn, fun k' m hm => ?_, g1.tab, g1.tabs⟩
              rcases Sto.mem_pt hm with ⟨h1, h2, _⟩ | ⟨h1, h2⟩
              · subst h1 h2
                exact ⟨a, ha2, nf1, dx, vs, hH, by rw [(addN_has ej).2]; exact hl, rr1⟩
              · exact g1.ob k' m h2
            exact ⟨w.frz b, env, _, g2, r.le e1.toLe, wp_out e1 h⟩
      · cases q
    · cases q
  · cases q
end
/-! ### making an instance -/
section
variable {X : Cx} {C fI : Addr} {k n : Nat} {fd : FuncData} {ps ks : List Str} {sel : List Nat} {sp : Sp} {pos p : Pos} {x c : Str} {es : List Expr} {kws : List Keyword} {xs : Ev (List D)}
theorem pe_makeX (M : Mk X.K C fI) (F : FnX X.prog X.w X.K X.mg X.base k fI fd ps sp) (cz : Cz X (k + 1)) (hm : X.mg x = some (.ref C)) (hb : BindS X.K fd ps (n + 1) ks sel) (ha : PCa X pos es kws n ks xs) (hg : Gl X x) (hd : (x == ("__debug__" : Str)) = false) :
    PE X (.Call (.Name x p) es kws pos) (fun σ H Q => tEvs (kx X) (CW X) xs σ H fun vs H1 => ∀ a dx, H1 a = none → H1 dx = none → dx ≠ a → sp (pickN (.ref a :: vs) sel) (upd (upd H1 dx (.own a)) a (.ins C dx [])) (fun v H2 => v = .non ∧ Q (.ref a) H2) (WE (CW X) σ)) := by
  constructor
  intro pins s σ H Q I h
  apply wpAny_Call_Name_kw
  apply ld_glob I hg hm (hd := hd)
  refine ha.run (first := []) pins s σ H M.kp I h fun us ws vs H1 s1 I1 r l1 l2 q => ?_
  have hq := q (s1.heap.objs.size + 1) s1.heap.objs.size (I1.hok.fresh (Nat.le_succ _)) (I1.hok.fresh (Nat.le_refl _)) (Nat.ne_of_lt (Nat.lt_succ_self _))
  have J := L2.Inv.made (C := C) I1
  have r2 : Vals (V.ref (s1.heap.objs.size + 1) :: vs) ((Value.ref (s1.heap.objs.size + 1) :: us) ++ ws) := .cons rfl r
  apply wpAny_call
  apply make_map (f := fI) I1.kIn M.makes M.init (beq_iff_eq.mp M.fn)
  refine codeAny_mono (F.run _ X.stack _ _ ⟨Value.ref (s1.heap.objs.size + 1) :: us, ks.zip ws⟩ _ _ _ (WE (CW X) σ) (cz.room.make C us (ks.zip ws)) cz.grd (J.env0.make C us (ks.zip ws)) (hb _ (Value.ref (s1.heap.objs.size + 1) :: us) ws J.kIn (congrArg (· + 1) l1) l2) (Vals.pickN r2 sel) hq) fun r s' hr => ?_
  cases r with
  | error u => exact passAt cw_takes σ _ _ _ u s' J hr
  | ok fl =>
    cases fl with
    | ret u =>
      obtain ⟨v, H', I3, rv', ev, q3⟩ := J.after hr
      subst ev
      exact ⟨rv', V.ref (s1.heap.objs.size + 1), H', I3, rfl, q3⟩
    | next => exact hr.elim
    | brk => exact hr.elim
    | cont => exact hr.elim
theorem mkR_read {K : Kx} {call : Ca} {fn : Nat} {w w1 : Wd} {H H1 : Hp} {s1 : Sto} {ds : List D} {vs : List V} {Q : D → Sto → Prop} {E : XK} {E0 : XW} (g1 : Good K w1 H1 s1) (d1 : Dvs K w1 H1 vs ds) (e1 : Ext w H w1 H1) (h : (mkR call c fn sel ds s1).wp Q E0)
    (hE : ∀ c ns xs st, E0 c ns xs st → EX K w H E c ns xs st) {a dx : Addr} (na : H1 a = none) (ndx : H1 dx = none) (hne : dx ≠ a) {Q' : VK} (k : ∀ s2 v w2 H2, Q (.mrf s1.n) s2 → Ext w1 H1 w2 H2 → Good K w2 H2 s2 → w2.th[s1.n]? = some a → Q' v H2) :
    spx K (call fn) (pickN (.ref a :: vs) sel) (upd (upd H1 dx (.own a)) a (.ins (He.ga K.K c) dx [])) (fun v H2 => v = .non ∧ Q' v H2) E := by
  have gA : Good K w1 (upd H1 dx (.own a)) s1 := g1.upd (g1.no_fz ndx) (g1.no_th ndx) (g1.no_tb ndx)
  have eA : Ext w1 H1 w1 (upd H1 dx (.own a)) := (Ext.refl w1 H1).beside ndx
  have naA : upd H1 dx (.own a) a = none := by rw [upd_ne (Ne.symm hne)]; exact na
  have gB : Good K (w1.more a) (upd (upd H1 dx (.own a)) a (.ins (He.ga K.K c) dx [])) (s1.new (.obj c [] [])) := gA.more naA ⟨dx, [], upd_same, rfl, .nil⟩
  have eB : Ext w1 (upd H1 dx (.own a)) (w1.more a) (upd (upd H1 dx (.own a)) a (.ins (He.ga K.K c) dx [])) := Ext.more gA naA
  have eAB := eA.trans eB
  have hk : (w1.more a).th[s1.n]? = some a := Wd.more_at g1 a
  have dd : Dvs K (w1.more a) (upd (upd H1 dx (.own a)) a (.ins (He.ga K.K c) dx [])) (.ref a :: vs) (.mrf s1.n :: ds) := .cons (.mrf hk) (d1.le eAB.toLe)
  refine ⟨w1.more a, _, s1.new (.obj c [] []), gB, dd.pickN sel, ?_⟩
  unfold mkR at h
  cases q : call fn (pickN (.mrf s1.n :: ds) sel) (s1.new (.obj c [] [])) with
  | stuck => rw [q] at h; exact h.elim
  | exc c2 ns2 xs2 s2 =>
    rw [q] at h
    have h2 := EX.ext (e1.trans eAB) (hE _ _ _ _ h)
    exact fun dd2 vs2 w2 H2 e2 g2 => h2 dd2 vs2 w2 H2 e2 (g2.cut _)
  | ok d s2 =>
    rw [q] at h
    cases d with
    | non =>
      intro v w2 H2 e2 g2 dv
      cases dv
      exact ⟨rfl, k s2 _ w2 H2 h (eAB.trans e2) g2 (e2.th _ _ hk)⟩
    | _ => exact h.elim
/-- C(..), kept in the store -/
theorem pev_mkM (fn : Nat) {call : Ca} (M : Mk X.K (He.ga X.K c) fI) (F : FnX X.prog X.w X.K X.mg X.base k fI fd ps (spx (kx X) (call fn))) (cz : Cz X (k + 1)) (hm : X.mg c = some (.ref (He.ga X.K c))) (hb : BindS X.K fd ps (n + 1) ks sel) (ha : PCa X pos es kws n ks xs) (hg : Gl X c := by rfl) (hd : (c == ("__debug__" : Str)) = false := by decide) :
    PEv X (.Call (.Name c p) es kws pos) (xMkM call c fn sel xs) := pe_weak (pe_makeX M F cz hm hb ha hg hd) fun σ H Q ⟨w, env, st, g, r, h⟩ => by
  unfold xMkM at h
  rw [R.wp_bind] at h
  refine ⟨w, env, st, g, r, R.wp_mono h (fun ds s1 h1 vs w1 H1 e1 g1 d1 a dx na ndx hne => ?_) fun _ _ _ _ h => h⟩
  exact mkR_read (Q' := fun _ H2 => Q (.ref a) H2) g1 d1 e1 h1 (fun _ _ _ _ h => h.ex) na ndx hne fun s2 v w2 H2 h2 e2 g2 hk => h2 (.ref a) w2 H2 (e1.trans e2) g2 (.mrf hk)
/-- C(..), changed no more -/
theorem pev_mk (fn : Nat) {call : Ca} (M : Mk X.K (He.ga X.K c) fI) (F : FnX X.prog X.w X.K X.mg X.base k fI fd ps (spx (kx X) (call fn))) (cz : Cz X (k + 1)) (hm : X.mg c = some (.ref (He.ga X.K c))) (hb : BindS X.K fd ps (n + 1) ks sel) (ha : PCa X pos es kws n ks xs) (hg : Gl X c := by rfl) (hd : (c == ("__debug__" : Str)) = false := by decide) :
    PEv X (.Call (.Name c p) es kws pos) (xMk call c fn sel xs) := pe_weak (pe_makeX M F cz hm hb ha hg hd) fun σ H Q ⟨w, env, st, g, r, h⟩ => by
  unfold xMk at h
  rw [R.wp_bind] at h
  refine ⟨w, env, st, g, r, R.wp_mono h (fun ds s1 h1 vs w1 H1 e1 g1 d1 a dx na ndx hne => ?_) fun _ _ _ _ h => h⟩
  rw [R.wp_bind] at h1
  refine mkR_read (Q' := fun _ H2 => Q (.ref a) H2) g1 d1 e1 h1 (fun _ _ _ _ h => h.ex) na ndx hne fun s2 v w2 H2 h2 e2 g2 hk => ?_
  obtain ⟨pr, hp, h3⟩ := may_wp (show (may (madeD s2 s1.n) fun p => R.ok p.1 p.2).wp (Fin (kx X) w H Q) (FX (kx X) (CW X) w H (· = σ)) from h2)
  unfold madeD at hp
  split at hp
  · rename_i c2 ns2 ds2 qs
    cases hp
    obtain ⟨nf, dx2, us, hH, hl, rr⟩ := g2.at qs hk
    have ef : Ext w2 H2 (w2.frz a) H2 := Ext.set (List.mem_of_getElem? hk)
    exact (show Fin (kx X) w H Q (.ins c2 ns2 ds2) (s2.del s1.n) from h3) (.ref a) (w2.frz a) H2 ((e1.trans e2).trans ef) (g2.set hk) (.ins (.inr rfl) hH hl (rr.le ef.toLe))
  · cases hp
end
/-! ### methods -/
/-- the defs of a method's name, by class -/
structure MethF (P : Program) (w : World) (K : PySem.W.Frag) (mg : Str → Option Value) (base : Heap) (call : Ca) (k : Nat) (m : Str) (n : Nat) (ks : List Str) (tbl : List (Str × Nat × List Nat)) : Prop where
  at_ : ∀ c p, lkM c tbl = some p → ∃ f fd ps, Cls K (He.ga K c) ∧ Meth K (He.ga K c) m f ∧ FnX P w K mg base k f fd ps (spx ⟨K, w⟩ (call p.1)) ∧ BindS K fd ps (n + 1) ks p.2
theorem zip_none {f : Str} : ∀ {ns : List Str} {vs : List V}, f ∉ ns → (ns.zip vs).lookup f = none
  | [], _, _ => rfl
  | _ :: _, [], _ => rfl
  | n :: ns, v :: vs, h => by
    rw [List.zip_cons_cons, List.lookup_cons]
    have : (f == n) = false := by simpa using fun z : f = n => h (by rw [z]; exact List.mem_cons_self)
    rw [this]
    exact zip_none fun z => h (List.mem_cons_of_mem _ z)
theorem cls_ins {K : Kx} {w : Wd} {H : Hp} {st : Sto} (g : Good K w H st) {v : V} {d : D} (h : Dv K w H v d) {c : Str} {ns : List Str} (e : clsD st d = some (c, ns)) : ∃ a dx vs, v = .ref a ∧ H a = some (.ins (He.ga K.K c) dx (ns.zip vs)) := by
  cases h with
  | ins f o l r => cases e; exact ⟨_, _, _, rfl, o⟩
  | @mrf k _ o =>
    have e : (match st.get k with | some (.obj c ns _) => some (c, ns) | _ => none) = some (c, ns) := e
    split at e
    · rename_i c' ns' ds q
      cases e
      obtain ⟨_, dx, vs, h3, _⟩ := g.at q o
      exact ⟨_, _, _, rfl, h3⟩
    · cases e
  | _ => cases e
section
variable {X : Cx} {k n : Nat} {ks : List Str} {pos apos : Pos} {m : Str} {o : Expr} {es : List Expr} {kws : List Keyword} {xo : Ev D} {xs : Ev (List D)}
theorem pev_meth {pl : Sem Bool} {call : Ca} {tbl : List (Str × Nat × List Nat)} (F : MethF X.prog X.w X.K X.mg X.base call k m n ks tbl) (cz : Cz X k) (ho : PEv X o xo) (ha : PCa X pos es kws n ks xs)
    (ht : eval (.Call (.Attribute o m apos) es kws pos) X.env = (do
      let ov ← eval o X.env
      standAt apos.atName
      let (f, first) ← holding [ov] (getMethod ov m pl)
      callWith pos f first (backTo pos (starEach es X.env)) (backToKw pos (keywordEach kws X.env))) := by rfl) : PEv X (.Call (.Attribute o m apos) es kws pos) (xMeth call m tbl xo xs) := by
  constructor
  intro pins s σ H Q I ⟨w, env, st, g, r, h⟩
  unfold xMeth at h
  rw [R.wp_bind] at h
  refine PySem.W.methodCall_KW (pl := pl) (thn (ho.run pins s σ H (fun v H1 => ∃ d s1 w1, (may (clsD s1 d) fun cn => must (m ∉ cn.2) (may (lkM cn.1 tbl) fun p => (xs env s1).bind fun ds st => call p.1 (pickN (d :: ds) p.2) st)).wp (Fin (kx X) w H Q) (FX (kx X) (CW X) w H (· = σ)) ∧ Ext w H w1 H1 ∧ Good (kx X) w1 H1 s1 ∧ Dv (kx X) w1 H1 v d) I
    (tEv_mono _ g r h fun d s1 v w1 H1 h1 e1 g1 d1 => ⟨d, s1, w1, h1, e1, g1, d1⟩)) fun u s1 hu => ?_) ht
  obtain ⟨v, H1, I1, rx, d, st1, w1, h1, e1, g1, d1⟩ := hu
  obtain ⟨cn, qc, h1⟩ := may_wp h1
  obtain ⟨hm, h1⟩ := must_wp h1
  obtain ⟨p, qp, h1⟩ := may_wp h1
  obtain ⟨a, dx, vs0, rfl, hH⟩ := cls_ins g1 d1 (show clsD st1 d = some (cn.1, cn.2) from qc)
  obtain ⟨f, fd, ps, hC, hM, hF, hB⟩ := F.at_ _ _ qp
  obtain rfl : u = Value.ref a := rx
  refine getmeth_ok I1 hH hC hM (zip_none hm) ?_
  rw [R.wp_bind] at h1
  refine ha.run (first := [.ref a]) (R := fun vs H2 => spx (kx X) (call p.1) (pickN (.ref a :: vs) p.2) H2 Q (WE (CW X) σ)) pins s1 σ H1 hM.kp I1 ⟨w1, env, st1, g1, r.le e1.toLe, R.wp_mono h1 (fun ds s2 h2 vs w2 H2 e2 g2 d2 => ?_) fun _ _ _ _ h => h.ext e1⟩ fun us ws vs H2 s2 I2 r2 l1 l2 q => ?_
  · have e12 := e1.trans e2
    have dd : Dvs (kx X) w2 H2 (.ref a :: vs) (d :: ds) := .cons (d1.le e2.toLe) d2
    exact ⟨w2, _, s2, g2, dd.pickN p.2, R.wp_mono h2 (fun _ _ h => Fin.ext e12 h) fun _ _ _ _ h => h.ex.ext e12⟩
  · exact run_X hF cz hB (us := .ref a :: us) (vs := .ref a :: vs) I2 (.cons rfl r2) (congrArg (· + 1) l1) l2 q
end
end Qv
end
section
set_option Elab.async false
set_option autoImplicit false
set_option linter.all false
set_option maxRecDepth 100000
set_option maxHeartbeats 2000000
/-! Qv: ==, !=, len, truth of instances by their classes' own defs. -/
namespace Qv
open PySem L2 PySem.Spec PyProof.Rows
/-! ### the library's level -/
section
open PySem.W PySem.Calls Builtin
variable {prog : Program} {w : World} {A : Around} {E : Value → Shared → Prop} {s : Shared} {K : Frag} {x C L f : Addr} {h₀ : Heap} {m : Str → Option Value} {ox : Obj} {od : Option Obj} {b tb : Value}
theorem ne_bind (self : Value) : bindSpecial (.builtin "object.__ne__") self = pure (.builtin "object.__ne__", [self]) :=
  (Slot.of (T := "object") (name := "__ne__") (owner := "object") (n := "__ne__") (by rw [typeLookup_type, builtinLookup_eq_fast]; kernel_rfl) (by decide +kernel) (by decide +kernel) (by decide +kernel)
    (.inl (by decide +kernel)) (by rw [isSubtype_type]; kernel_rfl)).bind self
theorem ne_plain : builtinKind "object.__ne__" = some .slot := by decide +kernel
theorem ifBound_ne {M : Model} {args : List Value} {Q : Option Value → Shared → Prop} (X : K.In s.heap) (I : InstAt s.heap x ox C od) (hs : findIn K (.ref C) "__ne__" = some (some (.builtin "object.__ne__")))
    (h : wpAny M A (call (.builtin "object.__ne__") (.ref x :: args)) (fun v => Q (some v)) E s) : wpAny M A (callSpecialIfBound? (.ref x) "__ne__" args) Q E s := by
  simp only [callSpecialIfBound?, bindSpecialIfBound?]
  refine wpAny_holding (wpAny_bind (wpAny_bind (wpAny_bind (I.type.here ((looks_findIn X hs).here ?_)))))
  have fin : wpAny M A (call (.builtin "object.__ne__") ([.ref x] ++ args) >>= fun v => pure (some v)) Q E s := wpAny_bind (wpAny_mono h (fun v s' h' => wpAny_pure h') fun _ _ h' => h')
  simp only [ne_bind]
  refine wpAny_bind (wpAny_askSetting (wpAny_ite ?_))
  split
  · exact wpAny_bind (wpAny_pure (wpAny_pure fin))
  · exact wpAny_tryCatch (wpAny_bind (wpAny_pure (wpAny_pure fin)))
theorem ne_body {Q : PySem.Fin → Shared → Prop} (X : K.In s.heap) (I : InstAt s.heap x ox C od) (hu : A.units < cLine) (hs : findIn K (.ref C) "__eq__" = some (some (.ref f))) (hf : isFn K (.ref f) = true)
    (h : wpAny (model prog w) A (call (.ref f) [.ref x, b]) (fun v s' => ∃ r, v = .bool r ∧ Q (.done (.ret (.bool (!r)))) s') E s) : wpAny (model prog w) A (Builtin.«object.__ne__» ⟨[.ref x, b], []⟩) Q E s := by
  unfold Builtin.«object.__ne__»
  refine wpAny_bind (wpAny_pure ?_)
  refine wpAny_bind (wpAny_cRoomFor hu ?_)
  refine wpAny_bind (m := callSpecialIfBound? (.ref x) (Str.ofString "__eq__") [b]) (ifBound_K X I hs hf (wpAny_mono h (fun r s' hr => ?_) fun _ _ e => e))
  obtain ⟨r, rfl, hq⟩ := hr
  exact wpAny_bind (wpAny_truthy_bool (wpAny_pure hq))
theorem ne_K {Q : Value → Shared → Prop} (hu : A.units + 1 < cLine) (F : Fr h₀ L s.heap m) (X₀ : K.In h₀) (I : InstAt s.heap x ox C od) (hb : Looks (model prog w) s.heap (typeOf b) tb) (hn : notFirst K C tb = true)
    (hne : findIn K (.ref C) "__ne__" = some (some (.builtin "object.__ne__"))) (hs : findIn K (.ref C) "__eq__" = some (some (.ref f))) (hf : isFn K (.ref f) = true) (ho : mroIn K C (.type "object") = some true)
    (h : wpAny (model prog w) A.in1 (call (.ref f) [.ref x, b]) (fun v s' => ∃ r, v = .bool r ∧ Q (.bool (!r)) s') E s) : wpAny (model prog w) A (richCompare .NotEq (.ref x) b) Q E s := by
  have X := X₀.keeps F.keep
  have hi : Looks (model prog w) s.heap (isInstance (.ref x) (.type "object")) true := I.type.andThen (looks_mroIn X ho)
  have one : wpAny (model prog w) A (tryCompare (.ref x) "__ne__" b) (fun r s' => ∃ v, r = some v ∧ Q v s') E s := by
    unfold tryCompare
    refine wpAny_bind (m := callSpecialIfBound? (.ref x) "__ne__" [b]) (ifBound_ne X I hne (wpAny_call (codeAny_call_builtin (by decide +kernel) PySem.F.cmpEntry_ne (check_slot PySem.F.cmpKind_ne PySem.F.cmpSplit_ne hi (PySem.F.cmpArgs_ne _ _) (ne_body X I (by simpa using hu) hs hf (wpAny_mono h (fun v s' hv => ?_) fun _ _ e => e))))))
    obtain ⟨r, rfl, hq⟩ := hv
    exact ⟨r, rfl, wpAny_pure ⟨_, rfl, hq⟩⟩
  unfold richCompare
  simp only [oneThing_ref]
  refine wpAny_holding (wpAny_bind (wpAny_cRoomFor (Nat.lt_of_succ_lt hu) ?_))
  refine wpAny_bind (I.type.here (wpAny_bind (hb.here ?_)))
  split
  · rename_i q
    have e : subIn K tb (.ref C) = some false := by
      rcases Bool.or_eq_true_iff.mp hn with e | e
      · rw [beq_iff_eq.mp e] at q; simp at q
      · exact beq_iff_eq.mp e
    refine wpAny_bind ((looks_subIn X e).here ?_)
    simp only [Bool.false_eq_true, if_false]
    refine wpAny_bind (wpAny_mono one (fun r s' z => ?_) fun _ _ e => e)
    obtain ⟨v, rfl, hq⟩ := z
    exact wpAny_pure hq
  · refine wpAny_bind (wpAny_pure ?_)
    simp only [Bool.false_eq_true, if_false]
    refine wpAny_bind (wpAny_mono one (fun r s' z => ?_) fun _ _ e => e)
    obtain ⟨v, rfl, hq⟩ := z
    exact wpAny_pure hq
end
/-! ### over the layer -/
theorem looksQ {X : Cx} {pins : List (Addr × Obj)} {σ : L2.St} {H : Hp} {s : Shared} {x : V} {u t : Value} (I : L2.Inv X pins σ H s) (rx : RelV x u) (ty : TyQ X.K H x t) : PySem.W.Looks (model X.prog X.w) s.heap (typeOf u) t := by
  have ld : ∀ {a : Addr} {o : Obj} {t : Value}, s.heap.get? a = some o → o.cls = t → PySem.W.Looks (model X.prog X.w) s.heap (typeOf (.ref a)) t := fun h e => by
    subst e
    exact (PySem.W.Looks.ld h).andThen .now
  cases ty with
  | base h =>
    cases h with
    | base b =>
      cases b with
      | non => cases (show u = Value.none from rx); exact .of_pure rfl
      | bl y => cases (show u = Value.bool y from rx); exact .of_pure rfl
      | int i => obtain ⟨t, q⟩ := (show ∃ t, u = Value.int i t from rx); cases q; exact .of_pure rfl
      | str y => obtain ⟨t, q⟩ := (show ∃ t, u = Value.str y t from rx); cases q; exact .of_pure rfl
      | flt y => obtain ⟨t, q⟩ := (show ∃ t, u = Value.float y t from rx); cases q; exact .of_pure rfl
      | @lst a xs ea =>
        cases (show u = Value.ref a from rx)
        obtain ⟨_, _, n, _, h1⟩ := (show ObjOk X.prog X.w H s.heap a (.lst xs) from I.hok a _ ea)
        exact ld h1 rfl
      | @frz a ob xs ea =>
        cases (show u = Value.ref a from rx)
        obtain ⟨_, _, _, n, _, h1⟩ := (show ObjOk X.prog X.w H s.heap a (.frz ob (.lst xs)) from I.hok a _ ea)
        exact ld h1 rfl
      | @tup a xs ea =>
        cases (show u = Value.ref a from rx)
        obtain ⟨_, _, _, o, h1, h2, _⟩ := (show ObjOk X.prog X.w H s.heap a (.tup xs) from I.hok a _ ea)
        exact ld h1 h2
      | @dK a kvs ea =>
        cases (show u = Value.ref a from rx)
        obtain ⟨_, _, vs, _, o, es, ep, h1, h2, _⟩ := (show ObjOk X.prog X.w H s.heap a (.dK kvs) from I.hok a _ ea)
        exact ld h1 h2.1
      | @dT a kvs ea =>
        cases (show u = Value.ref a from rx)
        obtain ⟨_, _, xs, _, o, es, ep, h1, h2, _⟩ := (show ObjOk X.prog X.w H s.heap a (.dT kvs) from I.hok a _ ea)
        exact ld h1 h2.1
      | @ins a C dx fs ea cl ha hn htk hm =>
        cases (show u = Value.ref a from rx)
        obtain ⟨mA, O, _⟩ := ins_get I.hok ea
        obtain ⟨od, J, _⟩ := O.look
        exact J.type
    | byt y => obtain ⟨t, q⟩ := (show ∃ t, u = Value.bytes y t from rx); cases q; exact .of_pure rfl
    | @set a S n ea =>
      cases (show u = Value.ref a from rx)
      obtain ⟨o, _, _, _, e, ex, _⟩ := I.hok a _ ea
      exact ld e ex.1
    | @kList a o e c =>
      cases (show u = Value.ref a from rx)
      exact ld (I.kIn a o e) c
    | @kTuple a o e c =>
      cases (show u = Value.ref a from rx)
      exact ld (I.kIn a o e) c
    | @kDict a o e c =>
      cases (show u = Value.ref a from rx)
      exact ld (I.kIn a o e) c
    | @fTuple a ob xs ea =>
      cases (show u = Value.ref a from rx)
      obtain ⟨_, _, _, _, o, h1, h2, _⟩ := (show ObjOk X.prog X.w H s.heap a (.frz ob (.tup xs)) from I.hok a _ ea)
      exact ld h1 h2
    | @fDict a ob kvs ea =>
      cases (show u = Value.ref a from rx)
      obtain ⟨_, _, _, vs, _, o, es, ep, h1, h2, _⟩ := (show ObjOk X.prog X.w H s.heap a (.frz ob (.dK kvs)) from I.hok a _ ea)
      exact ld h1 h2.1
  | @dct a w nk xs ys e =>
    cases (show u = Value.ref a from rx)
    obtain ⟨⟨_, o, es, ep, h1, h2, _⟩, _⟩ := (show ObjOk X.prog X.w H s.heap a (dcq w a nk xs ys) from I.hok a _ e)
    exact ld h1 h2.1
  | @exn a D dd fs ea ed C =>
    cases (show u = Value.ref a from rx)
    obtain ⟨oe, od, mA, J, _⟩ := exq_inst I.hok ea ed
    exact J.type
/-- a special method's defs, by class -/
structure OwnF (P : Program) (w : World) (K : PySem.W.Frag) (mg : Str → Option Value) (base : Heap) (call : Ca) (k : Nat) (m : Str) (n : Nat) (tbl : List (Str × Nat × List Nat)) : Prop where
  at_ : ∀ c p, lkM c tbl = some p → ∃ f fd ps, PySem.W.findIn K (.ref (He.ga K c)) m = some (some (.ref f)) ∧ PySem.W.isFn K (.ref f) = true ∧ FnX P w K mg base k f fd ps (spx ⟨K, w⟩ (call p.1)) ∧ BindS K fd ps n [] p.2
/-- .. of == and != -/
structure EqF (P : Program) (w : World) (K : PySem.W.Frag) (mg : Str → Option Value) (base : Heap) (call : Ca) (k : Nat) (tbl : List (Str × Nat × List Nat)) (kn ki : List Str) : Prop where
  own : OwnF P w K mg base call k "__eq__" 2 tbl
  nk : Kn K kn ki
  bi : ∀ c p, lkM c tbl = some p → ∀ k : Kd, PySem.W.notFirst K (He.ga K c) (.type k.nm) = true
  is : ∀ c p, lkM c tbl = some p → ∀ c' ∈ kn ++ ki, PySem.W.notFirst K (He.ga K c) (.ref (He.ga K c')) = true
  ne : ∀ c p, lkM c tbl = some p → PySem.W.findIn K (.ref (He.ga K c)) "__ne__" = some (some (.builtin "object.__ne__")) ∧ PySem.W.mroIn K (He.ga K c) (.type "object") = some true
def rOfC (K : Kx) (g : Sto → D → D → R D) : R2 := fun x y H Q => ∃ w st da db, Good K w H st ∧ Dv K w H x da ∧ Dv K w H y db ∧ (g st da db).wp (Fin K w H Q) fun _ _ _ _ => False
section
variable {X : Cx} {k : Nat} {call : Ca} {tbl : List (Str × Nat × List Nat)} {kn ki : List Str} {pos p : Pos} {a b : Expr} {xa xb : Ev D}
theorem run_at {f : Addr} {fd : FuncData} {ps : List Str} {sp : Sp} {A : Around} {n : Nat} {sel : List Nat} (F : FnX X.prog X.w X.K X.mg X.base k f fd ps sp) (hr : Room k A) (hgd : A.guards = some []) (e0 : ∀ s H pins σ, L2.Inv X pins σ H s → Env0 X.prog X.w X.K X.mg X.base A X.stack s H) (hb : BindS X.K fd ps n [] sel) {pins : List (Addr × Obj)} {σ : L2.St} {H : Hp} {s : Shared} {Q : VK} {us : List Value} {vs : List V} (I : L2.Inv X pins σ H s) (r : Vals vs us)
    (h1 : us.length = n) (q : sp (pickN vs sel) H Q fun _ _ _ => False) : wpAny (model X.prog X.w) A (PySem.call (.ref f) us []) (EP X pins σ Q) X.xe s := by
  have r0 : Vals vs (us ++ []) := by rw [List.append_nil]; exact r
  refine wpAny_call (codeAny_mono (F.run A X.stack s H ⟨us, []⟩ (pickN (us ++ []) sel) (pickN vs sel) Q _ hr hgd (e0 s H pins σ I) (hb s us [] I.kIn h1 rfl) (Vals.pickN r0 sel) q) fun r s' hr => ?_)
  cases r with
  | error e => exact passAt (W := fun _ _ _ _ => False) (fun u s' ⟨a, B, sI, pins, σ, H, cls, d, _, _, _, _, _, _, _, _, q⟩ => q.elim) σ _ _ _ e s' I hr
  | ok fl =>
    cases fl with
    | ret u => exact I.after hr
    | next => exact hr.elim
    | brk => exact hr.elim
    | cont => exact hr.elim
theorem known_ty {K : Kx} (N : Kn K.K kn ki) {w : Wd} {H : Hp} {st : Sto} (g : Good K w H st) {v : V} {d : D} (h : Dv K w H v d) (e : (kdOf st d).isSome = true ∨ (instOf kn ki st d).isSome = true) :
    ∃ t, TyQ K.K H v t ∧ ((∃ k : Kd, t = .type k.nm) ∨ ∃ c ∈ kn ++ ki, t = .ref (He.ga K.K c)) := by
  rcases e with e | e
  · obtain ⟨kd, q⟩ := Option.isSome_iff_exists.mp e
    exact ⟨_, ty_plain g h q, .inl ⟨kd, rfl⟩⟩
  · obtain ⟨c, q⟩ := Option.isSome_iff_exists.mp e
    obtain ⟨hc, ty⟩ := ty_inst N g h q
    exact ⟨_, ty, .inr ⟨c, hc, rfl⟩⟩
theorem o_eqO (neg : Bool) {op : CmpOp} (hop : op = if neg then .NotEq else .Eq) (cz : Cz X (k + 1)) (F : EqF X.prog X.w X.K X.mg X.base call k tbl kn ki) : OpR X (compareOp op) (rOfC (kx X) (oEq call neg tbl kn ki)) := by
  intro pins s σ H x y v u Q I rx ry ⟨w, st, da, db, g, dx, dy, h⟩
  unfold oEq at h
  split at h
  · obtain ⟨r, q, h2⟩ := may_wp h
    cases neg with
    | false =>
      subst hop
      exact o_eq (by have := cz.u; omega) pins s σ H x y v u Q I rx ry ⟨w, st, da, db, .bl r, g, dx, dy, by unfold cmpD; rw [show cEq st da db = some r from q]; rfl, h2⟩
    | true =>
      subst hop
      exact o_ne (by have := cz.u; omega) pins s σ H x y v u Q I rx ry ⟨w, st, da, db, .bl r, g, dx, dy, by unfold cmpD; rw [show cNe st da db = some r from q]; rfl, h2⟩
  · rename_i cn qc
    obtain ⟨pp, qp, h⟩ := may_wp h
    obtain ⟨hkn, h⟩ := must_wp h
    rw [R.wp_bind] at h
    obtain ⟨a, dxa, vs0, rfl, hH⟩ := cls_ins g dx (show clsD st da = some (cn.1, cn.2) from qc)
    obtain ⟨f, fd, ps, hs, hf, hF, hB⟩ := F.own.at_ _ _ qp
    obtain ⟨t, ty, ht⟩ := known_ty (K := kx X) F.nk g dy hkn
    cases (show v = Value.ref a from rx)
    obtain ⟨mA, O, _⟩ := ins_get I.hok hH
    obtain ⟨od, J, _⟩ := O.look
    obtain ⟨m, hFr⟩ := I.fr
    have hl := looksQ I ry ty
    have hn : PySem.W.notFirst X.K (He.ga X.K cn.1) t = true := by
      rcases ht with ⟨kd, rfl⟩ | ⟨c', hc', rfl⟩
      · exact F.bi _ _ qp kd
      · exact F.is _ _ qp c' hc'
    have dd : Dvs (kx X) w H [V.ref a, y] [da, db] := .cons dx (.cons dy .nil)
    have sp : spx (kx X) (call pp.1) (pickN [V.ref a, y] pp.2) H (fun z H' => ∃ r : Bool, z = .bl r ∧ Q (.bl (if neg then !r else r)) H') fun _ _ _ => False := by
      refine ⟨w, _, st, g, dd.pickN pp.2, R.wp_mono h (fun d s2 h2 v2 w2 H2 e2 g2 d2 => ?_) fun _ _ _ _ z => z.elim⟩
      cases d with
      | bl r =>
        cases d2
        exact ⟨r, rfl, (show Fin (kx X) w H Q (.bl (if neg then !r else r)) s2 from h2) _ w2 H2 e2 g2 (.bl _)⟩
      | _ => exact h2.elim
    have rv : Vals [V.ref a, y] [Value.ref a, u] := .cons rfl (.cons ry .nil)
    cases neg with
    | false =>
      subst hop
      show wpAny _ _ (richCompare .Eq (.ref a) u) _ _ s
      refine PySem.W.cmp_K (op := .Eq) (tb := t) (by have := cz.u; omega) hFr I.ok.mod.kin J hl hn hs hf ?_
      refine wpAny_mono (run_at hF (cz.room.mono (Nat.le_succ k)) cz.grd (fun _ _ _ _ I => I.env0) hB I rv rfl sp) (fun v s' z => ?_) fun _ _ x => x
      obtain ⟨z', H', I', rz, r, rfl, qz⟩ := z
      cases rz
      exact ⟨.bl r, H', I', rfl, qz⟩
    | true =>
      subst hop
      obtain ⟨h1, h2⟩ := F.ne _ _ qp
      show wpAny _ _ (richCompare .NotEq (.ref a) u) _ _ s
      refine ne_K (by have := cz.u; omega) hFr I.ok.mod.kin J hl hn h1 hs hf h2 ?_
      refine wpAny_mono (run_at hF cz.room.in1 cz.grd (fun _ _ _ _ I => I.env0.in1) hB I rv rfl sp) (fun v s' z => ?_) fun _ _ x => x
      obtain ⟨z', H', I', rz, r, rfl, qz⟩ := z
      cases rz
      exact ⟨r, rfl, .bl (!r), H', I', rfl, qz⟩
theorem twoR {K : Kx} {W : WX} {f : Sto → D → D → R D} : ∀ σ H Q, tEv K W (x2R f xa xb) σ H Q → tOp (rOfC K f) (tEv K W xa) (tEv K W xb) σ H Q := fun σ H Q ⟨w, env, st, g, r, h⟩ => by
  unfold x2R at h
  rw [R.wp_bind] at h
  refine tEv_mono _ g r h fun da s1 v1 w1 H1 h1 e1 g1 d1 => ?_
  rw [R.wp_bind] at h1
  refine tEv_then _ e1 g1 r h1 fun db s2 v2 w2 H2 h2 e2 g2 d2 => ?_
  exact ⟨w2, s2, da, db, g2, d1.le e2.toLe, d2, R.wp_mono (calm_wp h2) (fun _ _ h => Fin.ext (e1.trans e2) h) fun _ _ _ _ h => h⟩
theorem pev_eqO (cz : Cz X (k + 1)) (F : EqF X.prog X.w X.K X.mg X.base call k tbl kn ki) (ha : PEv X a xa) (hb : PEv X b xb) : PEv X (.Compare a [.Eq] [b] pos) (x2R (oEq call false tbl kn ki) xa xb) :=
  pe_weak (pe_cmpR (o_eqO false rfl cz F) ha hb (nobehind _ (by decide) (by decide))) twoR
theorem pev_neO (cz : Cz X (k + 1)) (F : EqF X.prog X.w X.K X.mg X.base call k tbl kn ki) (ha : PEv X a xa) (hb : PEv X b xb) : PEv X (.Compare a [.NotEq] [b] pos) (x2R (oEq call true tbl kn ki) xa xb) :=
  pe_weak (pe_cmpR (o_eqO true rfl cz F) ha hb (nobehind _ (by decide) (by decide))) twoR
/-- the same as tests -/
theorem ptv_R {op : CmpOp} {f : Sto → D → D → R D} (ho : OpR X (compareOp op) (rOfC (kx X) f)) (hbl : ∀ st x y d st', f st x y = .ok d st' → ∃ r, d = .bl r) (ha : PEv X a xa) (hb : PEv X b xb) (hm : behindInMarks op b = false := by rfl) : PTv X (.Compare a [op] [b] pos) (x2R f xa xb) :=
  pt_weak (pt_cmpR ho ha hb hm) fun σ H Q ⟨w, env, st, g, r, h⟩ => by
    refine twoR (f := f) σ H _ ⟨w, env, st, g, r, ?_⟩
    have h := tVal_wp h
    unfold x2R at h ⊢
    rw [R.wp_bind] at h ⊢
    refine R.wp_mono h (fun da s1 h1 => ?_) fun _ _ _ _ h => h
    rw [R.wp_bind] at h1 ⊢
    refine R.wp_mono h1 (fun db s2 h2 => ?_) fun _ _ _ _ h => h
    cases q : f s2 da db with
    | stuck => rw [q] at h2; exact h2.elim
    | exc => rw [q] at h2; exact h2.elim
    | ok d s3 =>
      rw [q] at h2
      obtain ⟨t, q2, h3⟩ := h2
      obtain ⟨r', rfl⟩ := hbl _ _ _ _ _ q
      cases q2
      intro v w' H' e' g' d'
      cases d'
      exact ⟨_, rfl, h3 w' H' e' g'⟩
theorem oEq_bl {neg : Bool} : ∀ st x y d st', oEq call neg tbl kn ki st x y = .ok d st' → ∃ r, d = .bl r := fun st x y d st' h => by
  unfold oEq at h
  split at h
  · cases q : (if neg = true then cNe st x y else cEq st x y) with
    | none => rw [q] at h; cases h
    | some r => rw [q] at h; cases h; exact ⟨r, rfl⟩
  · rename_i cn _
    cases q : lkM cn.1 tbl with
    | none => rw [q] at h; cases h
    | some p =>
      rw [q] at h
      rw [may_some] at h
      unfold must at h
      split at h
      · cases q2 : call p.1 (pickN [x, y] p.2) st with
        | stuck => rw [q2] at h; cases h
        | exc => rw [q2] at h; cases h
        | ok d2 s2 =>
          rw [q2, R.bind_ok] at h
          cases d2 with
          | bl r => cases h; exact ⟨_, rfl⟩
          | _ => cases h
      · cases h
theorem ptv_eqO (cz : Cz X (k + 1)) (F : EqF X.prog X.w X.K X.mg X.base call k tbl kn ki) (ha : PEv X a xa) (hb : PEv X b xb) : PTv X (.Compare a [.Eq] [b] pos) (x2R (oEq call false tbl kn ki) xa xb) := ptv_R (o_eqO false rfl cz F) oEq_bl ha hb (nobehind _ (by decide) (by decide))
theorem ptv_neO (cz : Cz X (k + 1)) (F : EqF X.prog X.w X.K X.mg X.base call k tbl kn ki) (ha : PEv X a xa) (hb : PEv X b xb) : PTv X (.Compare a [.NotEq] [b] pos) (x2R (oEq call true tbl kn ki) xa xb) := ptv_R (o_eqO true rfl cz F) oEq_bl ha hb (nobehind _ (by decide) (by decide))
/-! ### len -/
def rFnC (K : Kx) (f : Sto → D → R D) : List V → Hp → VK → Prop := fun vs H Q => ∃ w st x d, vs = [x] ∧ Good K w H st ∧ Dv K w H x d ∧ (f st d).wp (Fin K w H Q) fun _ _ _ _ => False
theorem f_lenO (cz : Cz X (k + 1)) (F : OwnF X.prog X.w X.K X.mg X.base call k "__len__" 1 tbl) : CallR X (.builtin "len") (rFnC (kx X) (oLen call tbl)) := by
  intro pins s σ H xs us Q I r ⟨w, st, x, d, e0, g, dx, h⟩
  subst e0
  unfold oLen at h
  split at h
  · obtain ⟨d', q, h⟩ := may_wp h
    exact f_len pins s σ H _ us Q I r ⟨w, st, x, d, d', rfl, g, dx, q, h⟩
  · rename_i cn qc
    obtain ⟨pp, qp, h⟩ := may_wp h
    rw [R.wp_bind] at h
    obtain ⟨a, dxa, vs0, rfl, hH⟩ := cls_ins g dx (show clsD st d = some (cn.1, cn.2) from qc)
    obtain ⟨f, fd, ps, hs, hf, hF, hB⟩ := F.at_ _ _ qp
    obtain ⟨u, rfl, ru⟩ := vals1 r
    cases (show u = Value.ref a from ru)
    obtain ⟨mA, O, _⟩ := ins_get I.hok hH
    obtain ⟨od, J, _⟩ := O.look
    obtain ⟨m, hFr⟩ := I.fr
    have dd : Dvs (kx X) w H [V.ref a] [d] := .cons dx .nil
    have sp : spx (kx X) (call pp.1) (pickN [V.ref a] pp.2) H (fun z H' => ∃ i : Int, z = .int i ∧ (0 ≤ i ∧ i < 2 ^ 63) ∧ Q (.int i) H') fun _ _ _ => False := by
      refine ⟨w, _, st, g, dd.pickN pp.2, R.wp_mono h (fun d s2 h2 v2 w2 H2 e2 g2 d2 => ?_) fun _ _ _ _ z => z.elim⟩
      cases d with
      | int i =>
        cases d2
        obtain ⟨hb, h2⟩ := must_wp (show (must (0 ≤ i ∧ i < 2 ^ 63) (R.ok (D.int i) s2)).wp (Fin (kx X) w H Q) (fun _ _ _ _ => False) from h2)
        exact ⟨i, rfl, hb, (show Fin (kx X) w H Q (.int i) s2 from h2) _ w2 H2 e2 g2 (.int _)⟩
      | _ => exact h2.elim
    refine PySem.W.len_K hFr I.ok.mod.kin J hs hf ?_
    refine wpAny_mono (run_at hF cz.room.in1 cz.grd (fun _ _ _ _ I => I.env0.in1) hB (us := [.ref a]) (vs := [.ref a]) I (.cons rfl .nil) rfl sp) (fun v s' z => ?_) fun _ _ x => x
    obtain ⟨z', H', I', rz, i, rfl, hb, qz⟩ := z
    obtain ⟨t, rfl⟩ := (show ∃ t, v = Value.int i t from rz)
    exact ⟨hb, .int i, H', I'.tok _, ⟨_, rfl⟩, qz⟩
theorem fnR_read {K : Kx} {W : WX} {f : Sto → D → R D} : ∀ σ H Q, tEv K W (x1R f xa) σ H Q → tCB (rFnC K f) (tEvs K W (xCons xa xNil)) σ H Q := fun σ H Q ⟨w, env, st, g, r, h⟩ => by
  unfold x1R at h
  rw [R.wp_bind] at h
  refine ⟨w, env, st, g, r, ?_⟩
  unfold xCons
  rw [R.wp_bind]
  refine R.wp_mono h (fun d s1 h1 => ?_) fun _ _ _ _ h => h
  intro vs w1 H1 e1 g1 d1
  cases d1 with
  | cons d1 d2 =>
    cases d2
    exact ⟨w1, s1, _, d, rfl, g1, d1, R.wp_mono (calm_wp h1) (fun _ _ h => Fin.ext e1 h) fun _ _ _ _ h => h⟩
theorem pev_lenO (cz : Cz X (k + 1)) (F : OwnF X.prog X.w X.K X.mg X.base call k "__len__" 1 tbl) (hm : X.mg "len" = none) (ha : PEv X a xa) (hg : Gl X "len" := by rfl) (hs : isStar a = false := by rfl) :
    PEv X (.Call (.Name "len" p) [a] [] pos) (x1R (oLen call tbl) xa) := pe_weak (pe_callB (f_lenO cz F) hg hm PySem.boot_len (pav_cons ha pav_nil hs).pa (by decide) (by decide) (star_cons hs) rfl) fnR_read
end
end Qv
end
section
set_option Elab.async false
set_option autoImplicit false
set_option linter.all false
set_option maxRecDepth 100000
set_option maxHeartbeats 2000000
/-! Qv: lambdas: their making (with a default or without), their call by the def that got them. -/
namespace Qv
open PySem L2 PySem.Spec PyProof.Rows
open LamX (lamEnv lamCx CodeO TabB)
/-! ### the library's level -/
section
open PySem.W PySem.Calls
variable {M : Model} {A : Around} {E : Value → Shared → Prop} {s : Shared} {qual : Str} {params : Arguments} {body : Expr} {scope : Scope} {env : Env} {c P : Addr} {ps : Array Value} {pos : Pos} {fl : Nat} {mg : Str → Option Value} {clos : List (Str × Addr)} {Q : Value → Shared → Prop} {dv : Value}
/-- a lambda's object; dv: its defaults -/
abbrev fdl (qual : Str) (params : Arguments) (body : Expr) (scope : Scope) (clos : List (Str × Addr)) (pm cv ctv dv : Value) : FuncData := { kla_fn "<lambda>" qual params body scope clos pm cv ctv with defaults := dv }
abbrev fobj (qual : Str) (params : Arguments) (body : Expr) (scope : Scope) (clos : List (Str × Addr)) (pm cv ctv dv : Value) : Obj := { cls := .type "function", data := .func (fdl qual params body scope clos pm cv ctv dv) }
theorem lam_tail (hcl : closureFor scope env = pure clos) (hgl : env.globals = mainGlobals) (hg : s.heap.Ns mainGlobals mg) (hc : env.code = .ref c) (C : CodeHd s.heap c P) (hP : s.heap.get? P = some { cls := .none, data := .fields ps }) (ht : TriplesOk ps.toList) (hgP : mainGlobals ≠ P) (hb : s.heap.BuiltinsAt mg P)
    (new : codeAmong pos ps.toList = none → ∀ (c' : Addr) (ctv pm : Value) (h' : Heap) (tk : Tok), Heap.ExtBut P s.heap h' → s.heap.objs.size ≤ c' → c' < h'.objs.size → h'.CodeRec (.ref c') qual → h'.get? P = some { cls := .none, data := .fields (ps ++ #[rawInt pos.line, rawInt pos.col, .ref c']) } → Q (.ref h'.objs.size) { s with heap := h'.push (fobj qual params body scope clos pm (.ref c') ctv dv), toks := tk })
    (hit : ∀ cv, codeAmong pos ps.toList = some cv → ∀ (ctv pm : Value) (h' : Heap) (tk : Tok), (∀ b o, s.heap.get? b = some o → h'.get? b = some o) → s.heap.objs.size ≤ h'.objs.size → Q (.ref h'.objs.size) { s with heap := h'.push (fobj qual params body scope clos pm cv ctv dv), toks := tk }) :
    wpAny M A (makeTail "<lambda>" qual params (.expr body) scope env dv .none none pos fl) Q E s := by
  obtain ⟨bm, ob, b1, b2, b3, b4, b5, b6, b7, b8⟩ := hb
  unfold makeTail
  rw [hcl, hgl]
  refine wpAny_bind (wpAny_pure ?_)
  dsimp only
  split
  · refine wpAny_bind (wpAny_pure ?_)
    have k1 : ∀ a o, s.heap.get? a = some o → s.heap.get? a = some o := fun _ _ q => q
    have z1 : s.heap.objs.size ≤ s.heap.objs.size := Nat.le_refl _
    have C1 := C.keeps k1
    have P1 := k1 _ _ hP
    have g1 := hg.keeps k1
    cases q : codeAmong pos ps.toList with
    | none =>
      refine wpAny_bind (wpAny_functionCodeX (s := { s with heap := s.heap }) hc (C1.code P1 ht) (C1.tab P1) q fun c' h' tk x1 x2 x3 _ x4 x5 _ => ?_)
      have xx : Heap.ExtBut P s.heap h' := fun b o hb' e => x1 b o hb' (k1 b o e)
      have g2 := g1.extBut x1 hgP
      refine wpAny_bind (wpAny_builtinsFor g2 b1 b2 (xx _ _ b4 b5) b6 b7 b8 ?_)
      refine wpAny_bind (wpAny_nsGet g2 (wpAny_bind (wpAny_pure ?_)))
      exact wpAny_newObj_type (new q c' _ _ h' tk xx (Nat.le_trans z1 x2) x3 x4 x5.2) (by size_fits)
    | some cv =>
      refine wpAny_bind (wpAny_functionCode_hit (s := { s with heap := s.heap }) hc (C1.code P1 ht) q ?_)
      refine wpAny_bind (wpAny_builtinsFor g1 b1 b2 (k1 _ _ b5) b6 b7 b8 ?_)
      refine wpAny_bind (wpAny_nsGet g1 (wpAny_bind (wpAny_pure ?_)))
      exact wpAny_newObj_type (hit cv q _ _ _ s.toks k1 z1) (by size_fits)
  · refine wpAny_bind (wpAny_newTextTuple ?_)
    generalize hh : s.heap.push _ = h1
    have k1 : ∀ a o, s.heap.get? a = some o → h1.get? a = some o := fun _ _ q => hh ▸ Heap.get?_push_of_some _ q
    have z1 : s.heap.objs.size ≤ h1.objs.size := by
      rw [← hh, Heap.size_push]
      exact Nat.le_succ _
    have C1 := C.keeps k1
    have P1 := k1 _ _ hP
    have g1 := hg.keeps k1
    cases q : codeAmong pos ps.toList with
    | none =>
      refine wpAny_bind (wpAny_functionCodeX (s := { s with heap := h1 }) hc (C1.code P1 ht) (C1.tab P1) q fun c' h' tk x1 x2 x3 _ x4 x5 _ => ?_)
      have xx : Heap.ExtBut P s.heap h' := fun b o hb' e => x1 b o hb' (k1 b o e)
      have g2 := g1.extBut x1 hgP
      refine wpAny_bind (wpAny_builtinsFor g2 b1 b2 (xx _ _ b4 b5) b6 b7 b8 ?_)
      refine wpAny_bind (wpAny_nsGet g2 (wpAny_bind (wpAny_pure ?_)))
      exact wpAny_newObj_type (new q c' _ _ h' tk xx (Nat.le_trans z1 x2) x3 x4 x5.2) (by size_fits)
    | some cv =>
      refine wpAny_bind (wpAny_functionCode_hit (s := { s with heap := h1 }) hc (C1.code P1 ht) q ?_)
      refine wpAny_bind (wpAny_builtinsFor g1 b1 b2 (k1 _ _ b5) b6 b7 b8 ?_)
      refine wpAny_bind (wpAny_nsGet g1 (wpAny_bind (wpAny_pure ?_)))
      exact wpAny_newObj_type (hit cv q _ _ _ s.toks k1 z1) (by size_fits)
end
/-! ### a table grows -/
theorem Good.table {K : Kx} {w : Wd} {H : Hp} {st : Sto} (g : Good K w H st) {x : Str} {c : Addr} {ps ps' : Array Value} (hx : x ∈ st.tn) (hu : ∀ y, y ∈ st.tn → pa K.K y = pa K.K x → y = x) (hP : H (pa K.K x) = some (.tbl ps)) (hc : H c = none) (ht : TriplesOk ps'.toList)
    (ha : ∀ pos cv, codeAmong pos ps'.toList = some cv → codeAmong pos ps.toList = some cv ∨ cv = .ref c) :
    Good K (w.frz c) (L2.upd (L2.upd H (pa K.K x) (.tbl ps')) c (CodeO c (lq x))) st ∧ Ext w H (w.frz c) (L2.upd (L2.upd H (pa K.K x) (.tbl ps')) c (CodeO c (lq x))) := by
  obtain ⟨hPt, hPf, hT⟩ := g.tab x hx
  have nc : ∀ {a o}, H a = some o → a ≠ c := fun e => ne_of_none e hc
  have ncP : pa K.K x ≠ c := nc hP
  have off : ∀ {a}, a ≠ pa K.K x → a ≠ c → L2.upd (L2.upd H (pa K.K x) (.tbl ps')) c (CodeO c (lq x)) a = H a := fun h1 h2 => by rw [upd_ne h2, upd_ne h1]
  have atP : L2.upd (L2.upd H (pa K.K x) (.tbl ps')) c (CodeO c (lq x)) (pa K.K x) = some (.tbl ps') := by rw [upd_ne ncP, upd_same]
  have e : Ext w H (w.frz c) (L2.upd (L2.upd H (pa K.K x) (.tbl ps')) c (CodeO c (lq x))) := by
    refine ⟨⟨fun _ _ h => h, fun _ h => .inl h, fun a o f q => ?_⟩, fun a o q n t => ?_, fun a q => sm_upd (sm_upd q), fun a qs q => ?_, fun a f => ?_, fun a f => .inl f⟩
    · rw [off (nef hPf f) (nc q)]; exact q
    · rw [off (fun z => ?_) (nc q)]
      · exact q
      · subst z
        rw [hP] at q
        exact t ps (Option.some.inj q).symm
    · by_cases z : a = pa K.K x
      · subst z; exact ⟨ps', atP⟩
      · rw [off z (nc q)]; exact ⟨qs, q⟩
    · rcases f with f | f
      · exact .inl f
      · subst f; exact .inr (.inr (.inl hc))
  refine ⟨⟨g.len, g.nd, fun b m => ?_, fun b m => ?_, fun k m q => ?_, fun y hy => ?_, fun b qs q => ?_⟩, e⟩
  · rw [off (net hPt m) (net (g.no_th hc) m)]; exact g.thIn b m
  · rcases m with m | m
    · rw [off (nef hPf m) (nef (g.no_fz hc) m)]; exact g.fzIn b m
    · subst m; rw [upd_same]; intro z; cases z
  · obtain ⟨b, h1, h2, h3⟩ := g.ob k m q
    have hb := List.mem_of_getElem? h1
    refine ⟨b, h1, fun z => ?_, h3.le e.toLe (off (net hPt hb) (net (g.no_th hc) hb))⟩
    rcases z with z | z
    · exact h2 z
    · exact g.no_th hc (by rw [← z]; exact hb)
  · obtain ⟨h1, h2, h3⟩ := g.tab y hy
    obtain ⟨qs, hq⟩ := g.tbn hy
    refine ⟨h1, fun z => ?_, ?_⟩
    · rcases z with z | z
      · exact h2 z
      · exact nc hq z
    · by_cases z : pa K.K y = pa K.K x
      · have hyx := hu y hy z
        subst hyx
        obtain ⟨ps0, p1, p2, p3⟩ := hT
        rw [hP] at p1
        cases p1
        refine ⟨ps', atP, ht, fun pos cv hcv => ?_⟩
        rcases ha pos cv hcv with q | q
        · obtain ⟨c0, q1, q2, q3⟩ := p3 pos cv q
          exact ⟨c0, q1, .inl q2, e.ob c0 _ q2 q3⟩
        · exact ⟨c, q, .inr rfl, upd_same⟩
      · exact h3.le e.toLe (off z (nc hq))
  · by_cases z : b = c
    · subst z
      rw [upd_same] at q
      exact absurd (Option.some.inj q) (LamX.codeO_ne qs)
    · by_cases z2 : b = pa K.K x
      · exact ⟨x, hx, z2⟩
      · rw [off z2 z] at q
        exact g.tabs b qs q
/-! ### a lambda is made -/
section
variable {X : Cx} {pins : List (Addr × Obj)} {σ : L2.St} {H : Hp} {s : Shared} {w : Wd} {st : Sto} {x : Str} {params : Arguments} {body : Expr} {scope : Scope} {pos : Pos} {dv : Value}
/-- objects that no reading knows stand there -/
def Beside (X : Cx) (H : Hp) (s : Shared) (os : List (Addr × Obj)) : Prop := ∀ p ∈ os, s.heap.get? p.1 = some p.2 ∧ H p.1 = none ∧ p.1 ∉ frs X.stack
theorem off_frs (I : L2.Inv X pins σ H s) {f : Addr} (hf : s.heap.objs.size ≤ f) : f ∉ frs X.stack := fun z => by
  rcases List.mem_cons.mp (I.stkSub _ z) with e | e
  · have h1 := I.lt
    rw [← e] at h1
    exact Nat.lt_irrefl _ (Nat.lt_of_lt_of_le h1 hf)
  · exact I.nofs hf e
theorem lam_go {E Q : Value → Shared → Prop} {os : List (Addr × Obj)} (I : L2.Inv X pins σ H s) (hos : Beside X H s os) (g : Good (kx X) w H st) (hx : x ∈ st.tn) (hu : ∀ y, y ∈ st.tn → pa X.K y = pa X.K x → y = x) {c : Addr} (TB : TabB X.base X.mg c (pa X.K x)) (hcode : X.env.code = .ref c)
    (hq : X.env.qual ++ "<lambda>" = lq x) (hfree : ∀ y ∈ scope.names, y.2 = .free → ∃ c, X.env.cells.lookup y.1 = some c)
    (h : ∀ (f c' : Addr) (pm ctv : Value) (w1 : Wd) (H1 : Hp) (s' : Shared), L2.Inv X pins σ H1 s' → Ext w H w1 H1 → Good (kx X) w1 H1 st →
      Beside X H1 s' ((f, fobj (X.env.qual ++ "<lambda>") params body scope (cloFrom X.env.cells scope.names []) pm (.ref c') ctv dv) :: os) → w1.fz c' → H1 c' = some (CodeO c' (lq x)) → Q (.ref f) s') :
    wpAny (model X.prog X.w) X.A (makeTail "<lambda>" (X.env.qual ++ "<lambda>") params (.expr body) scope X.env dv .none none pos pos.line) Q E s := by
  obtain ⟨_, _, ps, hP, ht, ha⟩ := g.tab x hx
  have bP : s.heap.BuiltinsAt X.mg (pa X.K x) := TB.bm.keeps I.bk
  have hP' : s.heap.get? (pa X.K x) = some { cls := .none, data := .fields ps } := I.hok _ _ hP
  refine lam_tail (closure_ok hfree) I.ok.glob (I.mod.glob.keeps I.bk) hcode (TB.code.keeps I.bk) hP' ht TB.gP bP (fun hc c' ctv pm h' tk hx' hge hlt hrec htb => ?_) (fun cv hc ctv pm h' tk hx' hsz => ?_)
  · obtain ⟨c2, oc, vs, t, e2, hoc, hd, hv⟩ := hrec
    cases e2
    have hsz : s.heap.objs.size ≤ h'.objs.size := Nat.le_trans hge (Nat.le_of_lt hlt)
    have nC : H c' = none := I.hok.fresh hge
    have eL : (ps ++ #[rawInt pos.line, rawInt pos.col, .ref c']).toList = ps.toList ++ [rawInt pos.line, rawInt pos.col, .ref c'] := by simp
    obtain ⟨g1, e1⟩ := g.table (ps' := ps ++ #[rawInt pos.line, rawInt pos.col, .ref c']) hx hu hP nC (by rw [eL]; exact PySem.TriplesOk_snoc _ _ _ _ ht) fun p' cv hcv => by
      rw [eL] at hcv
      exact LamX.among_app _ ht hcv
    have I1 := LamX.inv_table (q := lq x) (t' := tk) (more := #[rawInt pos.line, rawInt pos.col, .ref c']) (h' := h'.push (fobj (X.env.qual ++ "<lambda>") params body scope (cloFrom X.env.cells scope.names []) pm (.ref c') ctv dv)) I hP
      (fun b o hb e => Heap.get?_push_of_some _ (hx' b o hb e)) (Heap.get?_push_of_some _ htb) hge ⟨oc, vs, t, Heap.get?_push_of_some _ hoc, hd, by rw [← hq]; exact hv⟩
    refine h h'.objs.size c' pm ctv _ _ _ I1 e1 g1 (fun p hp => ?_) (show (w.frz c').fz c' from .inr rfl) upd_same
    rcases List.mem_cons.mp hp with q | q
    · subst q
      have n1 : h'.objs.size ≠ c' := Nat.ne_of_gt hlt
      have n2 : h'.objs.size ≠ pa X.K x := Nat.ne_of_gt (Nat.lt_of_lt_of_le (Heap.lt_size hP') hsz)
      refine ⟨Heap.get?_push_size _ rfl, ?_, off_frs I hsz⟩
      rw [upd_ne n1, upd_ne n2]
      exact I.hok.fresh hsz
    · obtain ⟨q1, q2, q3⟩ := hos p q
      have np : p.1 ≠ pa X.K x := fun z => by rw [z, hP] at q2; cases q2
      have nc : p.1 ≠ c' := Nat.ne_of_lt (Nat.lt_of_lt_of_le (Heap.lt_size q1) hge)
      exact ⟨Heap.get?_push_of_some _ (hx' _ _ np q1), by rw [upd_ne nc, upd_ne np]; exact q2, q3⟩
  · obtain ⟨c', e, hf, hco⟩ := ha pos cv hc
    subst e
    have I1 : L2.Inv X pins σ H { s with heap := h'.push (fobj (X.env.qual ++ "<lambda>") params body scope (cloFrom X.env.cells scope.names []) pm (.ref c') ctv dv), toks := tk } := I.kept fun b o e => Heap.get?_push_of_some _ (hx' b o e)
    refine h h'.objs.size c' pm ctv w H _ I1 (Ext.refl w H) g (fun p hp => ?_) hf hco
    rcases List.mem_cons.mp hp with q | q
    · subst q
      exact ⟨Heap.get?_push_size _ rfl, I.hok.fresh hsz, off_frs I hsz⟩
    · obtain ⟨q1, q2, q3⟩ := hos p q
      exact ⟨Heap.get?_push_of_some _ (hx' _ _ q1), q2, q3⟩
end
section
variable {X : Cx} {x : Str} {params : Arguments} {body : Expr} {scope : Scope}
/-- the lambda is made, and may be called without arguments -/
def MadeL (X : Cx) (x : Str) (params : Arguments) (body : Expr) (scope : Scope) : Prop := ∀ (pins : List (Addr × Obj)) (σ : L2.St) (H : Hp) (s : Shared) (w : Wd) (st : Sto) (pos : Pos) (Q : Value → Shared → Prop),
  L2.Inv X pins σ H s → Good (kx X) w H st → x ∈ st.tn → (∀ y, y ∈ st.tn → pa X.K y = pa X.K x → y = x) → (∀ y ∈ scope.names, y.2 = .free → ∃ c, X.env.cells.lookup y.1 = some c) →
  (∀ (f c' : Addr) (pm ctv dv : Value) (binds : List (Str × Value)) (os : List (Addr × Obj)) (w1 : Wd) (H1 : Hp) (s' : Shared), L2.Inv X pins σ H1 s' → Ext w H w1 H1 → Good (kx X) w1 H1 st →
    Beside X H1 s' ((f, fobj (X.env.qual ++ "<lambda>") params body scope (cloFrom X.env.cells scope.names []) pm (.ref c') ctv dv) :: os) → w1.fz c' → H1 c' = some (CodeO c' (X.env.qual ++ "<lambda>")) →
    (∀ s2 : Shared, (∀ p ∈ os, s2.heap.get? p.1 = some p.2) → BindsTo s2 (fdl (X.env.qual ++ "<lambda>") params body scope (cloFrom X.env.cells scope.names []) pm (.ref c') ctv dv) ⟨[], []⟩ binds) →
    (∀ y ∈ binds, scope.names.lookup y.1 = some .local) → Q (.ref f) s') →
  wpAny (model X.prog X.w) X.A (eval (.Lambda params body scope pos) X.env) Q X.xe s
theorem made_plain {c : Addr} (TB : TabB X.base X.mg c (pa X.K x)) (hcode : X.env.code = .ref c) (hq : X.env.qual ++ "<lambda>" = lq x) (hdef : defaultsOf params X.env = ([], []))
    (hb : ∀ (q : Str) (cl : List (Str × Addr)) (pm cv ctv : Value), bindArgs (fdl q params body scope cl pm cv ctv .none) ⟨[], []⟩ = pure []) : MadeL X x params body scope := by
  intro pins σ H s w st pos Q I g hx hu hfree h
  refine PySem.W.kla_eval hdef ?_
  rw [makeFunction_eq]
  simp only [List.zip_nil_right, List.filterMap_nil, List.isEmpty_nil, if_true, pure_bind]
  refine lam_go (os := []) I (fun p hp => nomatch hp) g hx hu TB hcode hq hfree fun f c' pm ctv w1 H1 s' I1 e1 g1 b1 fz hc => ?_
  exact h f c' pm ctv .none [] [] w1 H1 s' I1 e1 g1 b1 fz (by rw [hq]; exact hc) (fun s2 _ => BindsTo.of_eq (hb _ _ _ _ _)) fun y hy => nomatch hy
/-- lambda a=i: body -/
theorem made_dflt {c : Addr} {a : Str} {i : Int} {j : Nat} {p : Pos} (TB : TabB X.base X.mg c (pa X.K x)) (hcode : X.env.code = .ref c) (hq : X.env.qual ++ "<lambda>" = lq x) (hdef : params.defaults = [.Constant (.int i) j p]) (hkd : params.kw_defaults = []) (hdn : params.defaults.isEmpty = false)
    (hb : ∀ (q : Str) (cl : List (Str × Addr)) (pm cv ctv dv : Value), ∃ k, bindArgs (fdl q params body scope cl pm cv ctv dv) ⟨[], []⟩ = seqItems? dv >>= k ∧ ∀ v, k (some #[v]) = pure [(a, v)]) (ha : scope.names.lookup a = some .local) : MadeL X x params body scope := by
  intro pins σ H s w st pos Q I g hx hu hfree h
  refine PySem.W.kdv_lam hdn hkd ?_
  rw [hdef]
  refine PySem.W.kdv_all1 (thn ((pe_int (X := X)).run pins s σ H (fun v H1 => v = .int i ∧ H1 = H) I ⟨rfl, rfl⟩) fun u s1 hu1 => PySem.W.kdv_all0 ?_)
  obtain ⟨v, H1, I1, rv, rfl, rfl⟩ := hu1
  rw [makeFunction_eq]
  simp only [List.zip_nil_right, List.filterMap_nil, List.isEmpty_nil, List.isEmpty_cons, if_true, Bool.false_eq_true, if_false, pure_bind]
  refine wpAny_bind (wpAny_newTextTuple ?_)
  have I2 : L2.Inv X pins σ H1 { s1 with heap := s1.heap.push { cls := .type "tuple", data := .seq [u].toArray } } := by
    have := I1.kept (t' := s1.toks) (h' := s1.heap.push { cls := .type "tuple", data := .seq [u].toArray }) fun b o e => Heap.get?_push_of_some _ e
    exact this
  refine lam_go (os := [(s1.heap.objs.size, { cls := .type "tuple", data := .seq [u].toArray })]) I2 (fun p hp => ?_) g hx hu TB hcode hq hfree fun f c' pm ctv w1 H1 s' I1 e1 g1 b1 fz hc => ?_
  · rw [List.mem_singleton.mp hp]
    exact ⟨Heap.get?_push_size _ rfl, I1.hok.fresh (Nat.le_refl _), off_frs I1 (Nat.le_refl _)⟩
  · refine h f c' pm ctv _ [(a, u)] _ w1 H1 s' I1 e1 g1 b1 fz (by rw [hq]; exact hc) (fun s2 hs => let ⟨k, h1, h2⟩ := hb _ _ _ _ _ _; BindsTo.of_defaults rfl (hs _ (List.mem_singleton.mpr rfl)) rfl h1 (h2 u)) fun y hy => ?_
    rw [List.mem_singleton.mp hy]
    exact ha
end
/-! ### a lambda is called -/
/-- captured names, globals, and own ones that are not among N -/
structure LamS (N : List Str) (sc scope : Scope) : Prop where
  kind : scope.kind = .function
  co : scope.isCoroutine = false
  gen : scope.isGenerator = false
  noc : ∀ y ∈ scope.names, y.2 ≠ .cell
  own : ∀ y ∈ scope.names, y.2 = .local → y.1 ∉ N
  free : ∀ y ∈ scope.names, y.2 = .free → sc.names.lookup y.1 = some .cell ∨ sc.names.lookup y.1 = some .free
section
variable {X : Cx} {pins : List (Addr × Obj)} {σ : L2.St} {H HZ : Hp} {s s1 : Shared} {scope : Scope} {f c' : Addr} {x : Str} {params : Arguments} {body : Expr}
theorem LamS.cell (L : LamS X.N X.env.scope scope) (ok : X.Ok) {y : Str} (hy : (y, NameKind.free) ∈ scope.names) : ∃ c, X.env.cells.lookup y = some c :=
  (L.free _ hy rfl).elim (fun k => ok.has _ (.inl k)) fun k => ok.has _ (.inr k)
/-- a captured cell of the lambda is the maker's -/
theorem clo_is (L : LamS X.N X.env.scope scope) (ok : X.Ok) {y : Str} {c : Addr} (e : (cloFrom X.env.cells scope.names []).lookup y = some c) : X.env.cells.lookup y = some c := by
  rcases cloFrom_mem (PySem.mem_of_lookup e) with hm | ⟨h1, h2⟩
  · cases hm
  · obtain ⟨c1, hc⟩ := L.cell ok h1
    rw [h2, hc]
    rfl
theorem clo_has (L : LamS X.N X.env.scope scope) {y : Str} (hl : scope.names.lookup y = some .free) : ∃ c, (cloFrom X.env.cells scope.names []).lookup y = some c :=
  mem_lookup (cloFrom_has (cells := X.env.cells) (acc := []) (PySem.mem_of_lookup hl))
theorem lam_inv {A : Around} {outer : List Env} {E : XK} {h1 : Heap} {tk : Nat} {m0 : Str → Option Value} (I : L2.Inv X pins σ H s) (L : LamS X.N X.env.scope scope) (e0 : Env0 X.prog X.w X.K X.mg X.base A outer s1 HZ) (hd : A.handled = none)
    (un : Un (frs X.stack) [] H HZ s.heap s1.heap) (hns : h1.Ns s1.heap.objs.size m0) (kp : ∀ b o, s1.heap.get? b = some o → h1.get? b = some o) : L2.Inv (lamCx X A outer s1 HZ E scope f c') [] σ HZ { s1 with heap := h1, toks := tk } := by
  have ok := I.ok
  have keep : ∀ {c : Addr} {v : Option Value}, H c = none → s.heap.IsCell c v → h1.IsCell c v := by
    intro c v n ⟨o, ho, hd⟩
    obtain ⟨sl, q⟩ := un.any ho n (by simp)
    exact ⟨_, kp _ _ q, hd⟩
  have none_ : ∀ b : Addr, b ∉ (lamCx X A outer s1 HZ E scope f c').ex := by
    intro b z
    exact absurd (show b ∈ ([] : List Addr) from z) (by simp)
  have okL : (lamCx X A outer s1 HZ E scope f c').Ok := {
    mod := e0.mod
    kind := L.kind
    glob := rfl
    blt := rfl
    above := Nat.le_refl _
    inj := fun y z c e1 e2 => ok.inj y z c (clo_is L ok e1) (clo_is L ok e2)
    has := fun y hy => by
      rcases (show scope.names.lookup y = some .cell ∨ scope.names.lookup y = some .free from hy) with hy | hy
      · exact absurd rfl (L.noc _ (PySem.mem_of_lookup hy))
      · exact clo_has L hy
    cab := fun y c z _ => Bool.noConfusion (show false = true from z)
    hd := fun _ => hd
    frames := Around.frames_deeper e0.frames
    stk := .inr ⟨rfl, rfl⟩
    exf := fun b z => absurd z (none_ b)
    bs := e0.bs
    bsz := e0.bsz
    noex := fun b _ _ => none_ b
    exfs := fun b z => absurd z (none_ b)
    funs := e0.funs
    frf := e0.frf }
  refine ⟨okL, rfl, e0.bare, Un.kept kp, ⟨_, hns, ?_⟩, ?_, e0.hok.fresh (Nat.le_refl _), ?_, fun q hq => absurd (show q ∈ ([] : List (Addr × Obj)) ++ [] from hq) (by simp), e0.hok.kept kp, I.len⟩
  · intro i y v e1 e2 e3
    have hN : y ∈ X.N := List.mem_of_getElem? e1
    rcases (show Vis scope y from e3) with k | k | k
    · exact absurd hN (L.own _ (PySem.mem_of_lookup k) rfl)
    · exact absurd rfl (L.noc _ (PySem.mem_of_lookup k))
    · have up := L.free _ (PySem.mem_of_lookup k) rfl
      obtain ⟨m, hn, hl⟩ := I.loc
      obtain ⟨u, r, q⟩ := hl i y v e1 e2 (up.elim (fun k => .inr (.inl k)) fun k => .inr (.inr k))
      obtain ⟨c2, h2⟩ := clo_has (X := X) L k
      refine ⟨u, r, .inr ⟨.inr k, c2, h2, ?_⟩⟩
      rcases q with ⟨k', _⟩ | ⟨_, c3, e', z⟩
      · have k' : X.env.scope.names.lookup y = some .local := k'
        rcases up with up | up <;> (rw [k'] at up; cases up)
      · rw [clo_is L ok h2] at e'
        cases e'
        exact keep (I.freeC y _ (clo_is L ok h2)) z
  · intro y c e
    obtain ⟨u, z⟩ := I.cell y c (clo_is L ok e)
    exact ⟨u, keep (I.freeC y c (clo_is L ok e)) z⟩
  · intro y c e
    obtain ⟨v, o, ho, hd⟩ := I.cell y c (clo_is L ok e)
    exact un.free c o ho (I.freeC y c (clo_is L ok e)) (by simp)
/-- the lambda's wish -/
theorem tk_lam {A : Around} {outer : List Env} {E : XK} : Takes (lamCx X A outer s1 HZ E scope f c') (WD E) := takes_of rfl rfl rfl rfl
theorem LamS.has (L : LamS X.N X.env.scope scope) (ok : X.Ok) : ∀ y ∈ scope.names, y.2 = .free → ∃ c, X.env.cells.lookup y.1 = some c := fun y hy e => by
  obtain ⟨y1, y2⟩ := y
  cases e
  exact L.cell ok hy
/-- a(), in the def that got the lambda; what is raised is wished for with the def's slots at the call -/
theorem pe_act {CXg : CXT} {Eg : XK} {Ng : List Str} {qg : Str} {sg : Scope} {g : Addr} {cdg : Value} {k i : Nat} {a : Str} {pn : List (Addr × Obj)} {xe : Value → Shared → Prop} {W : WX} {xb : Ev D} {p1 p2 : Pos} {binds : List (Str × Value)} {pm ctv dv : Value} {os : List (Addr × Obj)}
    (I : L2.Inv X pins σ H s) (L : LamS X.N X.env.scope scope) (hbs : Beside X H s ((f, fobj (X.env.qual ++ "<lambda>") params body scope (cloFrom X.env.cells scope.names []) pm (.ref c') ctv dv) :: os))
    (hbind : ∀ s2 : Shared, (∀ p ∈ os, s2.heap.get? p.1 = some p.2) → BindsTo s2 (fdl (X.env.qual ++ "<lambda>") params body scope (cloFrom X.env.cells scope.names []) pm (.ref c') ctv dv) ⟨[], []⟩ binds) (hloc : ∀ y ∈ binds, scope.names.lookup y.1 = some .local)
    (tk : Takes ((cxOf CXg X.prog X.w X.K X.mg X.base Ng qg sg g cdg X.A X.stack s H Eg).tr pn xe) W) (cz : Cz X (k + 2)) (hr : Room (k + 1) (X.A.deeper (envOfC qg sg s.heap.objs.size g cdg)))
    (hbody : ∀ (E : XK) (A : Around) (outer : List Env) (s : Shared) (H : Hp), Cz (lamCx X A outer s H E scope f c') k → PEv (lamCx X A outer s H E scope f c') body xb)
    (hN : Ng[i]? = some a) (hv : Vis sg a) (hd : (a == ("__debug__" : Str)) = false) (hcd : (a == ("__classdict__" : Str)) = false) :
    PE ((cxOf CXg X.prog X.w X.K X.mg X.base Ng qg sg g cdg X.A X.stack s H Eg).tr pn xe) (.Call (.Name a p1) [] [] p2)
      (fun σZ HZ Q => σZ[i]? = some (some (.ref f)) ∧ HZ c' = some (CodeO c' (X.env.qual ++ "<lambda>")) ∧ tEv (kx X) (WD (WE W σZ)) xb σ HZ Q) := by
  constructor
  intro pinsZ sZ σZ HZ Q IZ h
  obtain ⟨hs, hc, ht⟩ := h
  apply wpAny_Call_Name_kw
  refine thn ((pe_var (pos := p1) (i := i) hN hv hd hcd).run pinsZ sZ σZ HZ (fun v H1 => v = .ref f ∧ H1 = HZ) IZ ⟨.ref f, hs, rfl, rfl⟩) fun u s1 hu => ?_
  obtain ⟨v, H1, I1, r1, rfl, rfl⟩ := hu
  cases r1
  have all : ∀ p ∈ (f, fobj (X.env.qual ++ "<lambda>") params body scope (cloFrom X.env.cells scope.names []) pm (.ref c') ctv dv) :: os, s1.heap.get? p.1 = some p.2 := fun p hp => by
    obtain ⟨q1, q2, q3⟩ := hbs p hp
    exact I1.base.keep p.1 _ q1 q2 q3 (fun z => nomatch (show p.1 ∈ ([] : List Addr) from z))
  have of1 := all _ List.mem_cons_self
  apply PySem.W.callWith_F0 ⟨_, _, _, _, of1⟩
  obtain ⟨⟨oc, vs, t, q1, q2, q3⟩, _, _⟩ := I1.hok c' _ hc
  apply wpAny_call
  have rc : codeAny (model X.prog X.w) (X.A.deeper (envOfC qg sg s.heap.objs.size g cdg)) (.call (.ref f) ⟨[], []⟩) (CR (L2.CX X.prog X.w) (envOfC qg sg s.heap.objs.size g cdg :: X.stack) X.prog X.w H1 s1 Q (WE W σZ)) s1 := by
    refine PySem.W.kla_callFunE hr.depth of1 rfl L.co L.gen rfl ⟨c', oc, vs, t, rfl, q1, q2, q3⟩ ?_
    refine hbind s1 (fun p hp => all p (List.mem_cons_of_mem _ hp)) _ _ _ _ ?_
    refine wpAny_newFunctionEnv (fun y hy => L.noc y hy) hloc (fun h1 hns hsb => ⟨I1.nolimit.fresh _ hsb, ?_⟩) L.kind
    have kp : ∀ b o, s1.heap.get? b = some o → h1.get? b = some o := fun b o e => hsb.extBut b o (Nat.ne_of_lt (Heap.lt_size e)) (Heap.get?_push_of_some _ e)
    show codeAny _ _ (.expr body (lamEnv X scope s1.heap.objs.size f c')) _ _
    have J := lam_inv (E := WE W σZ) (f := f) (c' := c') (tk := s1.toks + binds.length) I L I1.env0 hr.hd I1.base hns kp
    have cz' : Cz (lamCx X (X.A.deeper (envOfC qg sg s.heap.objs.size g cdg)) (envOfC qg sg s.heap.objs.size g cdg :: X.stack) s1 H1 (WE W σZ) scope f c') k := ⟨hr.deeper _, cz.grd, rfl, cz.nd⟩
    have P := pe_weak (hbody (WE W σZ) _ _ s1 H1 cz') (tEv_imp (K := kx X) (W := WD (WE W σZ)) (W' := CW (lamCx X (X.A.deeper (envOfC qg sg s.heap.objs.size g cdg)) (envOfC qg sg s.heap.objs.size g cdg :: X.stack) s1 H1 (WE W σZ) scope f c')) fun c d σ' H' q => CW.of tk_lam q)
    refine PySem.W.kla_codeExpr (wpAny_mono (P.run [] _ _ H1 Q J ht) (fun v s' hq => ?_) fun e s' hq => hq)
    obtain ⟨w', H', J', rv, q⟩ := hq
    exact ⟨w', H', J'.os, J'.bare, J'.base, J'.hok, rv, q⟩
  refine codeAny_mono rc fun r s' hq => ?_
  cases r with
  | error e => exact passAt tk σZ pinsZ H1 s1 e s' I1 hq
  | ok fl =>
    cases fl with
    | ret u => exact I1.after hq
    | next => exact False.elim hq
    | brk => exact False.elim hq
    | cont => exact False.elim hq
end
end Qv
end
section
set_option Elab.async false
set_option autoImplicit false
set_option linter.all false
set_option maxRecDepth 100000
set_option maxHeartbeats 2000000
/-! Qv: a def that asks a lambda, and keeps what it raises: caught, found = (None, None); try: found = ask() except C as error: caught = error; .. -/
namespace Qv
open PySem L2 PySem.Spec PyProof.Rows
open LamX (CodeO TabB lamCx)
/-- found in slot i, error in ie, caught in jc; kn: the classes that the clause takes -/
def tryR (i ie jc : Nat) (kn : List Str) (r : R D) (env : En) : R Fl := match r with
  | .stuck => .stuck
  | .ok d st => .ok (.next (env.set i (some d))) st
  | .exc c ns ds st => must (c ∈ kn) (.ok (.next (((env.set ie (some (.exn c ns ds))).set jc (some (.exn c ns ds))).set ie none)) st)
/-- such a def: its slots, what it makes of what it heard -/
structure Hd where
  n : Nat
  i : Nat
  ie : Nat
  jc : Nat
  kn : List Str
  rest : Ex
def heardR (hd : Hd) (r : R D) : R Fl := (tryR hd.i hd.ie hd.jc hd.kn r (((startE hd.n []).set hd.jc (some .non)).set hd.i (some .non))).bind (goOn hd.rest)
/-- x(lambda: ..); T: the defs that make lambdas -/
def xHeard (T : List Str) (hd : Hd) (thunk : Ev D) : Ev D := fun env st => must (st.tn = T) (resOf st.th.length (heardR hd (thunk env st)))
section
variable {X : Cx} {x n m fn a : Str} {C f c' : Addr} {q : Str} {i ie jc : Nat} {kn : List Str} {thunk : Ev D} {σX : L2.St} {p1 p2 p3 p4 p5 p6 p7 p8 np pos pos' : Pos}
def tHeard (K : Kx) (W : WX) (f c' : Addr) (q : Str) (i ie jc : Nat) (kn : List Str) (thunk : Ev D) (σX : L2.St) : TS := fun D σ H => σ[0]? = some (some (.ref f)) ∧ H c' = some (CodeO c' q) ∧ ∃ w env envX st, Good K w H st ∧ EnvR K w H σ env ∧ EnvR K w H σX envX ∧ (tryR i ie jc kn (thunk envX st) env).wp (Out K w H D) (FX K W w H Tr)
theorem ps_heard (hst : X.stack = X.env :: X.outer) (hfr : X.env.frame = some X.env.locals) (nd : X.N.Nodup) (hi : X.N[ie]? = some n) (hj : X.N[jc]? = some m) (hfn : X.N[i]? = some fn) (ln : X.env.kindOf n = some .local) (lm : Loc X.env.scope m) (fm : X.fn m = true ∨ X.env.scope.names.lookup m = some .local) (lf : X.env.kindOf fn = some .local) (hij : ie < X.N.length)
    (hc : Names X x (.ref C)) (hx : X.ex = []) (hd1 : (n == ("__debug__" : Str)) = false) (hd2 : (n == ("__classdict__" : Str)) = false) (hsw : swapsWith (.Name n p2) (some (.Name m p1)) p3.line X.env = pure false) (hsw2 : swapsWith (.Call (.Name a p4) [] [] p5) (some (.Name fn p6)) p7.line X.env = pure false)
    (hk : ∀ c ∈ kn, PySem.W.exmOne X.K (.ref (He.ga X.K c)) (.ref C) = some true)
    (act : ∀ (W' : WX) (pn : List (Addr × Obj)) (xe : Value → Shared → Prop), Takes (X.tr pn xe) W' → PE (X.tr pn xe) (.Call (.Name a p4) [] [] p5) (fun σZ HZ Q => σZ[0]? = some (some (.ref f)) ∧ HZ c' = some (CodeO c' q) ∧ tEv (kx X) (WD (WE W' σZ)) thunk σX HZ Q)) :
    PS X (.Try [.Assign [.Name fn p6] (.Call (.Name a p4) [] [] p5) p7] [.ExceptHandler (some (.Name x np)) (some n) [.Assign [.Name m p1] (.Name n p2) p3] pos'] [] [] pos) (tHeard (kx X) (CW X) f c' q i ie jc kn thunk σX) := by
  refine ps_weak (ps_try_keep (tb := fun W' D σ H => σ[0]? = some (some (.ref f)) ∧ H c' = some (CodeO c' q) ∧ tEv (kx X) (WD (WE W' σ)) thunk σX H fun v H' => D.nx (σ.set i (some v)) H') hst hfr nd hi hj ln lm fm hij hc hx hd1 hd2 hsw fun W' pn xe tk _ => ⟨fun pins s σ H D I h => ?_⟩) fun D σ H h => ?_
  · obtain ⟨h1, h2, h3⟩ := h
    exact (pss_one (ps_set (X := X.tr pn xe) (i := i) nd hfn (.inl lf) (act W' pn xe tk) hsw2 (.inr lf))).run pins s σ H D I ⟨h1, h2, h3⟩
  · obtain ⟨h1, h2, w, env, envX, st, g, r, rX, h⟩ := h
    refine ⟨h1, h2, w, envX, st, g, rX, ?_⟩
    cases e : thunk envX st with
    | stuck => rw [e] at h; exact h
    | ok d s1 =>
      rw [e] at h
      intro v w1 H1 e1 g1 d1
      exact (show Out (kx X) w H D (.next (env.set i (some d))) s1 from h) _ w1 H1 e1 g1 ((r.le e1.toLe).set d1)
    | exc c ns ds s1 =>
      rw [e] at h
      obtain ⟨hkn, h⟩ := must_wp h
      have h : Out (kx X) w H D (.next (((env.set ie (some (.exn c ns ds))).set jc (some (.exn c ns ds))).set ie none)) s1 := h
      intro σ1 dd vs w1 H1 _ e1 g1 fz hd hl dv
      refine ⟨hk c hkn, fun b nb => ?_⟩
      have ef : Ext w1 H1 (w1.frz b) (upd H1 b (exq b (.ref (He.ga X.K c)) (some dd))) := Ext.frz g1 nb
      have dx : Dv (kx X) (w1.frz b) (upd H1 b (exq b (.ref (He.ga X.K c)) (some dd))) (.ref b) (.exn c ns ds) := .exn (.inr rfl) upd_same (.inl fz) (by rw [upd_ne (ne_of_none hd nb)]; exact hd) hl (dv.le ef.toLe)
      exact h _ (w1.frz b) _ (e1.trans ef) (g1.frz nb) ((((r.le (e1.trans ef).toLe).set dx).set dx).unset ie)
end
/-! ### the def's body -/
section
variable {Z : Cx} {a : Str} {hd : Hd} {body rest : List Stmt}
/-- the body, once a() is known -/
def tBody (K : Kx) (W : WX) (N : List Str) (hd : Hd) (f c' : Addr) (q : Str) (thunk : Ev D) (σX : L2.St) : TS := fun D σ H => σ = L2.start N [.ref f] ∧ H c' = some (CodeO c' q) ∧ ∃ w envX st, Good K w H st ∧ EnvR K w H σX envX ∧ (heardR hd (thunk envX st)).wp (Out K w H D) (FX K W w H Tr)
def HeardB (Z : Cx) (a : Str) (hd : Hd) (body : List Stmt) : Prop := ∀ (f c' : Addr) (q : Str) (σX : L2.St) (thunk : Ev D),
  (∀ (W' : WX) (pn : List (Addr × Obj)) (xe : Value → Shared → Prop) (p1 p2 : Pos), Takes (Z.tr pn xe) W' → PE (Z.tr pn xe) (.Call (.Name a p1) [] [] p2) (fun σZ HZ Q => σZ[0]? = some (some (.ref f)) ∧ HZ c' = some (CodeO c' q) ∧ tEv (kx Z) (WD (WE W' σZ)) thunk σX HZ Q)) →
  PSs Z body (tBody (kx Z) (CW Z) Z.N hd f c' q thunk σX)
theorem heard_body {n m fn x : Str} {C : Addr} {kt k2 k3 k4 : Nat} {px py pt pt2 p0 c1 c2 p1 p2 p3 p4 p5 p6 p7 np pos pos' : Pos} (hst : Z.stack = Z.env :: Z.outer) (hfr : Z.env.frame = some Z.env.locals) (nd : Z.N.Nodup) (hx : Z.ex = []) (hcalm : Z.calm = true)
    (hi : Z.N[hd.ie]? = some n) (hj : Z.N[hd.jc]? = some m) (hfn : Z.N[hd.i]? = some fn) (ln : Z.env.scope.names.lookup n = some .local) (lm : Loc Z.env.scope m) (fm : Z.fn m = true ∨ Z.env.scope.names.lookup m = some .local) (lf : Z.env.scope.names.lookup fn = some .local) (hij : hd.ie < Z.N.length) (hjn : hd.jc ≠ hd.i) (h0j : hd.jc ≠ 0) (h0i : hd.i ≠ 0) (hn : hd.n = Z.N.length)
    (h0 : ∀ f : Addr, (L2.start Z.N [V.ref f])[0]? = some (some (V.ref f)))
    (hc : Names Z x (.ref C)) (hd1 : (n == ("__debug__" : Str)) = false) (hd2 : (n == ("__classdict__" : Str)) = false) (hsw : swapsWith (.Name n p2) (some (.Name m p1)) p3.line Z.env = pure false) (hsw2 : swapsWith (.Call (.Name a p4) [] [] p5) (some (.Name fn p6)) p7.line Z.env = pure false)
    (hk : ∀ c ∈ hd.kn, PySem.W.exmOne Z.K (.ref (He.ga Z.K c)) (.ref C) = some true)
    (hw : swappedStores [.Tuple [.Name m px, .Name fn py] kt pt] (.Tuple [.Constant .none k3 c1, .Constant .none k4 c2] k2 pt2) Z.env = pure none)
    (hs : swapsWithSole [.Tuple [.Name m px, .Name fn py] kt pt] (.Tuple [.Constant .none k3 c1, .Constant .none k4 c2] k2 pt2) p0.line Z.env = pure false)
    (ha : (assignEach [.Tuple [.Name m px, .Name fn py] kt pt] Z.env).map (·.2) = [assign (.Tuple [.Name m px, .Name fn py] kt pt) Z.env])
    (hg : PG Z (.Tuple [.Name m px, .Name fn py] kt pt) (gTup Z.K 2 (gCons (gName hd.jc) (gCons (gName hd.i) gNil))))
    (hr : PSsv Z rest hd.rest) :
    HeardB Z a hd (.Assign [.Tuple [.Name m px, .Name fn py] kt pt] (.Tuple [.Constant .none k3 c1, .Constant .none k4 c2] k2 pt2) p0 ::
      .Try [.Assign [.Name fn p6] (.Call (.Name a p4) [] [] p5) p7] [.ExceptHandler (some (.Name x np)) (some n) [.Assign [.Name m p1] (.Name n p2) p3] pos'] [] [] pos :: rest) := by
  intro f c' q σX thunk act
  have s1 := ps_asg (X := Z) (pos := p0) (pe_tup (x1 := k2) (pos := pt2) (pa_cons (pe_non (j := k3) (pos := c1)) (pa_cons (pe_non (j := k4) (pos := c2)) pa_nil (star_cons rfl)) (star_cons rfl))) hg hs hw ha
  have s2 := ps_heard (X := Z) (pos := pos) (pos' := pos') (np := np) hst hfr nd hi hj hfn ln lm fm lf hij hc hx hd1 hd2 hsw hsw2 hk fun W' pn xe tk => act W' pn xe p4 p5 tk
  refine pss_weak (pss_cons s1 (pss_cons s2 hr)) fun D σ H h => ?_
  obtain ⟨rfl, h2, w, envX, st, g, rX, h⟩ := h
  refine ⟨by show 2 ≤ sizeLine; decide, fun p hp => ⟨p, [.non, .non], rfl, .inl (.inl upd_same), rfl, .non, [.non], rfl, .non, [], rfl, rfl, ?_, ?_, w.frz p, ((startE hd.n []).set hd.jc (some .non)).set hd.i (some .non), envX, st, g.frz hp, ?_, rX.le (Ext.frz g hp).toLe, ?_⟩⟩
  · rw [List.getElem?_set_ne h0i, List.getElem?_set_ne h0j]
    exact h0 f
  · rw [upd_ne (ne_of_none h2 hp)]; exact h2
  · have e0 : EnvR (kx Z) w H (L2.start Z.N [.ref f]) (startE hd.n []) := by
      refine ⟨?_, fun i d q => ?_⟩
      · rw [hn]
        unfold L2.start startE
        have : 0 < Z.N.length := Nat.lt_of_le_of_lt (Nat.zero_le _) hij
        simp
        omega
      · unfold startE at q
        rw [List.map_nil, List.nil_append, List.getElem?_replicate] at q
        split at q <;> cases q
    exact ((e0.set .non).set .non).le (Ext.frz g hp).toLe
  · unfold heardR at h
    rw [R.wp_bind] at h
    have ef : Ext w H (w.frz p) (upd H p (.tup [.non, .non])) := Ext.frz g hp
    refine R.wp_mono h (fun fl s3 h3 => ?_) fun _ _ _ _ h => FX.ext ef h
    cases fl with
    | next env1 => exact fun σ1 w1 H1 e1 g1 r1 => ⟨w1, env1, s3, g1, r1, wp_out (ef.trans e1) h3⟩
    | brk env1 => exact Out.ext ef (f := .brk env1) h3
    | cont env1 => exact Out.ext ef (f := .cont env1) h3
    | ret d => exact Out.ext ef (f := .ret d) h3
end
/-- a def that asks a lambda -/
structure HeardF (P : Program) (w : World) (K : PySem.W.Frag) (mg : Str → Option Value) (base : Heap) (k : Nat) (y : Str) (hd : Hd) : Prop where
  ex : ∃ (g : Addr) (fd : FuncData) (a : Str) (N : List Str) (params : Arguments) (body : List Stmt) (scope : Scope), mg y = some (.ref g) ∧ FunD K y y params body scope [] [] g fd ∧ FnScope N [a] scope ∧ Binds K fd [a] [] ∧ Vis scope a ∧ N[0]? = some a ∧
    (a == ("__debug__" : Str)) = false ∧ (a == ("__classdict__" : Str)) = false ∧ ∀ (cdv : Value) (A : Around) (outer : List Env) (s : Shared) (H : Hp) (E : XK), Cz (cxOf (L2.CX P w) P w K mg base N y scope g cdv A outer s H E) k → HeardB (cxOf (L2.CX P w) P w K mg base N y scope g cdv A outer s H E) a hd body
section
variable {X : Cx} {x y : Str} {k : Nat} {hd : Hd} {T : List Str} {params : Arguments} {body : Expr} {scope : Scope} {xb : Ev D} {p lpos pos : Pos}
theorem pev_heard (HF : HeardF X.prog X.w X.K X.mg X.base (k + 1) y hd) (cz : Cz X (k + 2)) (ML : MadeL X x params body scope) (L : LamS X.N X.env.scope scope) (hxT : x ∈ T) (hu : ∀ z, z ∈ T → pa X.K z = pa X.K x → z = x)
    (hbody : ∀ (f c' : Addr) (E : XK) (A : Around) (outer : List Env) (s : Shared) (H : Hp), Cz (lamCx X A outer s H E scope f c') k → PEv (lamCx X A outer s H E scope f c') body xb) (hg : Gl X y := by rfl) (hdb : (y == ("__debug__" : Str)) = false := by decide) :
    PEv X (.Call (.Name y p) [.Lambda params body scope lpos] [] pos) (xHeard T hd xb) := by
  constructor
  intro pins s σ H Q I ⟨w, env, st, g, r, h⟩
  obtain ⟨htn, h9⟩ := must_wp h
  subst htn
  obtain ⟨gf, fd, a, N, pg, bg, sg, hm, FD, Sg, hb, hva, hN0, da, dc, hB⟩ := HF.ex
  obtain ⟨oc, od, dV, kV, doc, pm0, an, cdv, ct, osl, rfl, lk, hcg, _, _⟩ := FD.ex
  apply wpAny_Call_Name_kw
  apply ld_glob I hg hm (hd := hdb)
  refine PySem.W.callWith_K (h₀ := X.base) I.ok.mod.kin FD.kp ?_ (by rfl) (by rfl)
  show wpAny _ _ (spliced ((false, eval (.Lambda params body scope lpos) X.env) :: backTo pos (starEach [] X.env))) _ _ s
  apply Calls.spliced_cons
  refine ML pins σ H s w st lpos _ I g hxT hu (L.has I.ok) fun f c' pm ctv dv binds os w1 H1 s' I1 e1 g1 b1 fz hco hbind hloc => ?_
  refine Calls.spliced_nil ⟨I1.kIn, ?_⟩
  apply wpAny_call
  refine codeAny_mono (LamX.run_ofS (CX := L2.CX X.prog X.w) (E := WE (CW X) σ) (Q := Q) (N := N) (ps := [a]) (us := [.ref f]) (vs := [.ref f]) (H := H1) (k := k + 1) lk hcg Sg cz.room I1.env0 (hb s' [.ref f] I1.kIn rfl) (.cons rfl .nil) rfl fun hr' => ?_) fun r s2 hq => ?_
  · have czg : Cz (cxOf (L2.CX X.prog X.w) X.prog X.w X.K X.mg X.base N y sg gf cdv X.A X.stack s' H1 (WE (CW X) σ)) (k + 1) := ⟨hr', cz.grd, rfl, Sg.nd⟩
    have P := hB cdv X.A X.stack s' H1 (WE (CW X) σ) czg f c' (X.env.qual ++ "<lambda>") σ xb fun W' pn xe p1 p2 tk =>
      pe_act (i := 0) I1 L b1 hbind hloc tk cz hr' (fun E A outer s H cz' => hbody f c' E A outer s H cz') hN0 hva da dc
    refine ⟨_, P, rfl, hco, w1, env, st, g1, r.le e1.toLe, ?_⟩
    have h := resOf_wp h9
    refine R.wp_mono h (fun fl s2 h2 => ?_) fun c ns xs s2 h2 => ?_
    · rcases h2 with ⟨env2, rfl, h2⟩ | ⟨d, rfl, h2⟩
      · exact fun σ' w2 H2 e2 g2 _ => h2 .non w2 H2 (e1.trans e2) g2 .non
      · exact fun v w2 H2 e2 g2 d2 => h2 v w2 H2 (e1.trans e2) g2 d2
    · exact fun σ' dd vs2 w2 H2 _ e2 g2 fz hd hl2 dv => CW.of tk_def (h2 σ dd vs2 w2 H2 rfl (e1.trans e2) (g2.cut _) fz hd hl2 dv)
  · cases r with
    | error e => exact passAt cw_takes σ _ _ _ e s2 I1 hq
    | ok fl =>
      cases fl with
      | ret u => exact I1.after hq
      | next => exact False.elim hq
      | brk => exact False.elim hq
      | cont => exact False.elim hq
end
end Qv
end
section
set_option Elab.async false
set_option autoImplicit false
set_option linter.all false
set_option maxRecDepth 100000
set_option maxHeartbeats 2000000
/-! Qv: the end of a law's row. -/
namespace Qv
open PySem L2 PySem.Spec PyProof.Rows
section
variable {P : Program} {w : World} {K : PySem.W.Frag} {mg mb : Str → Option Value} {k : Nat} {fa a : Addr} {fd : FuncData} {x : Str} {cn : List D → Sto → R D} {s1 : Shared} {vs : List Value} {ns : List Int} {tn : List Str}
theorem dvs_ints {K : Kx} {w : Wd} {H : Hp} : ∀ ns : List Int, Dvs K w H (ns.map V.int) (ns.map D.int)
  | [] => .nil
  | n :: ns => .cons (.int n) (dvs_ints ns)
/-- what is tracked at a law's entry: the script, if it is new, and the tables of those that make lambdas -/
def hAt (K : PySem.W.Frag) (tn : List Str) (a : Addr) (o : Obj) (us : List V) : Hp := fun b => if b = a then (if (K.lookup a).isSome = true then none else some (.frz o (.lst us))) else if b ∈ tn.map (pa K) then some (.tbl #[]) else none
section
variable {o : Obj} {us : List V}
theorem hAt_tab (hA : a ∉ tn.map (pa K)) {b : Addr} (hb : b ∈ tn.map (pa K)) : hAt K tn a o us b = some (.tbl #[]) := by
  unfold hAt
  rw [if_neg fun z => hA (by rw [← z]; exact hb), if_pos hb]
theorem hAt_of {b : Addr} {u : HO} (h : hAt K tn a o us b = some u) : (b = a ∧ K.lookup a = none ∧ u = .frz o (.lst us)) ∨ (b ∈ tn.map (pa K) ∧ u = .tbl #[]) := by
  unfold hAt at h
  by_cases z : b = a
  · rw [if_pos z] at h
    cases q : K.lookup a with
    | some _ => rw [q] at h; cases h
    | none => rw [q] at h; cases h; exact .inl ⟨z, rfl, rfl⟩
  · rw [if_neg z] at h
    by_cases y : b ∈ tn.map (pa K)
    · rw [if_pos y] at h; cases h; exact .inr ⟨y, rfl⟩
    · rw [if_neg y] at h; cases h
theorem hAt_new (h : K.lookup a = none) : hAt K tn a o us a = some (.frz o (.lst us)) := by
  unfold hAt
  rw [if_pos rfl, h]; rfl
theorem good_at (hA : a ∉ tn.map (pa K)) : Good ⟨K, w⟩ ⟨[], fun b => b = a ∧ K.lookup a = none⟩ (hAt K tn a o us) ⟨0, [], tn⟩ := by
  refine ⟨rfl, List.nodup_nil, fun b m => (nomatch m), fun b m => ?_, fun k m e => (nomatch e), fun y hy => ⟨fun m => (nomatch m), fun m => ?_, #[], ?_, trivial, fun pos cv hc => ?_⟩, fun b ps e => ?_⟩
  · obtain ⟨rfl, h⟩ := (show b = a ∧ K.lookup a = none from m)
    rw [hAt_new h]; intro z; cases z
  · exact hA ((show pa K y = a ∧ K.lookup a = none from m).1 ▸ List.mem_map.mpr ⟨y, hy, rfl⟩)
  · exact hAt_tab hA (List.mem_map.mpr ⟨y, hy, rfl⟩)
  · have z : codeAmong pos [] = some cv := hc
    simp [codeAmong] at z
  · rcases hAt_of e with ⟨_, _, z⟩ | ⟨z, _⟩
    · cases z
    · obtain ⟨y, hy, e⟩ := List.mem_map.mp z
      exact ⟨y, hy, e.symm⟩
end
theorem law_end (KX : K.In s1.heap) (hns : s1.heap.Ns mainGlobals mg) (hb : s1.heap.Ns builtinsNs mb) (hbb : ∀ x : Str, x ≠ "__name__" → mb x = bootBuiltins x) (hlim : s1.heap.NoLimit) (hg : s1.gens = #[])
    (hT : ∀ y, y ∈ tn → s1.heap.get? (pa K y) = some { cls := .none, data := .fields #[] }) (nT : ∀ y, y ∈ tn → K.lookup (pa K y) = none) (hC : ∀ y, y ∈ tn → PySem.W.codeHdIn K (ca K y) (pa K y) = true)
    (hbm : ∃ (bm : Addr) (ob : Obj), mg "__builtins__" = some (.ref bm) ∧ bm ≠ builtinsNs ∧ s1.heap.get? bm = some ob ∧ ob.cls = .type "module" ∧ ob.dict = some builtinsNs ∧ ob.data = .plain)
    (ha : s1.heap.get? a = some { cls := .type "list", data := .seq vs.toArray }) (hi : IntsAre vs ns) (hl : ns.length ≤ sizeLine) (hr : Room k callerA)
    (F : ∀ base : Heap, K.In base → base.Ns mainGlobals mg → (∀ y, y ∈ tn → LamX.TabB base mg (ca K y) (pa K y)) → FnX P w K mg base k fa fd [x] (spx ⟨K, w⟩ cn))
    (hbind : ∀ (s : Shared) (u : Value), BindsTo s fd ⟨[u], []⟩ [(x, u)]) (hcn : ∃ st, cn [.rol (ns.map D.int)] ⟨0, [], tn⟩ = .ok (.bl true) st) :
    codeAny (model P w) callerA (.call (.ref fa) ⟨[.ref a], []⟩) (fun r s' => r = .ok (.ret (.bool true)) ∧ OldK s1.heap s'.heap ∧ s'.os = s1.os ∧ AllBare s'.gens) s1 := by
  obtain ⟨st', hcn⟩ := hcn
  have rv := vals_ints hi
  have tabs : ∀ {b : Addr}, b ∈ tn.map (pa K) → s1.heap.get? b = some { cls := .none, data := .fields #[] } := fun {b} m => by
    obtain ⟨y, hy, e⟩ := List.mem_map.mp m
    rw [← e]; exact hT y hy
  have hA : a ∉ tn.map (pa K) := fun z => by
    have q := tabs z
    rw [ha] at q
    cases q
  obtain ⟨H, hH⟩ : ∃ H : Hp, H = hAt K tn a { cls := .type "list", data := .seq vs.toArray } (ns.map V.int) := ⟨_, rfl⟩
  have hof : ∀ {b : Addr} {u : HO}, H b = some u → (b = a ∧ K.lookup a = none ∧ u = .frz { cls := .type "list", data := .seq vs.toArray } (.lst (ns.map V.int))) ∨ (b ∈ tn.map (pa K) ∧ u = .tbl #[]) := fun {b u} e => hAt_of (hH ▸ e)
  have hok : HOk P w H s1.heap := fun b u e => by
    rcases hof e with ⟨e1, e2, e3⟩ | ⟨e1, e2⟩
    · subst e1 e3
      exact ⟨ha, by rw [List.length_map]; exact hl, vs, _, rv, ha⟩
    · subst e2
      exact tabs e1
  have free : ∀ {b : Addr} {ob : Obj}, s1.heap.get? b = some ob → ob ≠ { cls := .type "list", data := .seq vs.toArray } → ob ≠ { cls := .none, data := .fields #[] } → H b = none := fun {b ob} e n1 n2 => by
    cases q : H b with
    | none => rfl
    | some u =>
      rcases hof q with ⟨e1, _, _⟩ | ⟨e1, _⟩
      · rw [e1, ha] at e
        exact absurd (Option.some.inj e).symm n1
      · rw [tabs e1] at e
        exact absurd (Option.some.inj e).symm n2
  have dic : ∀ {b : Addr} {ob : Obj} {es : Array DictEntry} {ep : Nat}, s1.heap.get? b = some ob → ob.data = .dict es ep → H b = none := fun {b ob es ep} e d => free e (fun z => by rw [z] at d; cases d) (fun z => by rw [z] at d; cases d)
  have spaces : ∀ {b : Addr} {m : Str → Option Value}, s1.heap.Ns b m → (hidT s1.heap H).Ns b m := fun {b m} hm => by
    obtain ⟨ob, es, ep, e, d, r⟩ := hm
    exact ⟨ob, es, ep, hidT_get e (dic e d), d, r⟩
  have kin : K.In (hidT s1.heap H) := fun b ob e => hidT_get (KX b ob e) (by
    cases q : H b with
    | none => rfl
    | some u =>
      rcases hof q with ⟨e1, e2, _⟩ | ⟨e1, _⟩
      · rw [e1, e2] at e; cases e
      · obtain ⟨y, hy, e2⟩ := List.mem_map.mp e1
        rw [← e2, nT y hy] at e; cases e)
  have TB : ∀ y, y ∈ tn → LamX.TabB (hidT s1.heap H) mg (ca K y) (pa K y) := fun y hy => by
    obtain ⟨bm, ob, b1, b2, b3, b4, b5, b6⟩ := hbm
    have nG : ∀ {b : Addr}, (∀ (ob : Obj), s1.heap.get? b = some ob → ∀ es ep, ob.data ≠ .dict es ep) → b ≠ mainGlobals := fun {b} n z => by
      obtain ⟨om, es, ep, e, d, _⟩ := hns
      exact n om (by rw [z]; exact e) es ep d
    refine NdefX.tabB_of_K kin (hC y hy) ⟨bm, ob, b1, b2, nG fun o e es ep d => ?_, fun z => ?_, hidT_get b3 (free b3 (fun z => ?_) fun z => ?_), b4, b5, b6⟩ fun z => nG (fun o e es ep d => ?_) z.symm
    · rw [b3] at e; cases e; rw [b6] at d; cases d
    · rw [z, hT y hy] at b3; cases b3; cases b6
    · rw [z] at b6; cases b6
    · rw [z] at b6; cases b6
    · rw [hT y hy] at e; cases e; cases d
  obtain ⟨mc, c1, c2⟩ := hlim
  have hmod : Mod K mg (hidT s1.heap H) := ⟨kin, spaces hns, ⟨mb, spaces hb, hbb⟩, ⟨mc, spaces c1, c2⟩⟩
  have e0 : Env0 P w K mg (hidT s1.heap H) callerA [] s1 H := ⟨rfl, hmod, fun b o e => of_hidT e, Nat.le_of_eq (hidT_size _ _), trivial, fun b z => absurd (show b ∈ ([] : List Addr) from z) List.not_mem_nil, hok, .of_eq hg⟩
  have gd : Good ⟨K, w⟩ ⟨[], fun b => b = a ∧ K.lookup a = none⟩ H ⟨0, [], tn⟩ := hH ▸ good_at hA
  have dv : Dv ⟨K, w⟩ ⟨[], fun b => b = a ∧ K.lookup a = none⟩ H (.ref a) (.rol (ns.map D.int)) := by
    cases hk : K.lookup a with
    | some o =>
      have e := KX a o hk
      rw [ha] at e
      cases e
      exact .krol (.inr ⟨_, vs.toArray, _, hk, rfl, rfl, rfl, by rw [List.size_toArray, hi.length]; exact hl, by simpa using rv⟩) (dvs_ints ns)
    | none => exact .rol (show a = a ∧ _ = none from ⟨rfl, rfl⟩) (show H a = _ by rw [hH]; exact hAt_new hk) (dvs_ints ns)
  have hsp : spx ⟨K, w⟩ cn [.ref a] H (fun v _ => v = .bl true) fun _ _ _ => False := by
    refine ⟨_, _, _, gd, .cons dv .nil, ?_⟩
    rw [hcn]
    intro v w' H' e g d
    cases d
    rfl
  refine codeAny_mono ((F _ kin (spaces hns) TB).run callerA [] s1 H ⟨[.ref a], []⟩ [.ref a] [.ref a] _ _ hr rfl e0 (hbind s1 (.ref a)) (.cons rfl .nil) hsp) fun r s' h => ?_
  cases r with
  | error e =>
    obtain ⟨_, _, _, _, _, _, _, _, _, _, _, _, z⟩ := (show L2.CX P w [] H s1 (fun _ _ _ => False) e s' from h)
    exact z.elim
  | ok fl =>
    cases fl with
    | next => exact h.elim
    | brk => exact h.elim
    | cont => exact h.elim
    | ret u =>
      obtain ⟨v, H', os, bare, un, ok', rv', q⟩ := h
      have q : v = .bl true := q
      subst q
      have rv' : u = Value.bool true := rv'
      subst rv'
      have old : ∀ b o, b ∉ tn.map (pa K) → s1.heap.get? b = some o → s'.heap.get? b = some o := fun b o nb e => by
        cases q : H b with
        | none => exact un.keep b o e q List.not_mem_nil List.not_mem_nil
        | some u =>
          rcases hof q with ⟨_, _, e3⟩ | ⟨e1, _⟩
          · subst e3
            obtain ⟨e1, _⟩ := hok b _ q
            obtain ⟨e2, _⟩ := ok' b _ (un.frzs b _ _ q)
            rw [e] at e1
            cases e1
            exact e2
          · exact absurd e1 nb
      have grew : ∀ b, b ∈ tn.map (pa K) → ∃ more : Array Value, s'.heap.get? b = some { cls := .none, data := .fields more } := fun b m => by
        obtain ⟨more, z⟩ := un.tbls b #[] (by rw [hH]; exact hAt_tab hA m)
        exact ⟨_, ok' b _ z⟩
      refine ⟨rfl, ⟨fun b o e => ?_, fun b o e => ?_⟩, os, bare⟩
      · by_cases m : b ∈ tn.map (pa K)
        · obtain ⟨y, hy, ey⟩ := List.mem_map.mp m
          obtain ⟨more, hm⟩ := grew b m
          have e' := e
          rw [tabs m] at e'
          cases e'
          refine .inr (.inl ⟨?_, rfl, #[], more, rfl, by rw [Array.empty_append]; exact hm⟩)
          subst ey
          exact ((PySem.W.codeHd_of_K KX (hC y hy)).tab (hT y hy)).isCodeTable
        · exact .inl (old b o m e)
      · by_cases m : b ∈ tn.map (pa K)
        · obtain ⟨more, hm⟩ := grew b m
          exact ⟨_, hm⟩
        · exact ⟨o, old b o m e⟩
end
/-- the walk of a law -/
theorem walk_Q {l : PySem.W.OpenLaw} {n k : Nat} {q : Program} {loose : List Str} {XP : (Str → Option Value) → Heap → Prop} {YP : World → Heap → Prop} {d : DefRec} {x : Str} {tn : List Str}
    (hn : l.most = some n) (hn2 : n ≤ sizeLine) (hdf : d.params.defaults = []) (hr : Room k callerA)
    (F : ∀ (w : World) (mg : Str → Option Value) (fa : Addr) (h : Heap), YP w h → h.Ns mainGlobals mg → mg d.name = some (.ref fa) →
      ∃ (K : PySem.W.Frag) (fd : FuncData) (cn : List D → Sto → R D), K.In h ∧ (∀ y, y ∈ tn → h.get? (pa K y) = some { cls := .none, data := .fields #[] }) ∧ (∀ y, y ∈ tn → K.lookup (pa K y) = none) ∧ (∀ y, y ∈ tn → PySem.W.codeHdIn K (ca K y) (pa K y) = true) ∧
        (∀ (s : Shared) (u : Value), BindsTo s fd ⟨[u], []⟩ [(x, u)]) ∧
        (∀ ns : List Int, ns.length ≤ n → (∀ z ∈ ns, Builtin.Int.intBits z ≤ 1048576) → ∃ st, cn [.rol (ns.map D.int)] ⟨0, [], tn⟩ = .ok (.bl true) st) ∧
        ∀ base : Heap, K.In base → base.Ns mainGlobals mg → (∀ y, y ∈ tn → LamX.TabB base mg (ca K y) (pa K y)) → FnX l.prog w K mg base k fa fd [x] (spx ⟨K, w⟩ cn)) :
    PySem.W.WalkO q loose XP YP l.row.toRowW d [] (fun f vs => PySem.call f vs) := by
  apply Att.attach_callB hn hdf
  intro w s₀ s₁ mg mb fa o pm cd doc a vs ns G Y ho hd hcd hmg hobj hints hlen hbits hg
  obtain ⟨K, fd, cn, kx, hT, nT, hC, hb, hcn, hF⟩ := F w mg fa _ Y G.T.g hmg
  exact law_end kx G.T.g G.T.b G.T.builtins G.T.nolimit hg hT nT hC G.T.bmain hobj hints (Nat.le_trans hlen hn2) hr hF hb (hcn ns hlen hbits)
end Qv
end
section
set_option Elab.async false
set_option autoImplicit false
set_option linter.all false
set_option maxRecDepth 100000
set_option maxHeartbeats 2000000
/-! Qv: what the head must say, as Bools; the Hook. -/
namespace Qv
open PySem L2 PySem.Spec PyProof.Rows
section
variable {K : PySem.W.Frag} {C : Addr}
/-! ### classes -/
def oexB (K : PySem.W.Frag) (C : Addr) : Bool := (match K.lookup C with
  | some ⟨.type "type", _, .cls cd, sl⟩ => (match cd.mro, sl.toList with
    | .ref C' :: bm, [_, _, _, _, some (.builtin n), _] => decide (C' = C) && (decide (n = "ValueError.__new__") && (!cd.hasDel && (cd.hasDict && PySem.HandSPX.refsVE bm)))
    | _, _ => false)
  | _ => false) && decide (PySem.W.findIn K (.ref C) "__setattr__" = some (some (.builtin "object.__setattr__")) ∧ PySem.W.subIn K (.ref C) (.type "BaseException") = some true ∧ PySem.W.typeIn K (.ref C) = some (.type "type") ∧ PySem.W.keepIn K (.ref C) = true)
theorem oexB_ok (h : oexB K C = true) : OexC K C := by
  unfold oexB at h
  rw [Bool.and_eq_true] at h
  obtain ⟨h, h2⟩ := h
  obtain ⟨a1, a2, a3, a4⟩ := of_decide_eq_true h2
  refine ⟨?_, a1, a2, a3, a4⟩
  split at h
  · rename_i dd cd sl ho
    split at h
    · rename_i C' bm k0 k1 k2 k3 n k5 hm hs
      simp only [Bool.and_eq_true, decide_eq_true_eq, Bool.not_eq_true'] at h
      obtain ⟨rfl, rfl, hdel, hdic, ht⟩ := h
      obtain ⟨nm, bs, mro, ns, qn, hd, sn, sub, ab, col, del⟩ := cd
      dsimp only at hm hdel hdic
      subst hm hdel hdic
      obtain ⟨l⟩ := sl
      have hs : l = [k0, k1, k2, k3, some (.builtin "ValueError.__new__"), k5] := hs
      subst hs
      exact ⟨nm, qn, ns, bs, bm, sn, sub, ab, col, dd, k0, k1, k2, k3, k5, ho, ht⟩
    · cases h
  · cases h
def xqB (K : PySem.W.Frag) (C : Addr) : Bool := decide ((PySem.W.clsIn K C).isSome = true ∧ PySem.W.findIn K (.ref C) "__getattribute__" = some (some (.builtin "BaseException.__getattribute__")) ∧ PySem.W.findIn K (.ref C) "__getattr__" = some none ∧ PySem.W.subIn K (.ref C) (.type "BaseException") = some true ∧
  PySem.W.hasDictIn K C = true ∧ PySem.W.findIn K (.ref C) "__class__" = some (some (.builtin "object.__class__")) ∧ PySem.W.specialIn K (.builtin "object.__class__") "__get__" = some (some (.builtin "getset_descriptor.__get__")) ∧ PySem.W.takesIn K (.builtin "object.__class__") = some true ∧ PySem.W.mroIn K C (.type "object") = some true)
theorem xqB_ok (h : xqB K C = true) : XqC K C := by
  obtain ⟨a1, a2, a3, a4, a5, a6, a7, a8, a9⟩ := of_decide_eq_true h
  exact ⟨a1, a2, a3, a4, a5, a6, a7, a8, a9⟩
def clsB (K : PySem.W.Frag) (C : Addr) : Bool := decide (PySem.W.plainGet K C Str.empty = true ∧ PySem.W.hasDictIn K C = true ∧ PySem.W.plainOver K C = true ∧ PySem.W.findIn K (.ref C) "__setattr__" = some (some (.builtin "object.__setattr__")))
theorem clsB_ok (h : clsB K C = true) : Cls K C := by
  obtain ⟨a1, a2, a3, a4⟩ := of_decide_eq_true h
  exact ⟨a1, a2, a3, a4⟩
def insB (K : PySem.W.Frag) (C : Addr) : Bool := clsB K C && decide (PySem.W.findIn K (.ref C) "__class__" = some (some (.builtin "object.__class__")) ∧ PySem.W.specialIn K (.builtin "object.__class__") "__get__" = some (some (.builtin "getset_descriptor.__get__")) ∧ PySem.W.takesIn K (.builtin "object.__class__") = some true ∧ PySem.W.mroIn K C (.type "object") = some true)
theorem insB_ok (h : insB K C = true) : InsC K C := by
  unfold insB at h
  rw [Bool.and_eq_true] at h
  obtain ⟨a2, a3, a4, a5⟩ := of_decide_eq_true h.2
  exact ⟨clsB_ok h.1, a2, a3, a4, a5⟩
/-- the known classes -/
def knB (K : PySem.W.Frag) (kn ki : List Str) : Bool := (kn.all fun c => xqB K (He.ga K c)) && ki.all fun c => insB K (He.ga K c)
theorem knB_ok {kn ki : List Str} (h : knB K kn ki = true) : Kn K kn ki := by
  unfold knB at h
  rw [Bool.and_eq_true, List.all_eq_true, List.all_eq_true] at h
  exact ⟨fun c hc => xqB_ok (h.1 c hc), fun c hc => insB_ok (h.2 c hc)⟩
/-- no built-in class is theirs -/
def allCl : List Cl := [.int, .bool, .str, .list, .tuple, .dict]
theorem mem_allCl (c : Cl) : c ∈ allCl := by cases c <;> simp [allCl]
def biB (K : PySem.W.Frag) (cs : List Str) : Bool := cs.all fun c => allCl.all fun cl => decide (PySem.W.kitOne K (.ref (He.ga K c)) (.type cl.nm) = some false)
theorem isiB_ok {kn ki : List Str} {cs : List Cl} (N : Kn K kn ki) (h : biB K (kn ++ ki) = true) : IsiF K kn ki cs := by
  unfold biB at h
  rw [List.all_eq_true] at h
  exact ⟨N, fun c hc cl _ => of_decide_eq_true (List.all_eq_true.mp (h c hc) cl (mem_allCl cl))⟩
def allKd : List Kd := [.non, .bl, .int, .str, .tup, .lst, .dct]
theorem mem_allKd (c : Kd) : c ∈ allKd := by cases c <;> simp [allKd]
def iscB (K : PySem.W.Frag) (c : Str) (cs su : List Str) : Bool := (allKd.all fun k => decide (PySem.W.kitOne K (.type k.nm) (.ref (He.ga K c)) = some false)) && cs.all fun c' => decide (PySem.W.kitOne K (.ref (He.ga K c')) (.ref (He.ga K c)) = some (decide (c' ∈ su)))
theorem iscB_ok {c : Str} {kn ki su : List Str} (N : Kn K kn ki) (h : iscB K c (kn ++ ki) su = true) : IscF K c kn ki su := by
  unfold iscB at h
  rw [Bool.and_eq_true, List.all_eq_true, List.all_eq_true] at h
  exact ⟨N, fun k => of_decide_eq_true (h.1 k (mem_allKd k)), fun c' hc => of_decide_eq_true (h.2 c' hc)⟩
def fldB (K : PySem.W.Frag) (f : Str) (cs : List Str) : Bool := cs.all fun c => decide (PySem.W.findIn K (.ref (He.ga K c)) f = some none)
theorem fldB_ok {f : Str} {kn ki : List Str} (N : Kn K kn ki) (h : fldB K f (kn ++ ki) = true) : FldF K f kn ki := by
  unfold fldB at h
  rw [List.all_eq_true] at h
  exact ⟨fun c hc => ⟨N.ex c hc, of_decide_eq_true (h c (List.mem_append_left _ hc))⟩, fun c hc => ⟨(N.ob c hc).cl, (of_decide_eq_true (h c (List.mem_append_right _ hc)) : PySem.W.findIn K (.ref (He.ga K c)) f = some none)⟩⟩
/-- own == and != -/
def eqB (K : PySem.W.Frag) (c : Str) (cs : List Str) : Bool := (allKd.all fun k => PySem.W.notFirst K (He.ga K c) (.type k.nm)) && ((cs.all fun c' => PySem.W.notFirst K (He.ga K c) (.ref (He.ga K c'))) && decide (PySem.W.findIn K (.ref (He.ga K c)) "__ne__" = some (some (.builtin "object.__ne__")) ∧ PySem.W.mroIn K (He.ga K c) (.type "object") = some true))
theorem eqB_ok {P : Program} {w : World} {mg : Str → Option Value} {base : Heap} {call : Ca} {k : Nat} {tbl : List (Str × Nat × List Nat)} {kn ki : List Str} (N : Kn K kn ki) (O : OwnF P w K mg base call k "__eq__" 2 tbl) (h : ∀ c p, lkM c tbl = some p → eqB K c (kn ++ ki) = true) : EqF P w K mg base call k tbl kn ki := by
  have key : ∀ c p, lkM c tbl = some p → (∀ k : Kd, PySem.W.notFirst K (He.ga K c) (.type k.nm) = true) ∧ (∀ c' ∈ kn ++ ki, PySem.W.notFirst K (He.ga K c) (.ref (He.ga K c')) = true) ∧ PySem.W.findIn K (.ref (He.ga K c)) "__ne__" = some (some (.builtin "object.__ne__")) ∧ PySem.W.mroIn K (He.ga K c) (.type "object") = some true := fun c p hp => by
    have := h c p hp
    unfold eqB at this
    rw [Bool.and_eq_true, Bool.and_eq_true, List.all_eq_true, List.all_eq_true] at this
    exact ⟨fun k => this.1 k (mem_allKd k), this.2.1, of_decide_eq_true this.2.2⟩
  exact ⟨O, N, fun c p hp => (key c p hp).1, fun c p hp => (key c p hp).2.1, fun c p hp => (key c p hp).2.2⟩
/-- a class takes another's exceptions -/
def exmB (K : PySem.W.Frag) (kn : List Str) (c : Str) : Bool := kn.all fun c' => decide (PySem.W.exmOne K (.ref (He.ga K c')) (.ref (He.ga K c)) = some true)
theorem exmB_ok {kn : List Str} {c : Str} (h : exmB K kn c = true) : ∀ c' ∈ kn, PySem.W.exmOne K (.ref (He.ga K c')) (.ref (He.ga K c)) = some true := fun c' hc => of_decide_eq_true (List.all_eq_true.mp h c' hc)
/-! ### __init__ by super().__init__(x) -/
abbrev FnS : Type := Option (Str × Str × Arguments × FuncBody × Scope × Addr × Addr)
def iniA (K : PySem.W.Frag) (c : Str) : Addr := He.ma K (He.ga K c) "__init__"
def fnS (K : PySem.W.Frag) (c : Str) : FnS := match K.lookup (iniA K c) with
  | some ⟨_, _, .func fd, _⟩ => some (fd.name, fd.qualname, fd.params, fd.body, fd.scope, fd.globals, fd.builtins)
  | _ => none
/-- the class, its field, the qualified name, the def -/
structure SupD where
  c : Str
  x : Str
  q : Str
  st : Stmt
def SupD.val (d : SupD) : FnS := some ("__init__", d.q, defArgs d.st, .stmts (defBody d.st), defScope d.st, mainGlobals, builtinsNs)
def supB (K : PySem.W.Frag) (file : Str) (d : SupD) : Bool := (match K.lookup (iniA K d.c) with
  | some ⟨_, _, .func fd, _⟩ => (match fd.closure, fd.code, fd.defaults with
    | [(n, cc)], .ref cda, .none => decide (n = ("__class__" : Str)) && (PySem.W.codeIn K (.ref cda) d.q && ((match K.lookup cc with
        | some ⟨_, _, .cell (some (.ref C)), _⟩ => decide (C = He.ga K d.c)
        | _ => false) && (match K.lookup cda with
        | some ⟨_, _, .fields vs, _⟩ => (match (vs[2]? : Option Value) with
          | some (.str f _) => f == file
          | _ => false)
        | _ => false)))
    | _, _, _ => false)
  | _ => false) && (oexB K (He.ga K d.c) && decide (PySem.W.findIn K (.ref (He.ga K d.c)) "__init__" = some (some (.ref (iniA K d.c))) ∧ PySem.W.typeIn K (.ref (iniA K d.c)) = some (.type "function") ∧ PySem.W.findIn K (.ref (He.ga K d.c)) d.x = some none ∧ (PySem.W.clsIn K (He.ga K d.c)).isSome = true ∧
    PySem.W.mroIn K (He.ga K d.c) (.ref (He.ga K d.c)) = some true ∧ PySem.W.nsIn K cStatics "thirdparty.any" = some none ∧ PySem.W.ks_superIn K (He.ga K d.c) (He.ga K d.c) "__init__" = some (some (.builtin "ValueError.__init__")) ∧ PySem.W.subIn K (.ref (He.ga K d.c)) (.type "ValueError") = some true))
def supS (x : Str) (sc : Scope) : Bool := decide (sc.kind = .function ∧ sc.isCoroutine = false ∧ sc.isGenerator = false ∧ (["self", x] : List Str).Nodup ∧ (∀ p ∈ (["self", x] : List Str), sc.names.lookup p = some .local)) &&
  ((sc.names.all fun y => (!decide (y.2 = .cell)) && (!decide (y.2 = .free) || decide (y.1 = ("__class__" : Str)))) && decide (sc.names.lookup ("super" : Str) = some .globalImplicit ∧ sc.names.lookup ("__class__" : Str) = some .free))
theorem supS_ok {x : Str} {sc : Scope} (h : supS x sc = true) : SupS ["self", x] sc := by
  unfold supS at h
  rw [Bool.and_eq_true, Bool.and_eq_true, List.all_eq_true] at h
  obtain ⟨h1, h2, h3⟩ := h
  obtain ⟨a1, a2, a3, a4, a5⟩ := of_decide_eq_true h1
  obtain ⟨b1, b2⟩ := of_decide_eq_true h3
  have key : ∀ y ∈ sc.names, y.2 ≠ .cell ∧ (y.2 = .free → y.1 = ("__class__" : Str)) := fun y hy => by
    have := h2 y hy
    simp only [Bool.and_eq_true, Bool.or_eq_true, Bool.not_eq_true', decide_eq_false_iff_not, decide_eq_true_eq] at this
    exact ⟨this.1, fun e => this.2.resolve_left (fun z => z e)⟩
  refine ⟨a1, a2, a3, a4, a5, fun y hy => ?_, fun y hy => (key y hy).1, b1, b2⟩
  rcases hy with hy | hy
  · exact absurd rfl (key _ (PySem.mem_of_lookup hy)).1
  · exact (key _ (PySem.mem_of_lookup hy)).2 rfl
end
section
variable {P : Program} {w : World} {K : PySem.W.Frag} {mg : Str → Option Value} {base : Heap}
theorem sup_of {d : SupD} {k : Nat} {ar : Arg} {p0 p1 p2 p3 p4 p5 p6 p7 p8 p9 : Pos} (hm : mg d.c = some (.ref (He.ga K d.c))) (hs : mg "super" = none) (e : fnS K d.c = d.val) (h : supB K P.main.file d = true) (htop : (P.main.scope.names.lookup ("super" : Str)).isSome = false) (S : supS d.x (defScope d.st) = true)
    (hp : ((defArgs d.st).posonlyargs ++ (defArgs d.st).args).head? = some ar) (hself : ar.arg = "self") (hb : defBody d.st = [.Expr (.Call (.Attribute (.Call (.Name "super" p0) [] [] p1) "__init__" p2) [.Name d.x p3] [] p4) p5, .Assign [.Attribute (.Name "self" p6) d.x p7] (.Name d.x p8) p9])
    (hev : ∀ env : Env, ∃ pl : Sem Bool, eval (.Call (.Attribute (.Call (.Name "super" p0) [] [] p1) "__init__" p2) [.Name d.x p3] [] p4) env = (do
      let ov ← attributeBase (.Call (.Name "super" p0) [] [] p1) "__init__" env (eval (.Call (.Name "super" p0) [] [] p1) env)
      standAt p2.atName
      let (f, first) ← holding [ov] (getMethod ov "__init__" pl)
      callWith p4 f first (backTo p4 (starEach [.Name d.x p3] env)) []))
    (hsw : ∀ env : Env, swapsWith (.Name d.x p8) (some (.Attribute (.Name "self" p6) d.x p7)) p9.line env = pure false) (hx1 : (d.x == ("__debug__" : Str)) = false) (hx2 : (d.x == ("__classdict__" : Str)) = false)
    (hbind : ∀ (cl : List (Str × Addr)) (kV doc pm : Value) (an : Option Addr) (cdv ct : Value) (us : List Value), us.length = 2 → bindArgs (PySem.W.fnX "__init__" d.q (defArgs d.st) (defBody d.st) (defScope d.st) cl .none kV doc pm an cdv ct) ⟨us, []⟩ = pure ((["self", d.x] : List Str).zip us)) :
    ∃ fI fd, SupCls P w K mg base (k + 1) d.c d.x fI fd := by
  unfold supB at h
  rw [Bool.and_eq_true, Bool.and_eq_true] at h
  obtain ⟨h, hO, hD⟩ := h
  obtain ⟨d1, d2, d3, d4, d5, d6, d7, d8⟩ := of_decide_eq_true hD
  split at h
  · rename_i oc od fd osl lk
    split at h
    · rename_i n cc cda hcl hcd hdf
      rw [Bool.and_eq_true, Bool.and_eq_true, Bool.and_eq_true] at h
      obtain ⟨e1, e2, e3, e4⟩ := h
      have e1 := of_decide_eq_true e1
      subst e1
      split at e3
      · rename_i cl cld C csl lc
        have e3 := of_decide_eq_true e3
        subst e3
        split at e4
        · rename_i ccl cdd vs0 ccs lcd
          split at e4
          · rename_i fl tf hvs
            unfold fnS at e
            rw [lk] at e
            obtain ⟨n1, n2, n3, n4, n5, n6, n7, n8, n9, n10, n11, n12, n13, n14, n15⟩ := fd
            have e : (some (n1, n2, n3, n4, n5, n6, n15) : FnS) = some (("__init__" : Str), d.q, defArgs d.st, .stmts (defBody d.st), defScope d.st, mainGlobals, builtinsNs) := e
            simp only [Option.some.injEq, Prod.mk.injEq] at e
            obtain ⟨r1, r2, r3, r4, r5, r6, r7⟩ := e
            dsimp only at hcl hcd hdf
            subst r1 r2 r3 r4 r5 r6 r7 hcl hcd hdf
            obtain ⟨cdC, hC⟩ := Option.isSome_iff_exists.mp d4
            have O := oexB_ok hO
            refine ⟨iniA K d.c, PySem.W.fnX "__init__" d.q (defArgs d.st) (defBody d.st) (defScope d.st) [("__class__", cc)] .none n9 n10 n11 n12 (.ref cda) n14, ⟨hm, O, d1, d2, ?_, ?_⟩⟩
            · exact fn_sup1 (cc := cc) (C := He.ga K d.c) lk e2 lc lcd hvs (by rw [beq_iff_eq] at e4 ⊢; exact e4.symm) htop (supS_ok S) hp hself hb hs O d3 hC d5 d6 d7 d8 hev hsw hx1 hx2
            · intro s us hk hl
              rw [List.append_nil]
              exact BindsTo.of_eq (hbind _ _ _ _ _ _ _ us (by simpa using hl))
          · cases e4
        · cases e4
      · cases e3
    · cases h
  · cases h
/-! ### the Hook -/
/-- what is looked at: what the module's names and the statics reach -/
def asQ (g : Addr → Option Obj) : Nat → List Addr
  | 0 => [mainGlobals, cStatics]
  | n + 1 => He.growD g (asQ g n)
abbrev AlQ : Type := He.AlT × (Bool × List FnS)
def obsK (fa : List He.Fa) (fn : List He.DefD) (ts : List He.Tab) (tf : List He.Defn) (ex : PySem.W.Frag → Bool) (sup : List SupD) (g : Addr → Option Obj) (K : PySem.W.Frag) : AlQ := (He.obsT fa fn ts K, ex K && He.tabsB g tf K, sup.map fun d => fnS K d.c)
def obsQ (n : Nat) (fa : List He.Fa) (fn : List He.DefD) (ts : List He.Tab) (tf : List He.Defn) (ex : PySem.W.Frag → Bool) (sup : List SupD) (g : Addr → Option Obj) : AlQ := obsK fa fn ts tf ex sup g (He.frT g (asQ g n))
def valQ (fn : List He.DefD) (ts : List He.Tab) (sup : List SupD) (w : World) : AlQ := (He.valT fn ts w, true, sup.map SupD.val)
/-- what is told -/
structure SaysQ (fa : List He.Fa) (fn : List He.DefD) (ts : List He.Tab) (tf : List He.Defn) (ex : PySem.W.Frag → Bool) (sup : List SupD) (w : World) (h : Heap) (K : PySem.W.Frag) : Prop where
  t : He.SaysT fa fn ts w K
  more : ex K = true
  tab : ∀ p, p ∈ tf → PySem.W.codeHdIn K (He.cT K p).1 (He.cT K p).2 = true ∧ K.lookup (He.cT K p).2 = none ∧ h.get? (He.cT K p).2 = some { cls := .none, data := .fields #[] }
  sup : ∀ d, d ∈ sup → fnS K d.c = d.val
theorem saysQ_of {fa : List He.Fa} {fn : List He.DefD} {ts : List He.Tab} {tf : List He.Defn} {ex : PySem.W.Frag → Bool} {sup : List SupD} {w : World} {h : Heap} {as : List Addr} (e : obsK fa fn ts tf ex sup h.get? (He.frT h.get? as) = valQ fn ts sup w) : SaysQ fa fn ts tf ex sup w h (He.frT h.get? as) := by
  have e1 := congrArg Prod.fst e
  have e2 : (ex (He.frT h.get? as) && He.tabsB h.get? tf (He.frT h.get? as)) = true := congrArg (fun z : AlQ => z.2.1) e
  have e3 : (sup.map fun d => fnS (He.frT h.get? as) d.c) = sup.map SupD.val := congrArg (fun z : AlQ => z.2.2) e
  rw [Bool.and_eq_true] at e2
  refine ⟨e1, e2.1, fun p hp => ?_, fun d hd => ?_⟩
  · have q := List.all_eq_true.mp e2.2 p hp
    rw [Bool.and_eq_true] at q
    cases z : h.get? (He.cT (He.frT h.get? as) p).2 with
    | none => have q2 := q.2; rw [z] at q2; cases q2
    | some o =>
      have q2 := q.2
      rw [z] at q2
      exact ⟨q.1, He.frT_none z q2, by rw [He.emptyTab_eq q2]⟩
  · obtain ⟨i, hi⟩ := List.getElem?_of_mem hd
    have e4 := congrArg (·[i]?) e3
    rw [List.getElem?_map, List.getElem?_map, hi] at e4
    exact Option.some.inj e4
def hookQ (n : Nat) (fa : List He.Fa) (fn : List He.DefD) (ts : List He.Tab) (tf : List He.Defn) (ex : PySem.W.Frag → Bool) (sup : List SupD) : PySem.W.Hook where
  α := AlQ
  obs := fun s => obsQ n fa fn ts tf ex sup s.heap.get?
  val := fun w => valQ fn ts sup w
  says := fun w h => ∃ K : PySem.W.Frag, K.In h ∧ SaysQ fa fn ts tf ex sup w h K
  of := fun _ _ e => ⟨_, He.frT_in, saysQ_of e⟩
  keeps := fun _ _ _ ⟨K, hK, c⟩ k => ⟨K, PySem.W.Frag.In.keeps hK k, c.t, c.more, fun p hp => let q := c.tab p hp; ⟨q.1, q.2.1, k _ _ q.2.2⟩, c.sup⟩
theorem obsQ_eq {n : Nat} {fa : List He.Fa} {fn : List He.DefD} {ts : List He.Tab} {tf : List He.Defn} {ex : PySem.W.Frag → Bool} {sup : List SupD} {g : Addr → Option Obj} {s : Shared} (h : ∀ a, g a = s.heap.get? a) : obsQ n fa fn ts tf ex sup g = (hookQ n fa fn ts tf ex sup).obs s := by
  have e : g = s.heap.get? := funext h
  rw [e]; rfl
/-- a method of a class of the text -/
def inCls (s : Stmt) (i : Nat) : Stmt := match s with
  | .ClassDef _ _ _ b _ _ _ _ _ _ _ => b.getD i (.Pass ⟨0, 0, 0, 0⟩)
  | _ => .Pass ⟨0, 0, 0, 0⟩
end
end Qv
end
section
set_option Elab.async false
set_option autoImplicit false
set_option linter.all false
set_option maxRecDepth 100000
set_option maxHeartbeats 2000000
/-! Qv: a table of defs. -/
namespace Qv
open PySem L2 PySem.Spec PyProof.Rows
/-- a def of the text, no defaults -/
abbrev FunP (K : PySem.W.Frag) (d : He.DefD) (fd : FuncData) : Prop := FunD K d.name d.qual d.params d.body d.scope [] [] (He.fAd K d.at_) fd
/-- a call of n values and keywords ks binds those at the places sel -/
def BS (d : He.DefD) (ps : List Str) (n : Nat) (ks : List Str) (sel : List Nat) : Prop := ∀ (kV doc pm : Value) (an : Option Addr) (cdv ct : Value) (us ws : List Value), us.length = n → ws.length = ks.length →
  bindArgs (PySem.W.fnOf d.name d.qual d.params d.body d.scope .none kV doc pm an cdv ct) ⟨us, ks.zip ws⟩ = pure (ps.zip (pickN (us ++ ws) sel))
theorem bindS_of {K : PySem.W.Frag} {d : He.DefD} {fd : FuncData} {ps ks : List Str} {n : Nat} {sel : List Nat} (F : FunP K d fd) (h : BS d ps n ks sel) : BindS K fd ps n ks sel := fun s us ws _ h1 h2 => by
  obtain ⟨oc, od, dV, kV, doc, pm, an, cdv, ct, osl, e, lk, hcd, hD, hK⟩ := F.ex
  subst e
  rcases hD with ⟨_, e⟩ | ⟨e, _⟩
  · subst e
    exact BindsTo.of_eq (h kV doc pm an cdv ct us ws h1 h2)
  · exact (e rfl).elim
section
variable (P : Program) (w : World) (K : PySem.W.Frag) (mg : Str → Option Value) (base : Heap) (T : List Df)
/-- a def of the table at a level -/
structure DefOk (n : Nat) (d : He.DefD) (ps : List Str) (id : Nat) : Prop where
  ex : ∃ fd, FunP K d fd ∧ FnX P w K mg base (4 * n) (He.fAd K d.at_) fd ps (spx ⟨K, w⟩ (evCall T n id))
end
section
variable {P : Program} {w : World} {K : PySem.W.Frag} {mg : Str → Option Value} {base : Heap} {T : List Df} {d : He.DefD} {fd : FuncData} {N ps : List Str} {n id : Nat} {bd : Ca → Ex}
theorem DefOk.zero (F : ∃ fd, FunP K d fd) : DefOk P w K mg base T 0 d ps id := by
  obtain ⟨fd, F⟩ := F
  exact ⟨fd, F, FnX.none fun vs H Q E ⟨w1, ds, st, _, _, h⟩ => h⟩
theorem code_at {cdv : Value} (F : FunP K d fd) (e : fd.code = cdv) : cdv = .ref (He.codeOf K d.at_) := by
  obtain ⟨oc, od, dV, kV, doc, pm, an, cdv', ct, osl, rfl, lk, hcd, _, _⟩ := F.ex
  obtain ⟨c, e2⟩ := He.codeIn_ref hcd
  have e3 : cdv' = cdv := e
  subst e3 e2
  rw [He.codeOf_eq lk rfl]
theorem FnX.succ (F : FunP K d fd) (SC : FnScope N ps d.scope) (hd : T[id]? = some ⟨ps.length, N.length, bd⟩)
    (hb : ∀ (cdv : Value) (A : Around) (outer : List Env) (s : Shared) (H : Hp) (E : XK), cdv = .ref (He.codeOf K d.at_) → Cz (cxOf (L2.CX P w) P w K mg base N d.qual d.scope (He.fAd K d.at_) cdv A outer s H E) (4 * n + 3) → PSsv (cxOf (L2.CX P w) P w K mg base N d.qual d.scope (He.fAd K d.at_) cdv A outer s H E) d.body (bd (evCall T n))) :
    FnX P w K mg base (4 * (n + 1)) (He.fAd K d.at_) fd ps (spx ⟨K, w⟩ (evCall T (n + 1) id)) := (fn_Q (k := 4 * n + 3) F SC fun cdv A outer s H E hcd cz => hb cdv A outer s H E (code_at F hcd) cz).imp fun vs H Q E ⟨w1, ds, st, g, r, h⟩ => by
  refine ⟨w1, ds, st, g, r, ?_⟩
  unfold evCall at h
  rw [hd] at h
  exact h
theorem DefOk.succ (F : ∃ fd, FunP K d fd) (SC : FnScope N ps d.scope) (hd : T[id]? = some ⟨ps.length, N.length, bd⟩)
    (hb : ∀ (cdv : Value) (A : Around) (outer : List Env) (s : Shared) (H : Hp) (E : XK), cdv = .ref (He.codeOf K d.at_) → Cz (cxOf (L2.CX P w) P w K mg base N d.qual d.scope (He.fAd K d.at_) cdv A outer s H E) (4 * n + 3) → PSsv (cxOf (L2.CX P w) P w K mg base N d.qual d.scope (He.fAd K d.at_) cdv A outer s H E) d.body (bd (evCall T n))) :
    DefOk P w K mg base T (n + 1) d ps id := by
  obtain ⟨fd, F⟩ := F
  exact ⟨fd, F, FnX.succ F SC hd hb⟩
end
/-! ### calls -/
theorem pickN_range {α : Type} : ∀ (l : List α) (b : List α), pickN (b ++ l) (List.range' b.length l.length) = l
  | [], b => by rw [List.length_nil]; rfl
  | x :: l, b => by
    rw [List.length_cons, List.range'_succ]
    unfold pickN
    rw [List.getElem?_append_right (Nat.le_refl _), Nat.sub_self]
    show x :: pickN (b ++ x :: l) (List.range' (b.length + 1) l.length) = x :: l
    have := pickN_range l (b ++ [x])
    rw [List.append_assoc, List.length_append] at this
    exact congrArg (x :: ·) this
section
variable {X : Cx} {j k n id : Nat} {T : List Df} {d : He.DefD} {ps ks : List Str} {pos p kp apos : Pos} {x c : Str} {e : Expr} {es : List Expr} {kws : List Keyword} {xs : Ev (List D)} {sel : List Nat}
theorem Cz.mono {i : Nat} (c : Cz X j) (h : i ≤ j) : Cz X i := ⟨c.room.mono h, c.grd, c.calm, c.nd⟩
theorem pev_callD (h : DefOk X.prog X.w X.K X.mg X.base T k d ps id) (cz : Cz X j) (hx : d.at_ = (x, none)) (hm : X.mg x = some (.ref (He.ga X.K x))) (bs : BS d ps n ks sel) (ha : PCa X pos es kws n ks xs) (hj : 4 * k ≤ j := by omega) (hg : Gl X x := by rfl) (hd : (x == ("__debug__" : Str)) = false := by decide) :
    PEv X (.Call (.Name x p) es kws pos) (xCall (evCall T k) id (xSel sel xs)) := by
  obtain ⟨fd, F, R⟩ := h.ex
  have hf : He.fAd X.K d.at_ = He.ga X.K x := by rw [hx]; rfl
  rw [hf] at R
  have kp := F.kp
  rw [hf] at kp
  exact pev_call id R (cz.mono hj) hm kp (bindS_of F bs) ha hg hd
/-- all by place -/
theorem pev_callP (h : DefOk X.prog X.w X.K X.mg X.base T k d ps id) (cz : Cz X j) (hx : d.at_ = (x, none)) (hm : X.mg x = some (.ref (He.ga X.K x))) (bs : BS d ps (e :: es).length [] (List.range' 0 (e :: es).length)) (ha : PAv X (e :: es) xs) (hj : 4 * k ≤ j := by omega) (hg : Gl X x := by rfl) (hs : isStar e = false := by rfl)
    (hpl : (backTo pos (starEach es X.env)).any (·.1) = false := by rfl) (hd : (x == ("__debug__" : Str)) = false := by decide) : PEv X (.Call (.Name x p) (e :: es) [] pos) (xCall (evCall T k) id xs) :=
  pe_weak (pev_callD h cz hx hm bs (pca_pos ha hs hpl) hj hg hd) fun σ H Q ⟨w, env, st, g, r, q⟩ => by
    refine ⟨w, env, st, g, r, ?_⟩
    unfold xCall xSel at *
    cases z : xs env st with
    | stuck => rw [z] at q; exact q
    | exc c ns ds s1 => rw [z] at q; exact q
    | ok ds s1 =>
      rw [z] at q
      have hl := ha.len _ _ _ _ z
      have e1 := pickN_range ds []
      rw [hl] at e1
      show (evCall T k id (pickN ds (List.range' 0 (e :: es).length)) s1).wp _ _
      have e2 : pickN ds (List.range' 0 (e :: es).length) = ds := e1
      rw [e2]
      exact q
/-- C(..) -/
theorem pev_mkD (h : DefOk X.prog X.w X.K X.mg X.base T k d ps id) (cz : Cz X j) (hx : d.at_ = (c, some (Str.ofString "__init__"))) (M : Mk X.K (He.ga X.K c) (He.ma X.K (He.ga X.K c) "__init__")) (hm : X.mg c = some (.ref (He.ga X.K c))) (bs : BS d ps (n + 1) ks sel) (ha : PCa X pos es kws n ks xs)
    (hj : 4 * k + 1 ≤ j := by omega) (hg : Gl X c := by rfl) (hd : (c == ("__debug__" : Str)) = false := by decide) : PEv X (.Call (.Name c p) es kws pos) (xMk (evCall T k) c id sel xs) := by
  obtain ⟨fd, F, R⟩ := h.ex
  have hf : He.fAd X.K d.at_ = He.ma X.K (He.ga X.K c) "__init__" := by rw [hx]; rfl
  rw [hf] at R
  exact pev_mk id M R (cz.mono hj) hm (bindS_of F bs) ha hg hd
theorem pev_mkMD (h : DefOk X.prog X.w X.K X.mg X.base T k d ps id) (cz : Cz X j) (hx : d.at_ = (c, some (Str.ofString "__init__"))) (M : Mk X.K (He.ga X.K c) (He.ma X.K (He.ga X.K c) "__init__")) (hm : X.mg c = some (.ref (He.ga X.K c))) (bs : BS d ps (n + 1) ks sel) (ha : PCa X pos es kws n ks xs)
    (hj : 4 * k + 1 ≤ j := by omega) (hg : Gl X c := by rfl) (hd : (c == ("__debug__" : Str)) = false := by decide) : PEv X (.Call (.Name c p) es kws pos) (xMkM (evCall T k) c id sel xs) := by
  obtain ⟨fd, F, R⟩ := h.ex
  have hf : He.fAd X.K d.at_ = He.ma X.K (He.ga X.K c) "__init__" := by rw [hx]; rfl
  rw [hf] at R
  exact pev_mkM id M R (cz.mono hj) hm (bindS_of F bs) ha hg hd
end
section
variable {P : Program} {w : World} {K : PySem.W.Frag} {mg : Str → Option Value} {base : Heap} {T : List Df} {d : He.DefD} {ps ks : List Str} {n id k : Nat} {c m : Str} {sel : List Nat} {tbl : List (Str × Nat × List Nat)}
theorem methF_nil : MethF P w K mg base (evCall T k) (4 * k) m n ks [] := ⟨fun c p h => nomatch h⟩
theorem methF_cons (h : DefOk P w K mg base T k d ps id) (hx : d.at_ = (c, some m)) (bs : BS d ps (n + 1) ks sel) (cl : Cls K (He.ga K c)) (mt : Meth K (He.ga K c) m (He.ma K (He.ga K c) m)) (r : MethF P w K mg base (evCall T k) (4 * k) m n ks tbl) : MethF P w K mg base (evCall T k) (4 * k) m n ks ((c, id, sel) :: tbl) := by
  refine ⟨fun c' p hp => ?_⟩
  have hp : (if c' = c then some (id, sel) else lkM c' tbl) = some p := hp
  by_cases z : c' = c
  · rw [if_pos z] at hp
    cases hp
    subst z
    obtain ⟨fd, F, R⟩ := h.ex
    have hf : He.fAd K d.at_ = He.ma K (He.ga K c') m := by rw [hx]; rfl
    rw [hf] at R
    exact ⟨_, fd, ps, cl, mt, R, bindS_of F bs⟩
  · rw [if_neg z] at hp
    exact r.at_ c' p hp
theorem ownF_nil : OwnF P w K mg base (evCall T k) (4 * k) m n [] := ⟨fun c p h => nomatch h⟩
theorem ownF_cons (h : DefOk P w K mg base T k d ps id) (hx : d.at_ = (c, some m)) (bs : BS d ps n [] sel) (mt : Meth K (He.ga K c) m (He.ma K (He.ga K c) m)) (r : OwnF P w K mg base (evCall T k) (4 * k) m n tbl) : OwnF P w K mg base (evCall T k) (4 * k) m n ((c, id, sel) :: tbl) := by
  refine ⟨fun c' p hp => ?_⟩
  have hp : (if c' = c then some (id, sel) else lkM c' tbl) = some p := hp
  by_cases z : c' = c
  · rw [if_pos z] at hp
    cases hp
    subst z
    obtain ⟨fd, F, R⟩ := h.ex
    have hf : He.fAd K d.at_ = He.ma K (He.ga K c') m := by rw [hx]; rfl
    rw [hf] at R
    exact ⟨_, fd, ps, mt.at_, mt.fn, R, bindS_of F bs⟩
  · rw [if_neg z] at hp
    exact r.at_ c' p hp
end
/-- a lambda's names -/
def lamQB (N : List Str) (sc scope : Scope) : Bool := decide (scope.kind = .function ∧ scope.isCoroutine = false ∧ scope.isGenerator = false) && scope.names.all fun y => (!decide (y.2 = .cell)) && ((!decide (y.2 = .local) || !decide (y.1 ∈ N)) && (!decide (y.2 = .free) || (decide (sc.names.lookup y.1 = some .cell) || decide (sc.names.lookup y.1 = some .free))))
theorem lamQ {N : List Str} {sc scope : Scope} (h : lamQB N sc scope = true) : LamS N sc scope := by
  unfold lamQB at h
  rw [Bool.and_eq_true, List.all_eq_true] at h
  obtain ⟨a1, a2, a3⟩ := of_decide_eq_true h.1
  have key : ∀ y ∈ scope.names, y.2 ≠ .cell ∧ (y.2 = .local → y.1 ∉ N) ∧ (y.2 = .free → sc.names.lookup y.1 = some .cell ∨ sc.names.lookup y.1 = some .free) := fun y hy => by
    have := h.2 y hy
    simp only [Bool.and_eq_true, Bool.or_eq_true, Bool.not_eq_true', decide_eq_false_iff_not, decide_eq_true_eq] at this
    exact ⟨this.1, fun e => this.2.1.resolve_left fun z => z e, fun e => this.2.2.resolve_left fun z => z e⟩
  exact ⟨a1, a2, a3, fun y hy => (key y hy).1, fun y hy => (key y hy).2.1, fun y hy => (key y hy).2.2⟩
theorem bt_len : bootBuiltins "len" = some (.builtin "len") := by decide +kernel
theorem bt_abs : bootBuiltins "abs" = some (.builtin "abs") := by decide +kernel
theorem bt_all : bootBuiltins "all" = some (.builtin "all") := by decide +kernel
theorem bt_any : bootBuiltins "any" = some (.builtin "any") := by decide +kernel
theorem bt_sum : bootBuiltins "sum" = some (.builtin "sum") := by decide +kernel
theorem bt_max : bootBuiltins "max" = some (.builtin "max") := by decide +kernel
theorem bt_repr : bootBuiltins "repr" = some (.builtin "repr") := by decide +kernel
theorem bt_int : bootBuiltins "int" = some (.type "int") := by decide +kernel
theorem bt_bool : bootBuiltins "bool" = some (.type "bool") := by decide +kernel
theorem bt_str : bootBuiltins "str" = some (.type "str") := by decide +kernel
theorem bt_list : bootBuiltins "list" = some (.type "list") := by decide +kernel
theorem bt_tuple : bootBuiltins "tuple" = some (.type "tuple") := by decide +kernel
theorem bt_dict : bootBuiltins "dict" = some (.type "dict") := by decide +kernel
section
variable {X : L2.Cx} {k : Nat}
theorem Cz.eq (c : Cz X k) : L2.OpR X (compareOp .Eq) (rOf (kx X) (cmpD cEq)) := o_eq (by have := c.u; omega)
theorem Cz.ne (c : Cz X k) : L2.OpR X (compareOp .NotEq) (rOf (kx X) (cmpD cNe)) := o_ne (by have := c.u; omega)
theorem Cz.isin (c : Cz X k) : L2.OpR X (compareOp .In) (rOf (kx X) (cmpD cIn)) := o_in (by have := c.u; omega)
theorem Cz.nin (c : Cz X k) : L2.OpR X (compareOp .NotIn) (rOf (kx X) (cmpD cNin)) := o_nin (by have := c.u; omega)
end
end Qv
end
section
set_option Elab.async false
set_option autoImplicit false
set_option linter.all false
set_option maxRecDepth 100000
set_option maxHeartbeats 1000000
/-! Qv: lemmas to reckon with. -/
namespace Qv
open PySem L2
/-! ### the store -/
namespace Sto
theorem lk_pt_same {k : Nat} {m : MO} : ∀ {l : List (Nat × MO)} {u : MO}, lk l k = some u → lk (pt k m l) k = some m
  | [], _, h => by cases h
  | (j, v) :: r, u, h => by
    have h : (if j = k then Option.some v else lk r k) = some u := h
    show lk ((if j = k then (k, m) else (j, v)) :: pt k m r) k = some m
    by_cases z : j = k
    · rw [if_pos z]
      show (if k = k then Option.some m else _) = _
      rw [if_pos rfl]
    · rw [if_neg z] at h ⊢
      show (if j = k then Option.some v else lk (pt k m r) k) = _
      rw [if_neg z]
      exact lk_pt_same h
theorem lk_pt_ne {k j : Nat} {m : MO} (h : j ≠ k) : ∀ {l : List (Nat × MO)}, lk (pt k m l) j = lk l j
  | [] => rfl
  | (i, v) :: r => by
    show lk ((if i = k then (k, m) else (i, v)) :: pt k m r) j = (if i = j then Option.some v else lk r j)
    by_cases z : i = k
    · rw [if_pos z]
      show (if k = j then Option.some m else lk (pt k m r) j) = _
      rw [if_neg (Ne.symm h), if_neg fun q => h (q.symm.trans z), lk_pt_ne h]
    · rw [if_neg z]
      show (if i = j then Option.some v else lk (pt k m r) j) = _
      rw [lk_pt_ne h]
theorem pt_pt {k : Nat} {m u : MO} : ∀ {l : List (Nat × MO)}, pt k m (pt k u l) = pt k m l
  | [] => rfl
  | (i, v) :: r => by
    show pt k m ((if i = k then (k, u) else (i, v)) :: pt k u r) = (if i = k then (k, m) else (i, v)) :: pt k m r
    by_cases z : i = k
    · rw [if_pos z, if_pos z]
      show (if k = k then (k, m) else (k, u)) :: pt k m (pt k u r) = _
      rw [if_pos rfl, pt_pt]
    · rw [if_neg z, if_neg z]
      show (if i = k then (k, m) else (i, v)) :: pt k m (pt k u r) = _
      rw [if_neg z, pt_pt]
theorem lk_rm_ne {k j : Nat} (h : j ≠ k) : ∀ {l : List (Nat × MO)}, lk (rm k l) j = lk l j
  | [] => rfl
  | (i, v) :: r => by
    show lk (if i = k then rm k r else (i, v) :: rm k r) j = (if i = j then Option.some v else lk r j)
    by_cases z : i = k
    · rw [if_pos z, lk_rm_ne h, if_neg fun q => h (q.symm.trans z)]
    · rw [if_neg z]
      show (if i = j then Option.some v else lk (rm k r) j) = _
      rw [lk_rm_ne h]
theorem get_set {st : Sto} {k : Nat} {m u : MO} (h : st.get k = some u) : (st.set k m).get k = some m := lk_pt_same h
theorem get_set_ne {st : Sto} {k j : Nat} {m : MO} (h : j ≠ k) : (st.set k m).get j = st.get j := lk_pt_ne h
theorem set_set {st : Sto} {k : Nat} {m u : MO} : (st.set k u).set k m = st.set k m := by
  unfold set
  rw [pt_pt]
theorem get_new {st : Sto} {m : MO} : (st.new m).get st.n = some m := if_pos rfl
theorem get_new_ne {st : Sto} {m : MO} {k : Nat} (h : st.n ≠ k) : (st.new m).get k = st.get k := if_neg h
theorem get_del_ne {st : Sto} {k j : Nat} (h : j ≠ k) : (st.del k).get j = st.get j := lk_rm_ne h
theorem set_new {st : Sto} {m u : MO} {k : Nat} (h : st.n ≠ k) : (st.new u).set k m = (st.set k m).new u := by
  show (⟨st.n + 1, (if st.n = k then (k, m) else (st.n, u)) :: pt k m st.th, st.tn⟩ : Sto) = _
  rw [if_neg h]; rfl
theorem del_new {st : Sto} {u : MO} (h : ∀ p, p ∈ st.th → p.1 ≠ st.n) : (st.new u).del st.n = ⟨st.n + 1, st.th, st.tn⟩ := by
  have key : ∀ l : List (Nat × MO), (∀ p, p ∈ l → p.1 ≠ st.n) → rm st.n l = l := fun l => by
    induction l with
    | nil => intro _; rfl
    | cons p l ih =>
      intro q
      show (if p.1 = st.n then rm st.n l else p :: rm st.n l) = p :: l
      rw [if_neg (q p List.mem_cons_self), ih fun r hr => q r (List.mem_cons_of_mem _ hr)]
  show (⟨st.n + 1, (if st.n = st.n then rm st.n st.th else _), st.tn⟩ : Sto) = _
  rw [if_pos rfl, key _ h]
end Sto
/-! ### the constructs, applied -/
section
variable (env : En) (st : Sto) (a b c : Ev D) (es fs : Ev (List D)) (s ss : Ex) (call : Ca) (i : Nat) (d x : D) (ds : List D)
theorem ap_var : xVar i env st = may ((env[i]?).bind id) fun d => .ok d st := by
  unfold xVar
  cases env[i]? with
  | none => rfl
  | some o => cases o <;> rfl
theorem ap_lit : xLit d env st = .ok d st := rfl
theorem ap_2 (g : Op2) : x2 g a b env st = (a env st).bind fun x st => (b env st).bind fun y st => may (g st x y) fun d => .ok d st := rfl
theorem ap_cmp (g : Cm2) : xCmp g a b env st = (a env st).bind fun x st => (b env st).bind fun y st => may (g st x y) fun r => .ok (.bl r) st := by
  unfold xCmp x2 cmpD
  congr; funext x st; congr; funext y st
  cases g st x y <;> rfl
theorem ap_chain (o o' : Cm2) : xChain o o' a b c env st = (a env st).bind fun x st => (b env st).bind fun y st => may (o st x y) fun r => if r then (c env st).bind fun z st => may (o' st y z) fun r => .ok (.bl r) st else .ok (.bl false) st := rfl
theorem ap_and : xAnd a b env st = (a env st).bind fun x st => may (truth st x) fun r => if r then b env st else .ok x st := rfl
theorem ap_or : xOr a b env st = (a env st).bind fun x st => may (truth st x) fun r => if r then .ok x st else b env st := rfl
theorem ap_not : xNot a env st = (a env st).bind fun x st => may (truth st x) fun r => .ok (.bl (!r)) st := rfl
theorem ap_neg : xNeg a env st = (a env st).bind fun x st => may (asI x) fun i => .ok (.int (-i)) st := rfl
theorem ap_ife : xIfe c a b env st = (c env st).bind fun x st => may (truth st x) fun r => if r then a env st else b env st := rfl
theorem ap_nil : xNil env st = .ok [] st := rfl
theorem ap_cons : xCons a es env st = (a env st).bind fun d st => (es env st).bind fun ds st => .ok (d :: ds) st := rfl
theorem ap_ap : xAp es fs env st = (es env st).bind fun ds st => (fs env st).bind fun es st => .ok (ds ++ es) st := rfl
theorem ap_sel (sel : List Nat) : xSel sel es env st = (es env st).bind fun ds st => .ok (pickN ds sel) st := rfl
theorem ap_tup : xTup es env st = (es env st).bind fun ds st => must (ds.length ≤ sizeLine) (.ok (.tup ds) st) := rfl
theorem ap_lst : xLst es env st = (es env st).bind fun ds st => must (ds.length ≤ sizeLine) (.ok (.lst ds) st) := rfl
theorem ap_mlst : xMlst es env st = (es env st).bind fun ds st => must (ds.length ≤ sizeLine) (.ok (.mrf st.n) (st.new (.lst ds))) := rfl
theorem ap_mcopy : xMcopy a env st = (a env st).bind fun x st => may (asSeq st x) fun xs => .ok (.mrf st.n) (st.new (.lst xs)) := rfl
theorem ap_ix : xIx a b env st = (a env st).bind fun x st => (b env st).bind fun y st => may (ixD st x y) fun d => .ok d st := rfl
theorem ap_onone : xONone env st = .ok none st := rfl
theorem ap_osome : xOSome a env st = (a env st).bind fun x st => may (asI x) fun i => .ok (some i) st := rfl
theorem ap_sl (lo hi : Ev (Option Int)) : xSl a lo hi env st = (a env st).bind fun x st => (lo env st).bind fun l st => (hi env st).bind fun h st => may (slD st x l h) fun d => .ok d st := rfl
theorem ap_call : xCall call i es env st = (es env st).bind fun ds st => call i ds st := rfl
theorem ap_fn (g : Op1) : xFn g a env st = (a env st).bind fun x st => may (g st x) fun d => .ok d st := rfl
theorem ap_qnil : qNil env st = .ok true st := rfl
theorem ap_qcons (r : Ev Bool) : qCons a r env st = (a env st).bind fun d st => may (truth st d) fun b => if b then r env st else .ok false st := rfl
theorem ap_app : xApp a b env st = (a env st).bind fun x st => must (liveM st x = true) ((b env st).bind fun d st => may (appD st x d) fun st' => .ok .non st') := rfl
theorem ap_pop : xPopAt a b env st = (a env st).bind fun x st => must (liveM st x = true) ((b env st).bind fun y st => may (popD st x y) fun p => .ok p.1 p.2) := rfl
theorem ap_mk (n : Str) (f : Nat) (sel : List Nat) : xMk call n f sel es env st = (es env st).bind fun ds st => (mkR call n f sel ds st).bind fun d st => match d with
  | .mrf k => may (madeD st k) fun p => .ok p.1 p.2
  | _ => .stuck := rfl
theorem ap_2R (g : Sto → D → D → R D) : x2R g a b env st = (a env st).bind fun x st => (b env st).bind fun y st => (g st x y).calm := rfl
theorem ap_1R (g : Sto → D → R D) : x1R g a env st = (a env st).bind fun x st => (g st x).calm := rfl
theorem ap_heard (T : List Str) (hd : Hd) : xHeard T hd a env st = must (st.tn = T) (resOf st.th.length (heardR hd (a env st))) := rfl
/-! statements -/
theorem ap_snil : sNil env st = .ok (.next env) st := rfl
theorem ap_scons : sCons s ss env st = (s env st).bind fun f st => goOn ss f st := rfl
theorem ap_set (t : Tg) : sSet t a env st = (a env st).bind fun d st => may (bindT t d env) fun env => .ok (.next env) st := rfl
theorem ap_par (j : Nat) : sPar i j a b env st = (a env st).bind fun x st => (b env st).bind fun y st => .ok (.next ((env.set i (some x)).set j (some y))) st := rfl
theorem ap_if : sIf a s ss env st = (a env st).bind fun x st => may (truth st x) fun r => if r then s env st else ss env st := rfl
theorem ap_ret : sRet a env st = (a env st).bind fun d st => .ok (.ret d) st := rfl
theorem ap_retN : sRetN env st = .ok (.ret .non) st := rfl
theorem ap_for (t : Tg) : sFor t a s env st = (a env st).bind fun x st => may (itemsOf st x) fun ds => forR t s env ds st := rfl
theorem ap_range (t : Tg) : sRange t a s env st = (a env st).bind fun x st => may (asI x) fun j => must (-(2 ^ 62) ≤ j ∧ j < 2 ^ 62) (forR t s env (rangeD j.toNat) st) := rfl
theorem ap_exp : sExp a env st = (a env st).bind fun _ st => .ok (.next env) st := rfl
theorem ap_put : sPut a b c env st = (c env st).bind fun v st => (a env st).bind fun o st => (b env st).bind fun i st => may (putD st o i v) fun st' => .ok (.next env) st' := rfl
theorem ap_frz : sFrz i env st = may (frzD env st i) fun p => .ok (.next p.1) p.2 := rfl
theorem ap_drop : sDrop i env st = .ok (.next env) (dropD env st i) := rfl
theorem ap_fset (k : List Str) (f : Str) : sFset k f a b env st = (b env st).bind fun d st => (a env st).bind fun x st => may (fsetD k f st x d) fun st' => .ok (.next env) st' := rfl
theorem ap_raise (n : Str) (ns : List Str) : sRaise n ns es env st = (es env st).bind fun ds st => .exc n ns ds st := rfl
theorem go_next : goOn ss (.next env) st = ss env st := rfl
theorem go_ret : goOn ss (.ret d) st = .ok (.ret d) st := rfl
theorem go_brk : goOn ss (.brk env) st = .ok (.brk env) st := rfl
theorem go_cont : goOn ss (.cont env) st = .ok (.cont env) st := rfl
theorem res_next (m : Nat) : resOf m (.ok (.next env) st) = .ok .non st := rfl
theorem res_ret (m : Nat) : resOf m (.ok (.ret d) st) = .ok d st := rfl
theorem res_exc (m : Nat) (n : Str) (ns : List Str) : resOf m (.exc n ns ds st) = .exc n ns ds (st.cut m) := rfl
end
theorem call_of {T : List Df} {id : Nat} {d : Df} (h : T[id]? = some d) (n : Nat) (ds : List D) (st : Sto) (hl : ds.length = d.ps) : evCall T (n + 1) id ds st = resOf st.th.length (d.body (evCall T n) (startE d.ns ds) st) := by
  show (match T[id]? with | some d => runD d (evCall T n) ds st | none => .stuck) = _
  rw [h]
  show runD d (evCall T n) ds st = _
  unfold runD
  rw [if_pos hl]
theorem compR_nil (tg : Tg) (env : En) (tests : Ev Bool) (elt : Ev D) (acc : List D) (st : Sto) : compR tg env tests elt acc [] st = .ok acc st := by unfold compR; rfl
theorem compR_cons (tg : Tg) (env : En) (tests : Ev Bool) (elt : Ev D) (acc : List D) (d : D) (ds : List D) (st : Sto) : compR tg env tests elt acc (d :: ds) st =
    may (bindT tg d env) fun env' => (tests env' st).bind fun c st => if c then (elt env' st).bind fun y st => must (acc.length < sizeLine) (compR tg env tests elt (acc ++ [y]) ds st) else compR tg env tests elt acc ds st := by rw [compR]
theorem forR_nil (tg : Tg) (body : Ex) (env : En) (st : Sto) : forR tg body env [] st = .ok (.next env) st := by unfold forR; rfl
/-- what a turn does -/
def turnF (tg : Tg) (body : Ex) (ds : List D) (f : Fl) (st : Sto) : R Fl := match f with
  | .next env => forR tg body env ds st
  | .cont env => forR tg body env ds st
  | .brk env => .ok (.next env) st
  | .ret d => .ok (.ret d) st
theorem forR_cons (tg : Tg) (body : Ex) (env : En) (d : D) (ds : List D) (st : Sto) : forR tg body env (d :: ds) st = may (bindT tg d env) fun env => (body env st).bind fun f st => turnF tg body ds f st := by
  rw [forR]
  rfl
/-- a comprehension that changes nothing -/
theorem compR_pure {tg : Tg} {env : En} {tests : Ev Bool} {elt : Ev D} (p : D → Bool) (g : D → D) (st : Sto) : ∀ (ds acc : List D), (∀ d ∈ ds, ∃ env', bindT tg d env = some env' ∧ tests env' st = .ok (p d) st ∧ (p d = true → elt env' st = .ok (g d) st)) →
    acc.length + ds.length ≤ sizeLine → compR tg env tests elt acc ds st = .ok (acc ++ (ds.filter p).map g) st
  | [], acc, _, _ => by rw [compR_nil]; simp
  | d :: ds, acc, h, hl => by
    obtain ⟨env', h1, h2, h3⟩ := h d List.mem_cons_self
    rw [compR_cons, h1, may_some, h2, R.bind_ok]
    rw [List.length_cons] at hl
    cases hp : p d with
    | true =>
      rw [if_pos rfl, h3 hp, R.bind_ok, must_pos (by omega), compR_pure p g st ds (acc ++ [g d]) (fun e he => h e (List.mem_cons_of_mem _ he)) (by rw [List.length_append, List.length_singleton]; omega)]
      rw [List.filter_cons_of_pos hp, List.map_cons, List.append_assoc]; rfl
    | false =>
      rw [if_neg Bool.false_ne_true, compR_pure p g st ds acc (fun e he => h e (List.mem_cons_of_mem _ he)) (by omega), List.filter_cons_of_neg (by rw [hp]; exact Bool.false_ne_true)]
theorem comp_map {own : List Nat} {tg : Tg} {it e : Ev D} {env : En} {st st' : Sto} {x : D} {ds : List D} (g : D → D) (hit : it env st = .ok x st') (hi : itemsOf st' x = some ds)
    (h : ∀ d ∈ ds, ∃ env', bindT tg d (wipeE env own) = some env' ∧ e env' st' = .ok (g d) st') (hl : ds.length ≤ sizeLine) : xComp own tg it qNil e env st = .ok (.lst (ds.map g)) st' := by
  unfold xComp
  rw [hit, R.bind_ok, hi, may_some, compR_pure (tests := qNil) (fun _ => true) g st' ds [] (fun d hd => let ⟨e', h1, h2⟩ := h d hd; ⟨e', h1, rfl, fun _ => h2⟩) (by simpa using hl)]
  rw [List.nil_append, List.filter_eq_self.mpr fun _ _ => rfl]
  rfl
theorem rcomp_map {own : List Nat} {tg : Tg} {n e : Ev D} {env : En} {st st' : Sto} {j : Int} (g : D → D) (hit : n env st = .ok (.int j) st') (hj : -(2 ^ 62) ≤ j ∧ j < 2 ^ 62)
    (h : ∀ d ∈ rangeD j.toNat, ∃ env', bindT tg d (wipeE env own) = some env' ∧ e env' st' = .ok (g d) st') (hl : j.toNat ≤ sizeLine) : xRcomp own tg n qNil e env st = .ok (.lst ((rangeD j.toNat).map g)) st' := by
  unfold xRcomp
  rw [hit, R.bind_ok]
  show (must _ _) = _
  rw [must_pos hj, compR_pure (tests := qNil) (fun _ => true) g st' (rangeD j.toNat) [] (fun d hd => let ⟨e', h1, h2⟩ := h d hd; ⟨e', h1, rfl, fun _ => h2⟩) (by simpa [rangeD] using hl)]
  rw [List.nil_append, List.filter_eq_self.mpr fun _ _ => rfl]
  rfl
/-! ### operators -/
section
variable (st : Sto) (xs ys : List D) (i j : Int) (x y : Str) (b : Bool) (a d : D)
theorem add_int : bAdd st (.int i) (.int j) = some (.int (i + j)) := rfl
theorem add_str : bAdd st (.str x) (.str y) = omust (x.length + y.length ≤ sizeLine) (some (.str (x ++ y))) := rfl
theorem add_tup : bAdd st (.tup xs) (.tup ys) = omust (xs.length + ys.length ≤ sizeLine) (some (.tup (xs ++ ys))) := rfl
theorem add_lst : bAdd st (.lst xs) (.lst ys) = omust (xs.length + ys.length ≤ sizeLine) (some (.lst (xs ++ ys))) := rfl
theorem sub_int : bSub st (.int i) (.int j) = some (.int (i - j)) := rfl
theorem mul_int : bMul st (.int i) (.int j) = omust ((-(2 ^ 64) < i ∧ i < 2 ^ 64) ∨ (-(2 ^ 64) < j ∧ j < 2 ^ 64)) (some (.int (i * j))) := rfl
theorem mul_lst : bMul st (.lst xs) (.int j) = omust (-(2 ^ 63) ≤ j ∧ j < 2 ^ 63 ∧ xs.length * j.toNat ≤ sizeLine) (some (.lst (List.replicate j.toNat xs).flatten)) := rfl
theorem mul_tup : bMul st (.tup xs) (.int j) = omust (xs.length ≠ 0 ∧ 2 ≤ j ∧ j ≤ 1000 ∧ xs.length ≤ 1000) (some (.tup (List.replicate j.toNat xs).flatten)) := rfl
theorem fdiv_int : bFdiv st (.int i) (.int j) = omust (0 < j ∧ j < 1073741824) (some (.int (i / j))) := rfl
theorem mod_int : bMod st (.int i) (.int j) = omust (0 < j) (some (.int (i % j))) := rfl
theorem pow_int : bPow st (.int i) (.int j) = omust (0 ≤ j ∧ j ≤ 1000000 ∧ i.natAbs < 2 ^ 64) (some (.int (i ^ j.toNat))) := rfl
theorem len_str : fLen st (.str x) = omust (x.length ≤ sizeLine) (some (.int x.length)) := rfl
theorem len_tup : fLen st (.tup xs) = some (.int xs.length) := rfl
theorem len_lst : fLen st (.lst xs) = some (.int xs.length) := rfl
theorem len_dct (ks vs : List D) : fLen st (.dct ks vs) = omust (ks.length ≤ sizeLine) (some (.int ks.length)) := rfl
theorem int_int : fInt st (.int i) = some (.int i) := rfl
theorem int_bl : fInt st (.bl b) = some (.int (if b then 1 else 0)) := rfl
theorem abs_int : fAbs st (.int i) = some (.int (if i < 0 then -i else i)) := rfl
theorem all_lst : fAll st (.lst xs) = (bools? xs).map fun bs => .bl (bs.all id) := rfl
theorem any_lst : fAny st (.lst xs) = (bools? xs).map fun bs => .bl (bs.any id) := rfl
theorem list_lst : fList st (.lst xs) = some (.lst xs) := rfl
theorem list_tup : fList st (.tup xs) = some (.lst xs) := rfl
theorem tuple_lst : fTuple st (.lst xs) = some (.tup xs) := rfl
theorem tuple_tup : fTuple st (.tup xs) = some (.tup xs) := rfl
theorem lt_int : cLt st (.int i) (.int j) = some (decide (i < j)) := rfl
theorem le_int : cLe st (.int i) (.int j) = some (decide (i ≤ j)) := rfl
theorem gt_int : cGt st (.int i) (.int j) = some (decide (j < i)) := rfl
theorem ge_int : cGe st (.int i) (.int j) = some (decide (j ≤ i)) := rfl
theorem c_eq : cEq st a d = eqS st a d := rfl
theorem c_ne : cNe st a d = (eqD a d).map (!·) := rfl
theorem c_is : cIs st a d = isD a d := rfl
theorem c_nis : cNis st a d = (isD a d).map (!·) := rfl
theorem c_in : cIn st a d = inD st a d := rfl
theorem c_nin : cNin st a d = (inD st a d).map (!·) := rfl
theorem eqD_int : eqD (.int i) (.int j) = some (decide (i = j)) := rfl
theorem eqS_int : eqS st (.int i) (.int j) = some (decide (i = j)) := rfl
theorem ixd_tup : ixD st (.tup xs) (.int i) = atI xs i := rfl
theorem ixd_lst : ixD st (.lst xs) (.int i) = atI xs i := rfl
theorem ixd_rol : ixD st (.rol xs) (.int i) = atI xs i := rfl
theorem ixd_mrf {k : Nat} {zs : List D} (h : st.get k = some (.lst zs)) : ixD st (.mrf k) (.int i) = atI zs i := by
  show (match st.get k with | some (MO.lst xs) => some xs | _ => none).bind (fun xs => atI xs i) = atI zs i
  rw [h]; rfl
theorem put_mrf {k : Nat} {zs : List D} (h : st.get k = some (.lst zs)) : putD st (.mrf k) (.int i) d = (ixN zs.length i).map fun n => st.set k (.lst (zs.set n d)) := by
  show (match st.get k with | some (MO.lst xs) => (ixN xs.length i).map fun n => st.set k (.lst (xs.set n d)) | _ => none) = _
  rw [h]
theorem len_mrf {k : Nat} {zs : List D} (h : st.get k = some (.lst zs)) : fLen st (.mrf k) = some (.int zs.length) := by
  have e1 : asDct st (.mrf k) = none := by
    show (match st.get k with | some (MO.dct ks vs) => some (ks, vs) | _ => none) = none
    rw [h]
  have e2 : asSeq st (.mrf k) = some zs := by
    show (match st.get k with | some (MO.lst xs) => some xs | _ => none) = _
    rw [h]
  show (match asDct st (.mrf k) with | some p => omust (p.1.length ≤ sizeLine) (some (D.int p.1.length)) | none => (asSeq st (.mrf k)).map fun (xs : List D) => D.int xs.length) = _
  rw [e1, e2]; rfl
theorem live_mrf {k : Nat} {zs : List D} (h : st.get k = some (.lst zs)) : liveM st (.mrf k) = true := by
  show (match st.get k with | some (MO.lst _) => true | _ => false) = true
  rw [h]
theorem app_mrf {k : Nat} {zs : List D} (h : st.get k = some (.lst zs)) (hl : zs.length < sizeLine) : appD st (.mrf k) d = some (st.set k (.lst (zs ++ [d]))) := by
  show (match st.get k with | some (MO.lst xs) => if xs.length < sizeLine then some (st.set k (.lst (xs ++ [d]))) else none | _ => none) = _
  rw [h]
  exact if_pos hl
theorem sl_tup' (lo hi : Option Int) : slD st (.tup xs) lo hi = some (.tup (cutD xs lo hi)) := rfl
theorem sl_lst' (lo hi : Option Int) : slD st (.lst xs) lo hi = some (.lst (cutD xs lo hi)) := rfl
theorem sl_rol' (lo hi : Option Int) : slD st (.rol xs) lo hi = some (.lst (cutD xs lo hi)) := rfl
theorem tr_bl : truth st (.bl b) = some b := rfl
theorem tr_int : truth st (.int i) = some (i != 0) := rfl
theorem tr_non : truth st .non = some false := rfl
theorem asI_int : asI (.int i) = some i := rfl
theorem it_str : itemsOf st (.str x) = some (x.cps.toList.map fun c => .str ⟨#[c]⟩) := rfl
theorem it_lst : itemsOf st (.lst xs) = some xs := rfl
theorem it_tup : itemsOf st (.tup xs) = some xs := rfl
end
theorem atI_nat' {α : Type} (xs : List α) (n : Nat) : atI xs (n : Int) = xs[n]? := by
  unfold atI ixN
  rw [if_pos (by omega)]
  by_cases h : n < xs.length
  · rw [if_pos (by omega)]
    rfl
  · rw [if_neg (by omega), List.getElem?_eq_none (by omega)]
    rfl
theorem atI_0 {α : Type} (xs : List α) : atI xs 0 = xs[0]? := atI_nat' xs 0
theorem atI_1 {α : Type} (xs : List α) : atI xs 1 = xs[1]? := atI_nat' xs 1
theorem atI_2 {α : Type} (xs : List α) : atI xs 2 = xs[2]? := atI_nat' xs 2
theorem omust_pos {α : Type} {p : Prop} [Decidable p] (h : p) (o : Option α) : omust p o = o := if_pos h
/-! ### == -/
theorem toPs_ints : ∀ c : List Int, toPs (c.map D.int) = some (c.map PyData.int)
  | [] => rfl
  | i :: c => by
    show (match toP (.int i), toPs (c.map D.int) with | some p, some ps => some (p :: ps) | _, _ => none) = _
    rw [toPs_ints c]
    rfl
theorem shaped_ints (c : List Int) : SeqAt.shaped (.list (c.map PyData.int)) = true := by
  have h1 : ∀ c : List Int, PyData.canLayAll0 (c.map PyData.int) = true := by
    intro c
    induction c with
    | nil => rfl
    | cons i c ih => simp only [List.map_cons, PyData.canLayAll0, PyData.canLay0, ih, Bool.and_self]
  have h2 : ∀ c : List Int, PyData.depthAll (c.map PyData.int) = 0 := by
    intro c
    induction c with
    | nil => rfl
    | cons i c ih => simp only [List.map_cons, PyData.depthAll, PyData.depth, ih, Nat.max_self]
  unfold SeqAt.shaped
  simp only [PyData.canLay0, PyData.depth, h1, h2]
  decide
theorem eqD_ints (c : List Int) : eqD (.lst (c.map D.int)) (.lst []) = some c.isEmpty := by
  unfold eqD
  have e : toP (.lst (c.map D.int)) = some (.list (c.map PyData.int)) := by
    show (toPs (c.map D.int)).map PyData.list = _
    rw [toPs_ints]
    rfl
  rw [e]
  show (if SeqAt.shaped (.list (c.map PyData.int)) = true ∧ SeqAt.shaped (.list []) = true then _ else _) = _
  rw [if_pos ⟨shaped_ints c, by decide⟩]
  cases c <;> rfl
theorem shaped_str {x : Str} (h : PyData.strOk x = true) : SeqAt.shaped (.str x) = true := by
  unfold SeqAt.shaped
  simp only [PyData.canLay0, PyData.depth, h]
  rfl
theorem eqD_str {x y : Str} (h : PyData.strOk x = true) (k : PyData.strOk y = true) : eqD (.str x) (.str y) = some (x == y) := by
  show (if SeqAt.shaped (.str x) = true ∧ SeqAt.shaped (.str y) = true then some (PyData.eqv (.str x) (.str y)) else none) = _
  rw [if_pos ⟨shaped_str h, shaped_str k⟩]
  rfl
theorem eqS_of {st : Sto} {a b : D} {r : Bool} (h : eqD a b = some r) : eqS st a b = some r := by
  unfold eqS
  rw [h]
/-! ### new keys -/
theorem putU_new {α β : Type} {k : NestedKey} {d : α} {v : β} : ∀ {nk : List NestedKey} {xs : List α} {ys : List β}, k ∉ nk → xs.length = nk.length → ys.length = nk.length → putU k d v nk xs ys = (nk ++ [k], xs ++ [d], ys ++ [v])
  | [], [], [], _, _, _ => rfl
  | j :: nk, x :: xs, y :: ys, h, h1, h2 => by
    unfold putU
    rw [if_neg fun z => h (by rw [← z]; exact List.mem_cons_self), putU_new (fun z => h (List.mem_cons_of_mem _ z)) (by simpa using h1) (by simpa using h2)]
    rfl
  | [], _ :: _, _, _, h, _ => by cases h
  | [], _, _ :: _, _, _, h => by cases h
  | _ :: _, [], _, _, h, _ => by cases h
  | _ :: _, _, [], _, _, h => by cases h
theorem toKs_len : ∀ {ks : List D} {nk : List NestedKey}, toKs ks = some nk → ks.length = nk.length
  | [], _, h => by cases h; rfl
  | k :: ks, nk, h => by
    unfold toKs at h
    split at h
    · rename_i p ps h1 h2
      cases h
      exact congrArg (· + 1) (toKs_len h2)
    · cases h
theorem toKs_snoc : ∀ {ks : List D} {nk : List NestedKey} {d : D} {k : NestedKey}, toKs ks = some nk → toK d = some k → toKs (ks ++ [d]) = some (nk ++ [k])
  | [], _, d, k, h, e => by
    cases h
    show (match toK d, toKs [] with | some p, some ps => some (p :: ps) | _, _ => none) = some [k]
    rw [e]; rfl
  | c :: ks, nk, d, k, h, e => by
    unfold toKs at h
    split at h
    · rename_i p ps h1 h2
      cases h
      show (match toK c, toKs (ks ++ [d]) with | some p, some ps => some (p :: ps) | _, _ => none) = _
      rw [h1, toKs_snoc h2 e]; rfl
    · cases h
theorem putQ_new {ks vs : List D} {nk : List NestedKey} {d v : D} {k : NestedKey} (h : toKs ks = some nk) (e : toK d = some k) (hn : k ∉ nk) (hf : ks.all flatD = true) (fd : flatD d = true) (hl : ks.length < sizeLine) (hv : vs.length = nk.length) : putQ ks vs d v = some (ks ++ [d], vs ++ [v]) := by
  unfold putQ
  rw [h, e]
  show (if _ then some (putU k d v nk ks vs).2 else none) = _
  rw [if_pos ⟨hl, .inl ⟨hf, fd⟩⟩, putU_new hn (toKs_len h) hv]
/-- a dict comprehension whose keys are all new -/
theorem compK_new {tg : Tg} {env : En} {ke ve : Ev D} (f g : D → D) (K : D → NestedKey) (st : Sto) : ∀ (ds ks vs : List D) (nk : List NestedKey), (∀ d ∈ ds, ∃ env', bindT tg d env = some env' ∧ ke env' st = .ok (f d) st ∧ ve env' st = .ok (g d) st) →
    (∀ d ∈ ds, toK (f d) = some (K d) ∧ flatD (f d) = true) → toKs ks = some nk → (nk ++ ds.map K).Nodup → ks.all flatD = true → vs.length = nk.length → ks.length + ds.length ≤ sizeLine → compK tg env qNil ke ve ks vs ds st = .ok (ks ++ ds.map f, vs ++ ds.map g) st
  | [], ks, vs, nk, _, _, _, _, _, _, _ => by unfold compK; simp
  | d :: ds, ks, vs, nk, h, hk, e, hn, hf, hv, hl => by
    obtain ⟨env', h1, h2, h3⟩ := h d List.mem_cons_self
    obtain ⟨k1, k2⟩ := hk d List.mem_cons_self
    rw [List.length_cons] at hl
    have hnk : K d ∉ nk := fun z => by
      rw [List.map_cons] at hn
      exact (List.nodup_append.mp hn).2.2 _ z _ List.mem_cons_self rfl
    have hn' : ((nk ++ [K d]) ++ ds.map K).Nodup := by
      rw [List.append_assoc]
      exact hn
    unfold compK
    rw [h1, may_some]
    show (R.ok true st).bind _ = _
    rw [R.bind_ok, if_pos rfl, h2, R.bind_ok, h3, R.bind_ok, putQ_new e k1 hnk hf k2 (by omega) hv, may_some,
      compK_new f g K st ds (ks ++ [f d]) (vs ++ [g d]) (nk ++ [K d]) (fun c hc => h c (List.mem_cons_of_mem _ hc)) (fun c hc => hk c (List.mem_cons_of_mem _ hc)) (toKs_snoc e k1) hn' (by rw [List.all_append, hf]; simp [k2]) (by simp [hv]) (by simp; omega)]
    simp
theorem dcomp_new {own : List Nat} {tg : Tg} {it ke ve : Ev D} {env : En} {st st' : Sto} {x : D} {ds : List D} (f g : D → D) (K : D → NestedKey) (hit : it env st = .ok x st') (hi : itemsOf st' x = some ds)
    (h : ∀ d ∈ ds, ∃ env', bindT tg d (wipeE env own) = some env' ∧ ke env' st' = .ok (f d) st' ∧ ve env' st' = .ok (g d) st') (hk : ∀ d ∈ ds, toK (f d) = some (K d) ∧ flatD (f d) = true) (hn : (ds.map K).Nodup) (hl : ds.length ≤ sizeLine) :
    xDcomp own tg it qNil ke ve env st = .ok (.dct (ds.map f) (ds.map g)) st' := by
  unfold xDcomp
  rw [hit, R.bind_ok, hi, may_some, compK_new f g K st' ds [] [] [] h hk rfl (by simpa using hn) rfl rfl (by simpa using hl)]
  rfl
theorem bools_true (p : D → Bool) : ∀ ds : List D, bools? (ds.map fun d => .bl (p d)) = some (ds.map p)
  | [] => rfl
  | d :: ds => by
    show (bools? (ds.map fun d => .bl (p d))).map (p d :: ·) = _
    rw [bools_true p ds]; rfl
theorem fall_map (p : D → Bool) (st : Sto) (ds : List D) : fAll st (.lst (ds.map fun d => .bl (p d))) = some (.bl (ds.all p)) := by
  rw [all_lst, bools_true]
  show some (D.bl ((ds.map p).all id)) = _
  rw [List.all_map]; rfl
end Qv
end
section
set_option Elab.async false
set_option autoImplicit false
set_option linter.all false
set_option maxRecDepth 100000
set_option maxHeartbeats 1000000
/-! Qv: what draws. -/
namespace Qv
open PySem L2
local macro_rules | `(tactic| walk_at "qv") => `(tactic| simp [ap_var, ap_lit, ap_2, ap_cmp, ap_chain, ap_and, ap_or, ap_not, ap_neg, ap_ife, ap_nil, ap_cons, ap_ap, ap_sel, ap_tup, ap_lst, ap_mlst, ap_mcopy, ap_ix, ap_onone, ap_osome, ap_sl, ap_call, ap_fn, ap_qnil, ap_qcons, ap_snil, ap_scons, ap_set, ap_par, ap_if, ap_ret, ap_retN, ap_exp, ap_put, ap_frz, ap_drop, go_next, go_ret, go_brk, go_cont, res_next, res_ret, startE, bindT, bindTs,
  add_int, add_str, add_tup, add_lst, sub_int, mul_int, mul_lst, mul_tup, fdiv_int, mod_int, pow_int, len_str, len_tup, len_lst, int_int, int_bl, abs_int, list_lst, list_tup, tuple_lst, tuple_tup, lt_int, le_int, gt_int, ge_int, c_eq, c_ne, c_is, c_nis, c_in, c_nin, eqD_int, eqS_int, ixd_tup, ixd_lst, ixd_rol, ixd_mrf, put_mrf, len_mrf, sl_tup', sl_lst', sl_rol', tr_bl, tr_int, tr_non, asI_int, it_str, it_lst, it_tup, atI_0, atI_1, atI_2, ixN, must, omust, wipeE, *])
/-- the pen: the cells, how many were begun, what is left of a great one -/
def penM (c : List Int) (t l : Int) : MO := .lst [.lst (c.map D.int), .int t, .int l]
def drawB (call : Ca) : Ex := sCons (sIf (xCmp cGt (xIx (xVar 0) (xLit (.int 2))) (xLit (.int 0))) (sCons (sSet (.nm 2) (xFn fInt (xIx (xVar 0) (xLit (.int 2))))) (sCons (sPut (xVar 0) (xLit (.int 2)) (x2 bFdiv (xVar 2) (xVar 1))) (sCons (sRet (x2 bMod (xFn fInt (xVar 2)) (xVar 1))) (sNil)))) (sNil)) (sCons (sSet (.nm 3) (xIx (xVar 0) (xLit (.int 1)))) (sCons (sPut (xVar 0) (xLit (.int 1)) (x2 bAdd (xVar 3) (xLit (.int 1)))) (sCons (sSet (.nm 4) (x2 bAdd (x2 bMul (xLit (.int 60527)) (xVar 3)) (xLit (.int 2903)))) (sCons (sIf (xCmp cNe (xIx (xVar 0) (xLit (.int 0))) (xLst (xNil))) (sCons (sSet (.nm 4) (xIx (xIx (xVar 0) (xLit (.int 0))) (x2 bMod (xFn fInt (xVar 3)) (xFn fLen (xIx (xVar 0) (xLit (.int 0))))))) (sNil)) (sNil)) (sCons (sIf (xAnd (xCmp cLt (xVar 3) (xFn fLen (xIx (xVar 0) (xLit (.int 0))))) (xCmp cGe (xFn fAbs (xVar 4)) (x2 bPow (xLit (.int 10)) (xLit (.int 18))))) (sCons (sSet (.nm 2) (x2 bAdd (x2 bMul (xLit (.int 2)) (x2 bSub (xFn fAbs (xFn fInt (xVar 4))) (x2 bPow (xLit (.int 10)) (xLit (.int 18))))) (xFn fInt (xCmp cLt (xVar 4) (xLit (.int 0)))))) (sCons (sPut (xVar 0) (xLit (.int 2)) (x2 bFdiv (xVar 2) (xVar 1))) (sCons (sRet (x2 bMod (xFn fInt (xVar 2)) (xVar 1))) (sNil)))) (sNil)) (mixB))))))
where mixB : Ex := sCons (sSet (.nm 5) (x2 bMod (xFn fInt (x2 bPow (x2 bAdd (x2 bAdd (x2 bMod (xFn fInt (xVar 4)) (xLit (.int 2147483543))) (x2 bMul (xLit (.int 60527)) (xVar 3))) (xLit (.int 2903))) (xLit (.int 5)))) (xLit (.int 2147483629)))) (sCons (sSet (.nm 5) (x2 bMod (xFn fInt (x2 bPow (x2 bAdd (x2 bAdd (x2 bMul (xVar 5) (x2 bAdd (x2 bMul (xLit (.int 2)) (xVar 3)) (xLit (.int 1013)))) (x2 bMul (x2 bMul (xLit (.int 60527)) (xVar 3)) (xVar 3))) (xLit (.int 44027))) (xLit (.int 3)))) (xLit (.int 2147483587)))) (sCons (sRet (x2 bMod (xFn fInt (x2 bFdiv (xVar 5) (xLit (.int 64)))) (xVar 1))) (sNil)))
theorem mix_v (st : Sto) (t cell many : Int) (x0 x2 x5 : Option D) (hm : 0 < many) (hm2 : many < 1073741824) (ht : 0 ≤ t) (ht2 : t < 10000000) :
    ∃ r, drawB.mixB [x0, some (.int many), x2, some (.int t), some (.int cell), x5] st = .ok (.ret (.int r)) st ∧ 0 ≤ r ∧ r < many := by
  have h0 : 0 ≤ cell % 2147483543 := Int.emod_nonneg _ (by omega)
  have h1 : cell % 2147483543 < 2147483543 := Int.emod_lt_of_pos _ (by omega)
  have h2 : (cell % 2147483543 + 60527 * t + 2903).natAbs < 18446744073709551616 := by omega
  generalize hw : cell % 2147483543 + 60527 * t + 2903 = w at h2
  have h3 : 0 ≤ w ^ 5 % 2147483629 := Int.emod_nonneg _ (by omega)
  have h4 : w ^ 5 % 2147483629 < 2147483629 := Int.emod_lt_of_pos _ (by omega)
  generalize hv : w ^ 5 % 2147483629 = v at h3 h4
  have q1 : 0 ≤ v * (2 * t + 1013) := Int.mul_nonneg h3 (by omega)
  have q2 : v * (2 * t + 1013) ≤ 2147483629 * (2 * t + 1013) := Int.mul_le_mul_of_nonneg_right (by omega) (by omega)
  have q3 : 0 ≤ 60527 * t * t := Int.mul_nonneg (by omega) ht
  have q4 : 60527 * t * t ≤ 60527 * t * 10000000 := Int.mul_le_mul_of_nonneg_left (by omega) (by omega)
  have h5 : (v * (2 * t + 1013) + 60527 * t * t + 44027).natAbs < 18446744073709551616 := by omega
  have c1 : -18446744073709551616 < v := by omega
  have c2 : v < 18446744073709551616 := by omega
  have c3 : -18446744073709551616 < t := by omega
  have c4 : t < 18446744073709551616 := by omega
  unfold drawB.mixB
  walk_at "qv"
  exact ⟨Int.emod_nonneg _ (by omega), Int.emod_lt_of_pos _ hm⟩
theorem eqD_nil : eqD (.lst []) (.lst []) = some true := eqD_ints []
theorem eqD_intc (i : Int) (c : List Int) : eqD (.lst (.int i :: c.map D.int)) (.lst []) = some false := eqD_ints (i :: c)
/-- one draw -/
theorem draw_v {T : List Df} {id : Nat} (hT : T[id]? = some ⟨2, 6, drawB⟩) (n : Nat) (st : Sto) (p : Nat) (c : List Int) (t l : Int) (many : Int) (hp : st.get p = some (penM c t l)) (hm : 0 < many) (hm2 : many < 1073741824) (ht : 0 ≤ t) (ht2 : t < 10000000) :
    ∃ r t' l', evCall T (n + 1) id [.mrf p, .int many] st = .ok (.int r) (st.set p (penM c t' l')) ∧ 0 ≤ r ∧ r < many ∧ t ≤ t' ∧ t' ≤ t + 1 := by
  rw [call_of hT n _ _ rfl]
  unfold penM at hp ⊢
  have ht0 : ¬ t < 0 := by omega
  have hs : ∀ m, (st.set p m).get p = some m := fun m => Sto.get_set hp
  unfold drawB
  by_cases hl : 0 < l
  · walk_at "qv"
    exact ⟨_, t, ⟨rfl, _, rfl⟩, Int.emod_nonneg _ (by omega), Int.emod_lt_of_pos _ hm, by omega, by omega⟩
  · have tail : ∀ (st : Sto) (cell : Int) (x0 x2 x5 : Option D), ∃ r, drawB.mixB [x0, some (.int many), x2, some (.int t), some (.int cell), x5] st = .ok (.ret (.int r)) st ∧ 0 ≤ r ∧ r < many := fun st cell x0 x2 x5 => mix_v st t cell many x0 x2 x5 hm hm2 ht ht2
    cases c with
    | nil =>
      obtain ⟨r, hr, q0, q1⟩ := tail (st.set p (.lst [.lst [], .int (t + 1), .int l])) (60527 * t + 2903) (some (.mrf p)) none none
      have en := eqD_nil
      simp only [List.map_nil] at *
      clear tail
      walk_at "qv"
      exact ⟨r, t + 1, ⟨rfl, l, rfl⟩, by omega, by omega, by omega, by omega⟩
    | cons c0 cs =>
      have i0 : 0 ≤ t % ((cs.length : Int) + 1) := Int.emod_nonneg _ (by omega)
      have i1 : t % ((cs.length : Int) + 1) < (cs.length : Int) + 1 := Int.emod_lt_of_pos _ (by omega)
      have i2 : (0 : Int) < (cs.length : Int) + 1 := by omega
      obtain ⟨k, hk⟩ := Int.eq_ofNat_of_zero_le i0
      have hk1 : k < cs.length + 1 := by omega
      obtain ⟨x, hx⟩ : ∃ x : Int, atI (D.int c0 :: List.map D.int cs) (k : Int) = some (.int x) := by
        refine ⟨(c0 :: cs)[k], ?_⟩
        rw [atI_nat', ← List.map_cons, List.getElem?_map, List.getElem?_eq_getElem (by simpa using hk1)]
        rfl
      obtain ⟨r, hr, q0, q1⟩ := tail (st.set p (.lst [.lst (.int c0 :: cs.map D.int), .int (t + 1), .int l])) x (some (.mrf p)) none none
      have en := eqD_intc c0 cs
      clear tail
      by_cases g1 : t < (cs.length : Int) + 1
      · by_cases g2 : 1000000000000000000 ≤ (if x < 0 then -x else x)
        · walk_at "qv"
          exact ⟨_, t + 1, ⟨rfl, _, Sto.set_set⟩, Int.emod_nonneg _ (by omega), Int.emod_lt_of_pos _ hm, by omega, by omega⟩
        · walk_at "qv"
          exact ⟨r, t + 1, ⟨rfl, l, rfl⟩, by omega, by omega, by omega, by omega⟩
      · walk_at "qv"
        exact ⟨r, t + 1, ⟨rfl, l, rfl⟩, by omega, by omega, by omega, by omega⟩
/-- one of a row -/
def pickB (id : Nat) (call : Ca) : Ex := sCons (sRet (xIx (xVar 1) (xCall call id (xCons (xVar 0) (xCons (xFn fLen (xVar 1)) (xNil)))))) (sNil)
theorem pick_v {T : List Df} {id ip : Nat} (hT : T[id]? = some ⟨2, 6, drawB⟩) (hP : T[ip]? = some ⟨2, 2, pickB id⟩) (n : Nat) (st : Sto) (p : Nat) (c : List Int) (t l : Int) (xs : List D) (hp : st.get p = some (penM c t l)) (h0 : xs ≠ []) (h1 : xs.length < 1000000)
    (ht : 0 ≤ t) (ht2 : t < 10000000) : ∃ x t' l', evCall T (n + 2) ip [.mrf p, .lst xs] st = .ok x (st.set p (penM c t' l')) ∧ x ∈ xs ∧ t ≤ t' ∧ t' ≤ t + 1 := by
  have hl : 0 < xs.length := List.length_pos_iff.mpr h0
  obtain ⟨r, t', l', e, q0, q1, q2, q3⟩ := draw_v hT n st p c t l xs.length hp (by omega) (by omega) ht ht2
  obtain ⟨k, hk⟩ := Int.eq_ofNat_of_zero_le q0
  subst hk
  have hk : k < xs.length := by omega
  refine ⟨xs[k], t', l', ?_, List.getElem_mem hk, q2, q3⟩
  have hx : atI xs (k : Int) = some xs[k] := by rw [atI_nat', List.getElem?_eq_getElem hk]
  rw [call_of hP (n + 1) _ _ rfl]
  show resOf _ (pickB id (evCall T (n + 1)) _ _) = _
  generalize evCall T (n + 1) = call at e ⊢
  clear h0 h1 ht ht2 hp hl q0 q1 q2 q3 hT hP
  unfold pickB
  walk_at "qv"
end Qv
end
section
set_option Elab.async false
set_option autoImplicit false
set_option linter.all false
set_option maxRecDepth 100000
set_option maxHeartbeats 1000000
/-! Qv: values whose text is short: repr, ==. -/
namespace Qv
open PySem L2
/-- a text of at most n signs, right ones -/
structure Fine (n : Nat) (s : Str) : Prop where
  len : s.length ≤ n
  ok : PyData.strOk s = true
theorem strOk_app (a b : Str) : PyData.strOk (a ++ b) = (PyData.strOk a && PyData.strOk b) := by
  unfold PyData.strOk
  rw [PySem.Str.cps_append, Array.all_append]
theorem Fine.app {n m : Nat} {a b : Str} (h : Fine n a) (k : Fine m b) : Fine (n + m) (a ++ b) :=
  ⟨by rw [strLen_append]; exact Nat.add_le_add h.len k.len, by rw [strOk_app, h.ok, k.ok]; rfl⟩
theorem Fine.le {n m : Nat} {a : Str} (h : Fine n a) (k : n ≤ m) : Fine m a := ⟨Nat.le_trans h.len k, h.ok⟩
theorem fine_join {n : Nat} : ∀ {ts : List Str}, (∀ t ∈ ts, Fine n t) → Fine ((n + 2) * ts.length) (Str.join ", " ts)
  | [], _ => ⟨Nat.zero_le _, by decide +kernel⟩
  | [t], h => (h t List.mem_cons_self).le (by simp)
  | t :: u :: r, h => by
    have a := h t List.mem_cons_self
    have ih := fine_join fun x hx => h x (List.mem_cons_of_mem t hx)
    have s : Fine 2 (", " : Str) := ⟨by decide, by decide +kernel⟩
    have := (a.app s).app ih
    exact this.le (by simp only [List.length_cons, Nat.mul_add, Nat.mul_one]; omega)
theorem fine_tuple {n : Nat} {ts : List Str} (h : ∀ t ∈ ts, Fine n t) : Fine ((n + 2) * ts.length + 3) (tupleText ts) := by
  unfold tupleText
  have o : Fine 1 ("(" : Str) := ⟨by decide, by decide +kernel⟩
  have c : Fine 2 (((if ts.length == 1 then ",)" else ")" : String)) : Str) := by
    split
    · exact ⟨by decide, by decide +kernel⟩
    · exact ⟨by decide, by decide +kernel⟩
  exact ((o.app (fine_join h)).app c).le (by omega)
theorem fine_from {n : Nat} : ∀ {ts : List Str} {k m : Nat} {acc : Str}, (∀ t ∈ ts, Fine n t) → Fine m acc → Fine (m + (n + 2) * ts.length) (textFrom k acc ts)
  | [], k, m, acc, _, a => a.le (by omega)
  | t :: r, k, m, acc, h, a => by
    have s : Fine 2 (((if k > 0 then ", " else "" : String)) : Str) := by
      split
      · exact ⟨by decide, by decide +kernel⟩
      · exact ⟨by decide, by decide +kernel⟩
    have := fine_from (k := k + 1) (fun x hx => h x (List.mem_cons_of_mem t hx)) ((a.app s).app (h t List.mem_cons_self))
    exact (show Fine _ (textFrom k acc (t :: r)) from this).le (by simp only [List.length_cons, Nat.mul_add, Nat.mul_one]; omega)
theorem fine_list {n : Nat} {ts : List Str} (h : ∀ t ∈ ts, Fine n t) : Fine ((n + 2) * ts.length + 3) (listText ts) := by
  unfold listText
  have o : Fine 1 ("[" : Str) := ⟨by decide, by decide +kernel⟩
  have c : Fine 1 ("]" : Str) := ⟨by decide, by decide +kernel⟩
  exact ((fine_from h o).app c).le (by omega)
/-- a value that can be shown in k signs, dep rows deep -/
structure Sh (dep k : Nat) (d : D) : Prop where
  ex : ∃ p, toP d = some p ∧ p.showable = true ∧ p.depth ≤ dep ∧ p.canLay0 = true ∧ Fine k p.shown
theorem Sh.le {dep dep' k k' : Nat} {d : D} (h : Sh dep k d) (hd : dep ≤ dep') (hk : k ≤ k') : Sh dep' k' d := by
  obtain ⟨p, a, b, c, e, f⟩ := h.ex
  exact ⟨p, a, b, Nat.le_trans c hd, e, f.le hk⟩
theorem sh_rows {dep k : Nat} : ∀ {xs : List D}, (∀ x ∈ xs, Sh dep k x) → ∃ ps, toPs xs = some ps ∧ PyData.showableAll ps = true ∧ PyData.depthAll ps ≤ dep ∧ PyData.canLayAll0 ps = true ∧ (∀ t ∈ PyData.shownAll ps, Fine k t) ∧ ps.length = xs.length ∧ (PyData.shownAll ps).length = xs.length
  | [], _ => ⟨[], rfl, rfl, Nat.zero_le _, rfl, fun t h => (nomatch h), rfl, rfl⟩
  | x :: xs, h => by
    obtain ⟨p, a1, a2, a3, a4, a5⟩ := (h x List.mem_cons_self).ex
    obtain ⟨ps, b1, b2, b3, b4, b5, b6, b7⟩ := sh_rows fun y hy => h y (List.mem_cons_of_mem x hy)
    refine ⟨p :: ps, ?_, ?_, ?_, ?_, fun t ht => ?_, congrArg (· + 1) b6, congrArg (· + 1) b7⟩
    · unfold toPs
      rw [a1, b1]
    · simp only [PyData.showableAll, a2, b2, Bool.and_self]
    · simp only [PyData.depthAll]; omega
    · simp only [PyData.canLayAll0, a4, b4, Bool.and_self]
    · rcases List.mem_cons.mp (show t ∈ p.shown :: PyData.shownAll ps from ht) with z | z
      · rw [z]; exact a5
      · exact b5 t z
theorem sh_tup {dep k m : Nat} {xs : List D} (h : ∀ x ∈ xs, Sh dep k x) (hl : xs.length ≤ m) : Sh (dep + 1) ((k + 2) * m + 3) (.tup xs) := by
  obtain ⟨ps, b1, b2, b3, b4, b5, b6, b7⟩ := sh_rows h
  refine ⟨.tuple ps, ?_, ?_, ?_, ?_, ?_⟩
  · show (toPs xs).map PyData.tuple = _; rw [b1]; rfl
  · simp only [PyData.showable, b2]
  · simp only [PyData.depth]; omega
  · simp only [PyData.canLay0, b4]
  · have := fine_tuple b5
    rw [b7] at this
    exact (show Fine _ (PyData.shown (.tuple ps)) from by simpa only [PyData.shown] using this).le (Nat.add_le_add_right (Nat.mul_le_mul_left _ hl) 3)
theorem sh_lst {dep k m : Nat} {xs : List D} (h : ∀ x ∈ xs, Sh dep k x) (hl : xs.length ≤ m) : Sh (dep + 1) ((k + 2) * m + 3) (.lst xs) := by
  obtain ⟨ps, b1, b2, b3, b4, b5, b6, b7⟩ := sh_rows h
  refine ⟨.list ps, ?_, ?_, ?_, ?_, ?_⟩
  · show (toPs xs).map PyData.list = _; rw [b1]; rfl
  · simp only [PyData.showable, b2]
  · simp only [PyData.depth]; omega
  · simp only [PyData.canLay0, b4]
  · have := fine_list b5
    rw [b7] at this
    exact (show Fine _ (PyData.shown (.list ps)) from by simpa only [PyData.shown] using this).le (Nat.add_le_add_right (Nat.mul_le_mul_left _ hl) 3)
theorem sh_non : Sh 0 4 .non := ⟨.none, rfl, rfl, Nat.le_refl _, rfl, by decide +kernel, by decide +kernel⟩
theorem sh_bl (b : Bool) : Sh 0 5 (.bl b) := ⟨.bool b, rfl, rfl, Nat.le_refl _, rfl, by cases b <;> decide +kernel, by cases b <;> decide +kernel⟩
theorem small_ints : ∀ i : _root_.Fin 300, (PyData.shown (.int ((i : Nat) : Int))).length ≤ 4 ∧ PyData.strOk (PyData.shown (.int ((i : Nat) : Int))) = true ∧ PyData.showable (.int ((i : Nat) : Int)) = true := by decide +kernel
theorem sh_int {i : Int} (h0 : 0 ≤ i) (h1 : i < 300) : Sh 0 4 (.int i) := by
  obtain ⟨k, rfl⟩ := Int.eq_ofNat_of_zero_le h0
  have hk : k < 300 := by omega
  obtain ⟨a, b, c⟩ := small_ints ⟨k, hk⟩
  exact ⟨.int k, rfl, c, Nat.le_refl _, rfl, a, b⟩
theorem sh_str {x : Str} {n : Nat} (h : (reprText x).length ≤ n ∧ PyData.strOk (reprText x) = true ∧ PyData.strOk x = true) : Sh 0 n (.str x) := ⟨.str x, rfl, rfl, Nat.le_refl _, by simp only [PyData.canLay0, h.2.2], by simpa only [PyData.shown] using h.1, by simpa only [PyData.shown] using h.2.1⟩
/-- repr -/
theorem sh_repr {dep k : Nat} {d : D} (h : Sh dep k d) (hd : dep ≤ 60) (hk : k ≤ sizeLine) (st : Sto) : ∃ s, fRepr st d = some (.str s) ∧ PyData.strOk s = true := by
  obtain ⟨p, a, b, c, _, f⟩ := h.ex
  refine ⟨p.shown, ?_, f.ok⟩
  unfold fRepr
  rw [a]
  exact omust_pos ⟨b, Nat.le_trans f.len hk, Nat.le_trans c hd⟩ _
theorem sh_shaped {dep k : Nat} {d : D} {p : PyData} (h : Sh dep k d) (hd : dep ≤ 64) (e : toP d = some p) : SeqAt.shaped p = true := by
  obtain ⟨p', a, _, c, l, _⟩ := h.ex
  rw [e] at a
  cases a
  unfold SeqAt.shaped
  rw [l, decide_eq_true (Nat.le_trans c hd)]; rfl
theorem sh_eq {dep k : Nat} {d : D} (h : Sh dep k d) (hd : dep ≤ 64) : eqD d d = some true := by
  obtain ⟨p, a, _, _, l, _⟩ := h.ex
  unfold eqD
  rw [a]
  show (if SeqAt.shaped p = true ∧ SeqAt.shaped p = true then some (PyData.eqv p p) else none) = _
  rw [if_pos ⟨sh_shaped h hd a, sh_shaped h hd a⟩, SeqAt.eqv_refl p l]
theorem eqvAll_len : ∀ {a b : List PyData}, PyData.eqvAll a b = true → a.length = b.length
  | [], [], _ => rfl
  | x :: xs, y :: ys, h => by
    rw [PyData.eqvAll, Bool.and_eq_true] at h
    exact congrArg (· + 1) (eqvAll_len h.2)
  | [], _ :: _, h => by rw [PyData.eqvAll] at h; cases h
  | _ :: _, [], h => by rw [PyData.eqvAll] at h; cases h
theorem sh_ne {dep k dep' k' : Nat} {xs ys : List D} (h : Sh dep k (.tup xs)) (h' : Sh dep' k' (.tup ys)) (hd : dep ≤ 64) (hd' : dep' ≤ 64) (hl : xs.length ≠ ys.length) : eqD (.tup xs) (.tup ys) = some false := by
  obtain ⟨p, a, _⟩ := h.ex
  obtain ⟨p', a', _⟩ := h'.ex
  have s := sh_shaped h hd a
  have s' := sh_shaped h' hd' a'
  unfold eqD
  rw [a, a']
  show (if SeqAt.shaped p = true ∧ SeqAt.shaped p' = true then some (PyData.eqv p p') else none) = _
  rw [if_pos ⟨s, s'⟩]
  have e1 : ∀ {zs : List D} {p : PyData}, toP (.tup zs) = some p → ∃ ps, p = .tuple ps ∧ ps.length = zs.length := fun {zs p} e => by
    have e : (toPs zs).map PyData.tuple = some p := e
    cases q : toPs zs with
    | none => rw [q] at e; cases e
    | some ps =>
      rw [q] at e; cases e
      refine ⟨ps, rfl, ?_⟩
      have key : ∀ {zs : List D} {ps : List PyData}, toPs zs = some ps → ps.length = zs.length := fun {zs} => by
        induction zs with
        | nil => intro ps e; cases e; rfl
        | cons z zs ih =>
          intro ps e
          unfold toPs at e
          split at e
          · rename_i h1 h2
            cases e
            exact congrArg (· + 1) (ih h2)
          · cases e
      exact key q
  obtain ⟨ps, rfl, l1⟩ := e1 a
  obtain ⟨qs, rfl, l2⟩ := e1 a'
  congr 1
  cases z : PyData.eqv (.tuple ps) (.tuple qs) with
  | false => rfl
  | true =>
    have z : PyData.eqvAll ps qs = true := by rw [PyData.eqv] at z; exact z
    exact absurd (eqvAll_len z) (by rw [l1, l2]; exact hl)
end Qv
end
section
set_option Elab.async false
set_option autoImplicit false
set_option linter.all false
set_option maxRecDepth 100000
set_option maxHeartbeats 4000000
/-! The text's defs as functions of slots and store; one derivation a def. Printed by gen2.py. -/
namespace Law
open PySem L2 Qv PySem.Spec PyProof.Rows
def top (i : Nat) : Stmt := PySem.Challenge.pw_ownhearing_k51_codes_made_and_refused.main.body.getD i (.Pass ⟨0, 0, 0, 0⟩)
def kn : List Str := ["HearError", "BadWorld", "BadScene", "BadDelays", "BadLine", "BadHouse", "BadMachine", "BadPaper", "BadTree", "BadPage", "BadNumber", "NoName", "Nothing", "BadWord", "BadText", "TooMany"]
def ki : List Str := ["Code"]
def lamT : List Str := ["law"]
theorem lam_one {K : PySem.W.Frag} : ∀ z, z ∈ lamT → pa K z = pa K "law" → z = "law" := fun z hz _ => by simpa [lamT] using hz
def tEq : List (Str × Nat × List Nat) := [("Code", 10, [0, 1])]
def tLen : List (Str × Nat × List Nat) := [("Code", 11, [0])]
abbrev s_is_integer : Stmt := (top 3)
abbrev s_is_between : Stmt := (top 4)
abbrev s_is_name : Stmt := (top 5)
abbrev s_is_listed : Stmt := (top 6)
abbrev s_is_row : Stmt := (top 7)
abbrev s_fixed : Stmt := (top 26)
abbrev s_is_act : Stmt := (top 29)
abbrev s_are_ways : Stmt := (top 36)
abbrev s_is_instruction : Stmt := (top 37)
abbrev s_Code___init__ : Stmt := (inCls (top 38) 0)
abbrev s_Code___eq__ : Stmt := (inCls (top 38) 1)
abbrev s_Code___len__ : Stmt := (inCls (top 38) 2)
abbrev s__law_pen : Stmt := (top 40)
abbrev s__law_draw : Stmt := (top 41)
abbrev s__law_pick : Stmt := (top 42)
abbrev s__law_mixed : Stmt := (top 43)
abbrev s__law_listed : Stmt := (top 45)
abbrev s__law_any_code : Stmt := (top 46)
abbrev s__law_wrong : Stmt := (top 47)
abbrev s_law : Stmt := (top 48)
abbrev s__law_heard : Stmt := (top 44)
def dd_is_integer : He.DefD := ⟨("is_integer", none), "is_integer", "is_integer", defArgs s_is_integer, defBody s_is_integer, defScope s_is_integer, [], []⟩
def dd_is_between : He.DefD := ⟨("is_between", none), "is_between", "is_between", defArgs s_is_between, defBody s_is_between, defScope s_is_between, [], []⟩
def dd_is_name : He.DefD := ⟨("is_name", none), "is_name", "is_name", defArgs s_is_name, defBody s_is_name, defScope s_is_name, [], []⟩
def dd_is_listed : He.DefD := ⟨("is_listed", none), "is_listed", "is_listed", defArgs s_is_listed, defBody s_is_listed, defScope s_is_listed, [], []⟩
def dd_is_row : He.DefD := ⟨("is_row", none), "is_row", "is_row", defArgs s_is_row, defBody s_is_row, defScope s_is_row, [], []⟩
def dd_fixed : He.DefD := ⟨("fixed", none), "fixed", "fixed", defArgs s_fixed, defBody s_fixed, defScope s_fixed, [], []⟩
def dd_is_act : He.DefD := ⟨("is_act", none), "is_act", "is_act", defArgs s_is_act, defBody s_is_act, defScope s_is_act, [], []⟩
def dd_are_ways : He.DefD := ⟨("are_ways", none), "are_ways", "are_ways", defArgs s_are_ways, defBody s_are_ways, defScope s_are_ways, [], []⟩
def dd_is_instruction : He.DefD := ⟨("is_instruction", none), "is_instruction", "is_instruction", defArgs s_is_instruction, defBody s_is_instruction, defScope s_is_instruction, [], []⟩
def dd_Code___init__ : He.DefD := ⟨("Code", some (Str.ofString "__init__")), "__init__", "Code.__init__", defArgs s_Code___init__, defBody s_Code___init__, defScope s_Code___init__, [], []⟩
def dd_Code___eq__ : He.DefD := ⟨("Code", some (Str.ofString "__eq__")), "__eq__", "Code.__eq__", defArgs s_Code___eq__, defBody s_Code___eq__, defScope s_Code___eq__, [], []⟩
def dd_Code___len__ : He.DefD := ⟨("Code", some (Str.ofString "__len__")), "__len__", "Code.__len__", defArgs s_Code___len__, defBody s_Code___len__, defScope s_Code___len__, [], []⟩
def dd__law_pen : He.DefD := ⟨("_law_pen", none), "_law_pen", "_law_pen", defArgs s__law_pen, defBody s__law_pen, defScope s__law_pen, [], []⟩
def dd__law_draw : He.DefD := ⟨("_law_draw", none), "_law_draw", "_law_draw", defArgs s__law_draw, defBody s__law_draw, defScope s__law_draw, [], []⟩
def dd__law_pick : He.DefD := ⟨("_law_pick", none), "_law_pick", "_law_pick", defArgs s__law_pick, defBody s__law_pick, defScope s__law_pick, [], []⟩
def dd__law_mixed : He.DefD := ⟨("_law_mixed", none), "_law_mixed", "_law_mixed", defArgs s__law_mixed, defBody s__law_mixed, defScope s__law_mixed, [], []⟩
def dd__law_listed : He.DefD := ⟨("_law_listed", none), "_law_listed", "_law_listed", defArgs s__law_listed, defBody s__law_listed, defScope s__law_listed, [], []⟩
def dd__law_any_code : He.DefD := ⟨("_law_any_code", none), "_law_any_code", "_law_any_code", defArgs s__law_any_code, defBody s__law_any_code, defScope s__law_any_code, [], []⟩
def dd__law_wrong : He.DefD := ⟨("_law_wrong", none), "_law_wrong", "_law_wrong", defArgs s__law_wrong, defBody s__law_wrong, defScope s__law_wrong, [], []⟩
def dd_law : He.DefD := ⟨("law", none), "law", "law", defArgs s_law, defBody s_law, defScope s_law, [], []⟩
def dd__law_heard : He.DefD := ⟨("_law_heard", none), "_law_heard", "_law_heard", defArgs s__law_heard, defBody s__law_heard, defScope s__law_heard, [], []⟩
def hdv : Hd := ⟨7, 2, 3, 1, kn, sCons (sIf (xCmp cIs (xVar 1) (xLit .non)) (sCons (sRet (xLst (xCons (xVar 2) (xNil)))) (sNil)) (sNil)) (sCons (sSet (.nm 4) (xLst (xCons (xTup (xCons (xLit (.str "world")) (xCons (xFn (fIsc kn ki ["BadWorld"]) (xVar 1)) (xNil)))) (xCons (xTup (xCons (xLit (.str "scene")) (xCons (xFn (fIsc kn ki ["BadScene"]) (xVar 1)) (xNil)))) (xCons (xTup (xCons (xLit (.str "delays")) (xCons (xFn (fIsc kn ki ["BadDelays"]) (xVar 1)) (xNil)))) (xCons (xTup (xCons (xLit (.str "line")) (xCons (xFn (fIsc kn ki ["BadLine"]) (xVar 1)) (xNil)))) (xNil))))))) (sCons (sSet (.nm 4) (x2 bAdd (xVar 4) (xLst (xCons (xTup (xCons (xLit (.str "house")) (xCons (xFn (fIsc kn ki ["BadHouse"]) (xVar 1)) (xNil)))) (xCons (xTup (xCons (xLit (.str "machine")) (xCons (xFn (fIsc kn ki ["BadMachine"]) (xVar 1)) (xNil)))) (xCons (xTup (xCons (xLit (.str "paper")) (xCons (xFn (fIsc kn ki ["BadPaper"]) (xVar 1)) (xNil)))) (xNil))))))) (sCons (sSet (.nm 4) (x2 bAdd (xVar 4) (xLst (xCons (xTup (xCons (xLit (.str "tree")) (xCons (xFn (fIsc kn ki ["BadTree"]) (xVar 1)) (xNil)))) (xCons (xTup (xCons (xLit (.str "page")) (xCons (xFn (fIsc kn ki ["BadPage"]) (xVar 1)) (xNil)))) (xNil)))))) (sCons (sSet (.nm 2) (xComp [5, 6] (.tup [.nm 5, .nm 6]) (xVar 4) (qCons (xVar 6) qNil) (xTup (xCons (xVar 5) (xCons (xFn (fFld kn ki "part") (xVar 1)) (xNil)))))) (sCons (sSet (.nm 2) (x2 bAdd (xVar 2) (xIfe (xFn (fIsc kn ki ["BadNumber"]) (xVar 1)) (xLst (xCons (xTup (xCons (xLit (.str "number")) (xCons (xFn fRepr (xFn (fFld kn ki "value") (xVar 1))) (xNil)))) (xNil))) (xLst (xNil))))) (sCons (sSet (.nm 2) (x2 bAdd (xVar 2) (xIfe (xFn (fIsc kn ki ["NoName"]) (xVar 1)) (xLst (xCons (xTup (xCons (xLit (.str "noname")) (xCons (xFn fRepr (xFn (fFld kn ki "name") (xVar 1))) (xNil)))) (xNil))) (xLst (xNil))))) (sCons (sSet (.nm 2) (x2 bAdd (xVar 2) (xComp [5, 6] (.tup [.nm 5, .nm 6]) (xLst (xCons (xTup (xCons (xLit (.str "nothing")) (xCons (xFn (fIsc kn ki ["Nothing"]) (xVar 1)) (xNil)))) (xCons (xTup (xCons (xLit (.str "word")) (xCons (xFn (fIsc kn ki ["BadWord"]) (xVar 1)) (xNil)))) (xNil)))) (qCons (xVar 6) qNil) (xTup (xCons (xVar 5) (xCons (xFn (fFld kn ki "word") (xVar 1)) (xNil))))))) (sCons (sSet (.nm 2) (x2 bAdd (xVar 2) (xIfe (xFn (fIsc kn ki ["BadText"]) (xVar 1)) (xLst (xCons (xTup (xCons (xLit (.str "text")) (xCons (xFn (fFld kn ki "line") (xVar 1)) (xCons (xFn (fFld kn ki "word") (xVar 1)) (xNil))))) (xNil))) (xLst (xNil))))) (sCons (sSet (.nm 2) (x2 bAdd (xVar 2) (xIfe (xFn (fIsc kn ki ["TooMany"]) (xVar 1)) (xLst (xCons (xTup (xCons (xLit (.str "many")) (xCons (xFn (fFld kn ki "what") (xVar 1)) (xCons (xFn (fFld kn ki "most") (xVar 1)) (xNil))))) (xNil))) (xLst (xNil))))) (sCons (sRet (xIfe (xCmp cEq (xFn fLen (xVar 2)) (xLit (.int 1))) (xIx (xVar 2) (xLit (.int 0))) (xTup (xCons (xLit (.str "odd")) (xNil))))) (sNil)))))))))))⟩
def b_is_integer (call : Ca) : Ex := sCons (sRet (xAnd (xFn (fIsi kn ki [.int]) (xVar 0)) (xNot (xFn (fIsi kn ki [.bool]) (xVar 0))))) (sNil)
def b_is_between (call : Ca) : Ex := sCons (sRet (xAnd (xCall call 0 (xCons (xVar 0) (xNil))) (xChain cLe cLe (xVar 1) (xVar 0) (xVar 2)))) (sNil)
def b_is_name (call : Ca) : Ex := sCons (sRet (xAnd (xFn (fIsi kn ki [.str]) (xVar 0)) (xAnd (xChain cLe cLe (xLit (.int 1)) (xFn fLen (xVar 0)) (xLit (.int 8))) (xFn fAll (xComp [1] (.nm 1) (xVar 0) qNil (xCmp cIn (xVar 1) (xLit (.str "abcdefghijklmnopqrstuvwxyz")))))))) (sNil)
def b_is_listed (call : Ca) : Ex := sCons (sRet (xFn (fIsi kn ki [.list, .tuple]) (xVar 0))) (sNil)
def b_is_row (call : Ca) : Ex := sCons (sRet (xAnd (xCall call 3 (xCons (xVar 0) (xNil))) (xChain cLe cLe (xVar 1) (xFn fLen (xVar 0)) (xVar 2)))) (sNil)
def b_fixed (call : Ca) : Ex := sCons (sIf (xFn (fIsi kn ki [.list, .tuple]) (xVar 0)) (sCons (sRet (xFn fTuple (xComp [1] (.nm 1) (xVar 0) qNil (xCall call 5 (xCons (xVar 1) (xNil)))))) (sNil)) (sNil)) (sCons (sRet (xVar 0)) (sNil))
def b_is_act (call : Ca) : Ex := sCons (sRet (xAnd (xCall call 4 (xCons (xVar 0) (xCons (xVar 1) (xCons (xVar 1) (xNil))))) (xFn fAll (xComp [2] (.nm 2) (xVar 0) qNil (xCall call 2 (xCons (xVar 2) (xNil))))))) (sNil)
def b_are_ways (call : Ca) : Ex := sCons (sIf (xOr (xNot (xCall call 4 (xCons (xVar 0) (xCons (xLit (.int 1)) (xCons (xLit (.int 9)) (xNil)))))) (xNot (xFn fAll (xComp [2] (.nm 2) (xVar 0) qNil (xCall call 4 (xCons (xVar 2) (xCons (xLit (.int 2)) (xCons (xLit (.int 2)) (xNil))))))))) (sCons (sRet (xLit (.bl false))) (sNil)) (sNil)) (sCons (sIf (xNot (xFn fAll (xComp [3, 4] (.tup [.nm 3, .nm 4]) (xVar 0) qNil (xAnd (xOr (xCmp cIs (xVar 3) (xLit .non)) (xCall call 2 (xCons (xVar 3) (xNil)))) (xCall call 1 (xCons (xVar 4) (xCons (xLit (.int 0)) (xCons (x2 bSub (xVar 1) (xLit (.int 1))) (xNil))))))))) (sCons (sRet (xLit (.bl false))) (sNil)) (sNil)) (sCons (sRet (xCmp cEq (xFn fLen (xDcomp [3, 4] (.tup [.nm 3, .nm 4]) (xVar 0) qNil (xVar 3) (xLit (.bl true)))) (xFn fLen (xVar 0)))) (sNil)))
def b_is_instruction (call : Ca) : Ex := sCons (sIf (xOr (xNot (xCall call 4 (xCons (xVar 0) (xCons (xLit (.int 3)) (xCons (xLit (.int 3)) (xNil)))))) (xNot (xFn (fIsi kn ki [.str]) (xIx (xVar 0) (xLit (.int 0)))))) (sCons (sRet (xLit (.bl false))) (sNil)) (sNil)) (sCons (sIf (xCmp cEq (xIx (xVar 0) (xLit (.int 0))) (xLit (.str "ask"))) (sCons (sRet (xAnd (xCall call 1 (xCons (xIx (xVar 0) (xLit (.int 1))) (xCons (xLit (.int 0)) (xCons (x2 bSub (xLit (.int 3)) (xLit (.int 1))) (xNil))))) (xCall call 7 (xCons (xIx (xVar 0) (xLit (.int 2))) (xCons (xVar 1) (xNil)))))) (sNil)) (sNil)) (sCons (sIf (xOr (xCmp cNe (xIx (xVar 0) (xLit (.int 0))) (xLit (.str "set"))) (xOr (xNot (xCall call 4 (xCons (xIx (xVar 0) (xLit (.int 1))) (xCons (xLit (.int 0)) (xCons (xLit (.int 4)) (xNil)))))) (xNot (xCall call 6 (xCons (xIx (xVar 0) (xLit (.int 1))) (xCons (xFn fLen (xIx (xVar 0) (xLit (.int 1)))) (xNil))))))) (sCons (sRet (xLit (.bl false))) (sNil)) (sNil)) (sCons (sRet (xOr (xCmp cIs (xIx (xVar 0) (xLit (.int 2))) (xLit .non)) (xCall call 1 (xCons (xIx (xVar 0) (xLit (.int 2))) (xCons (xLit (.int 0)) (xCons (x2 bSub (xVar 1) (xLit (.int 1))) (xNil))))))) (sNil))))
def b_Code___init__ (call : Ca) : Ex := sCons (sIf (xNot (xCall call 4 (xCons (xVar 1) (xCons (xLit (.int 1)) (xCons (xLit (.int 2000)) (xNil)))))) (sCons (sRaise "BadMachine" ["part"] (xCons (xLit (.str "instructions")) xNil)) (sNil)) (sNil)) (sCons (sIf (xNot (xFn fAll (xComp [3] (.nm 3) (xVar 1) qNil (xCall call 8 (xCons (xVar 3) (xCons (xFn fLen (xVar 1)) (xNil))))))) (sCons (sRaise "BadMachine" ["part"] (xCons (xLit (.str "instructions")) xNil)) (sNil)) (sNil)) (sCons (sIf (xNot (xCall call 1 (xCons (xVar 2) (xCons (xLit (.int 0)) (xCons (x2 bSub (xFn fLen (xVar 1)) (xLit (.int 1))) (xNil)))))) (sCons (sRaise "BadNumber" ["value"] (xCons (xVar 2) xNil)) (sNil)) (sNil)) (sCons (sFset ki "instructions" (xVar 0) (xCall call 5 (xCons (xVar 1) (xNil)))) (sCons (sFset ki "start" (xVar 0) (xVar 2)) (sNil)))))
def b_Code___eq__ (call : Ca) : Ex := sCons (sRet (xAnd (xFn (fIsc kn ki ["Code"]) (xVar 1)) (xAnd (xCmp cEq (xFn (fFld kn ki "instructions") (xVar 0)) (xFn (fFld kn ki "instructions") (xVar 1))) (xCmp cEq (xFn (fFld kn ki "start") (xVar 0)) (xFn (fFld kn ki "start") (xVar 1)))))) (sNil)
def b_Code___len__ (call : Ca) : Ex := sCons (sRet (xFn fLen (xFn (fFld kn ki "instructions") (xVar 0)))) (sNil)
def b__law_pen (call : Ca) : Ex := sCons (sRet (xMlst (xCons (xComp [1] (.nm 1) (xSl (xVar 0) xONone (xOSome (xLit (.int 63)))) qNil (xFn fInt (xVar 1))) (xCons (xLit (.int 0)) (xCons (xLit (.int 0)) (xNil)))))) (sNil)
def b__law_draw (call : Ca) : Ex := sCons (sIf (xCmp cGt (xIx (xVar 0) (xLit (.int 2))) (xLit (.int 0))) (sCons (sSet (.nm 2) (xFn fInt (xIx (xVar 0) (xLit (.int 2))))) (sCons (sPut (xVar 0) (xLit (.int 2)) (x2 bFdiv (xVar 2) (xVar 1))) (sCons (sRet (x2 bMod (xFn fInt (xVar 2)) (xVar 1))) (sNil)))) (sNil)) (sCons (sSet (.nm 3) (xIx (xVar 0) (xLit (.int 1)))) (sCons (sPut (xVar 0) (xLit (.int 1)) (x2 bAdd (xVar 3) (xLit (.int 1)))) (sCons (sSet (.nm 4) (x2 bAdd (x2 bMul (xLit (.int 60527)) (xVar 3)) (xLit (.int 2903)))) (sCons (sIf (xCmp cNe (xIx (xVar 0) (xLit (.int 0))) (xLst (xNil))) (sCons (sSet (.nm 4) (xIx (xIx (xVar 0) (xLit (.int 0))) (x2 bMod (xFn fInt (xVar 3)) (xFn fLen (xIx (xVar 0) (xLit (.int 0))))))) (sNil)) (sNil)) (sCons (sIf (xAnd (xCmp cLt (xVar 3) (xFn fLen (xIx (xVar 0) (xLit (.int 0))))) (xCmp cGe (xFn fAbs (xVar 4)) (x2 bPow (xLit (.int 10)) (xLit (.int 18))))) (sCons (sSet (.nm 2) (x2 bAdd (x2 bMul (xLit (.int 2)) (x2 bSub (xFn fAbs (xFn fInt (xVar 4))) (x2 bPow (xLit (.int 10)) (xLit (.int 18))))) (xFn fInt (xCmp cLt (xVar 4) (xLit (.int 0)))))) (sCons (sPut (xVar 0) (xLit (.int 2)) (x2 bFdiv (xVar 2) (xVar 1))) (sCons (sRet (x2 bMod (xFn fInt (xVar 2)) (xVar 1))) (sNil)))) (sNil)) (sCons (sSet (.nm 5) (x2 bMod (xFn fInt (x2 bPow (x2 bAdd (x2 bAdd (x2 bMod (xFn fInt (xVar 4)) (xLit (.int 2147483543))) (x2 bMul (xLit (.int 60527)) (xVar 3))) (xLit (.int 2903))) (xLit (.int 5)))) (xLit (.int 2147483629)))) (sCons (sSet (.nm 5) (x2 bMod (xFn fInt (x2 bPow (x2 bAdd (x2 bAdd (x2 bMul (xVar 5) (x2 bAdd (x2 bMul (xLit (.int 2)) (xVar 3)) (xLit (.int 1013)))) (x2 bMul (x2 bMul (xLit (.int 60527)) (xVar 3)) (xVar 3))) (xLit (.int 44027))) (xLit (.int 3)))) (xLit (.int 2147483587)))) (sCons (sRet (x2 bMod (xFn fInt (x2 bFdiv (xVar 5) (xLit (.int 64)))) (xVar 1))) (sNil)))))))))
def b__law_pick (call : Ca) : Ex := sCons (sRet (xIx (xVar 1) (xCall call 13 (xCons (xVar 0) (xCons (xFn fLen (xVar 1)) (xNil)))))) (sNil)
def b__law_mixed (call : Ca) : Ex := sCons (sPar 2 3 (xMcopy (xVar 1)) (xMlst (xNil))) (sCons (sRange (.nm 4) (xFn fLen (xVar 1)) (sCons (sExp (xApp (xVar 3) (xPopAt (xVar 2) (xCall call 13 (xCons (xVar 0) (xCons (xFn fLen (xVar 2)) (xNil))))))) (sNil))) (sCons (sFrz 3) (sCons (sDrop 2) (sCons (sRet (xVar 3)) (sNil)))))
def b__law_listed (call : Ca) : Ex := sCons (sRet (xIfe (xFn (fIsi kn ki [.list, .tuple]) (xVar 0)) (xComp [1] (.nm 1) (xVar 0) qNil (xCall call 16 (xCons (xVar 1) (xNil)))) (xVar 0))) (sNil)
def b__law_any_code (call : Ca) : Ex := sCons (sSet (.tup [.nm 1, .nm 2]) (xTup (xCons (x2 bAdd (xLit (.int 1)) (xCall call 13 (xCons (xVar 0) (xCons (xLit (.int 7)) (xNil))))) (xCons (xMlst (xNil)) (xNil))))) (sCons (sSet (.nm 3) (xCmp cEq (xCall call 13 (xCons (xVar 0) (xCons (xLit (.int 3)) (xNil)))) (xLit (.int 0)))) (sCons (sRange (.nm 4) (xVar 1) (sCons (sIf (xOr (xCmp cEq (xCall call 13 (xCons (xVar 0) (xCons (xLit (.int 2)) (xNil)))) (xLit (.int 0))) (xCmp cEq (xVar 4) (x2 bSub (xVar 1) (xLit (.int 1))))) (sCons (sExp (xApp (xVar 2) (xTup (xCons (xLit (.str "set")) (xCons (xCall call 14 (xCons (xVar 0) (xCons (xLst (xCons (xTup (xCons (xLit (.str "on")) (xNil))) (xCons (xTup (xCons (xLit (.str "off")) (xNil))) (xNil)))) (xNil)))) (xCons (xIfe (xCmp cEq (xCall call 13 (xCons (xVar 0) (xCons (xLit (.int 6)) (xNil)))) (xLit (.int 0))) (xLit .non) (xCall call 13 (xCons (xVar 0) (xCons (xVar 1) (xNil))))) (xNil))))))) (sNil)) (sCons (sSet (.nm 5) (xSl (xCall call 15 (xCons (xVar 0) (xCons (xLst (xCons (xLit (.str "no")) (xCons (xLit (.str "yes")) (xCons (xLit .non) (xCons (xLit (.str "up")) (xNil)))))) (xNil)))) xONone (xOSome (x2 bAdd (xLit (.int 1)) (xCall call 13 (xCons (xVar 0) (xCons (xLit (.int 3)) (xNil)))))))) (sCons (sSet (.nm 6) (xComp [7] (.nm 7) (xVar 5) qNil (xIfe (xVar 3) (xCall call 13 (xCons (xVar 0) (xCons (xVar 1) (xNil)))) (x2 bAdd (x2 bAdd (xVar 4) (xLit (.int 1))) (xCall call 13 (xCons (xVar 0) (xCons (x2 bSub (x2 bSub (xVar 1) (xVar 4)) (xLit (.int 1))) (xNil)))))))) (sCons (sExp (xApp (xVar 2) (xTup (xCons (xLit (.str "ask")) (xCons (xCall call 13 (xCons (xVar 0) (xCons (xLit (.int 3)) (xNil)))) (xCons (xFn fTuple (xZcomp [7, 8] (.tup [.nm 7, .nm 8]) (xVar 5) (xVar 6) qNil (xTup (xCons (xVar 7) (xCons (xVar 8) (xNil)))))) (xNil))))))) (sNil))))) (sNil))) (sCons (sFrz 2) (sCons (sRet (xTup (xCons (xFn fTuple (xVar 2)) (xCons (xCall call 13 (xCons (xVar 0) (xCons (xVar 1) (xNil)))) (xNil))))) (sNil)))))
def b__law_wrong (call : Ca) : Ex := sCons (sSet (.nm 2) (xCall call 13 (xCons (xVar 0) (xCons (xLit (.int 3)) (xNil))))) (sCons (sIf (xCmp cEq (xVar 2) (xLit (.int 0))) (sCons (sRet (xCall call 14 (xCons (xVar 0) (xCons (xLst (xCons (xLit .non) (xCons (xLit (.int 5)) (xCons (xTup (xNil)) (xCons (xLit (.str "set")) (xCons (xTup (xCons (xLit (.str "set")) (xNil))) (xCons (xTup (xCons (xLit (.str "set")) (xCons (xTup (xNil)) (xNil)))) (xCons (xTup (xCons (xLit (.str "set")) (xCons (xTup (xNil)) (xCons (xLit (.int 0)) (xCons (xLit (.int 0)) (xNil)))))) (xCons (xTup (xCons (xLit (.str "else")) (xCons (xTup (xNil)) (xCons (xLit (.int 0)) (xNil))))) (xCons (xTup (xCons (xLit (.int 5)) (xCons (xTup (xNil)) (xCons (xLit (.int 0)) (xNil))))) (xCons (xTup (xCons (xLit (.str "Set")) (xCons (xTup (xNil)) (xCons (xLit (.int 0)) (xNil))))) (xNil)))))))))))) (xNil))))) (sNil)) (sNil)) (sCons (sIf (xCmp cEq (xVar 2) (xLit (.int 1))) (sCons (sSet (.nm 3) (xCall call 14 (xCons (xVar 0) (xCons (xLst (xCons (xLit .non) (xCons (xLit (.int 5)) (xCons (xLit (.str "on")) (xCons (xTup (xCons (xLit (.str "On")) (xNil))) (xCons (xTup (xCons (xLit (.int 5)) (xNil))) (xCons (x2 bMul (xTup (xCons (xLit (.str "a")) (xNil))) (xLit (.int 5))) (xCons (xTup (xCons (xLit (.str "")) (xNil))) (xNil))))))))) (xNil))))) (sCons (sRet (xCall call 14 (xCons (xVar 0) (xCons (xLst (xCons (xTup (xCons (xLit (.str "set")) (xCons (xVar 3) (xCons (xLit (.int 0)) (xNil))))) (xCons (xTup (xCons (xLit (.str "set")) (xCons (xTup (xNil)) (xCons (xVar 1) (xNil))))) (xCons (xTup (xCons (xLit (.str "set")) (xCons (xTup (xNil)) (xCons (xNeg (xLit (.int 1))) (xNil))))) (xCons (xTup (xCons (xLit (.str "set")) (xCons (xTup (xNil)) (xCons (xLit (.bl true)) (xNil))))) (xCons (xTup (xCons (xLit (.str "set")) (xCons (xTup (xNil)) (xCons (xLit (.str "0")) (xNil))))) (xNil))))))) (xNil))))) (sNil))) (sNil)) (sCons (sSet (.nm 4) (xMlst (xCons (xLit .non) (xCons (xLit (.int 5)) (xCons (xTup (xNil)) (xCons (xLit (.dct [] [])) (xCons (xTup (xCons (xTup (xCons (xLit (.str "no")) (xCons (xVar 1) (xNil)))) (xNil))) (xCons (xTup (xCons (xTup (xCons (xLit (.str "no")) (xCons (xNeg (xLit (.int 1))) (xNil)))) (xNil))) (xCons (xTup (xCons (xTup (xCons (xLit (.str "no")) (xCons (xLit .non) (xNil)))) (xNil))) (xCons (xTup (xCons (xTup (xCons (xLit (.str "No")) (xCons (xLit (.int 0)) (xNil)))) (xNil))) (xCons (xTup (xCons (xTup (xCons (xLit (.int 5)) (xCons (xLit (.int 0)) (xNil)))) (xNil))) (xCons (xTup (xCons (xTup (xCons (xLit (.str "no")) (xCons (xLit (.int 0)) (xNil)))) (xCons (xTup (xCons (xLit (.str "no")) (xCons (xLit (.int 0)) (xNil)))) (xNil)))) (xCons (xTup (xCons (xTup (xCons (xLit (.str "no")) (xNil))) (xNil))) (xCons (xTup (xCons (xLit (.str "no")) (xCons (xLit (.int 0)) (xNil)))) (xCons (xTup (xCons (xTup (xCons (xLit .non) (xCons (xLit (.int 0)) (xNil)))) (xCons (xTup (xCons (xLit .non) (xCons (xLit (.int 0)) (xNil)))) (xNil)))) (xNil)))))))))))))))) (sCons (sExp (xApp (xVar 4) (xFn fTuple (xComp [5] (.nm 5) (xLit (.str "abcdefghij")) qNil (xTup (xCons (x2 bAdd (xLit (.str "m")) (xVar 5)) (xCons (xLit (.int 0)) (xNil)))))))) (sCons (sFrz 4) (sCons (sRet (xCall call 14 (xCons (xVar 0) (xCons (xLst (xCons (xTup (xCons (xLit (.str "ask")) (xCons (xLit (.int 0)) (xCons (xCall call 14 (xCons (xVar 0) (xCons (xVar 4) (xNil)))) (xNil))))) (xCons (xTup (xCons (xLit (.str "ask")) (xCons (xLit (.int 3)) (xCons (xTup (xCons (xTup (xCons (xLit (.str "no")) (xCons (xLit (.int 0)) (xNil)))) (xNil))) (xNil))))) (xCons (xTup (xCons (xLit (.str "ask")) (xCons (xNeg (xLit (.int 1))) (xCons (xTup (xCons (xTup (xCons (xLit (.str "no")) (xCons (xLit (.int 0)) (xNil)))) (xNil))) (xNil))))) (xCons (xTup (xCons (xLit (.str "ask")) (xCons (xLit (.bl true)) (xCons (xTup (xCons (xTup (xCons (xLit (.str "no")) (xCons (xLit (.int 0)) (xNil)))) (xNil))) (xNil))))) (xCons (xTup (xCons (xLit (.str "ask")) (xCons (xLit .non) (xCons (xTup (xCons (xTup (xCons (xLit (.str "no")) (xCons (xLit (.int 0)) (xNil)))) (xNil))) (xNil))))) (xNil))))))) (xNil))))) (sNil)))))))
def b_law (call : Ca) : Ex := sCons (sSet (.nm 1) (xCall call 12 (xCons (xVar 0) (xNil)))) (sCons (sRange (.nm 2) (xLit (.int 8)) (sCons (sSet (.tup [.nm 3, .nm 4]) (xCall call 17 (xCons (xVar 1) (xNil)))) (sCons (sSet (.nm 5) (xMk call "Code" 9 [0, 2, 1] (xCons (xVar 4) (xCons (xCall call 16 (xCons (xVar 3) (xNil))) (xNil))))) (sCons (sIf (xOr (xCmp cNe (xFn fRepr (xTup (xCons (xFn (fFld kn ki "instructions") (xVar 5)) (xCons (xFn (fFld kn ki "start") (xVar 5)) (xCons (x1R (oLen call tLen) (xVar 5)) (xNil)))))) (xFn fRepr (xTup (xCons (xVar 3) (xCons (xVar 4) (xCons (xFn fLen (xVar 3)) (xNil))))))) (xOr (x2R (oEq call true tEq kn ki) (xVar 5) (xMk call "Code" 9 [0, 1, 2] (xCons (xVar 3) (xCons (xVar 4) (xNil))))) (x2R (oEq call false tEq kn ki) (xVar 5) (xVar 3)))) (sCons (sRet (xLit (.bl false))) (sNil)) (sNil)) (sCons (sIf (xOr (xAnd (xCmp cGt (xFn fLen (xVar 3)) (xLit (.int 1))) (x2R (oEq call false tEq kn ki) (xVar 5) (xMk call "Code" 9 [0, 1, 2] (xCons (xVar 3) (xCons (x2 bMod (xFn fInt (x2 bAdd (xVar 4) (xLit (.int 1)))) (xFn fLen (xVar 3))) (xNil)))))) (x2R (oEq call false tEq kn ki) (xVar 5) (xMk call "Code" 9 [0, 1, 2] (xCons (x2 bAdd (xVar 3) (xTup (xCons (xTup (xCons (xLit (.str "set")) (xCons (xTup (xNil)) (xCons (xLit .non) (xNil))))) (xNil)))) (xCons (xVar 4) (xNil)))))) (sCons (sRet (xLit (.bl false))) (sNil)) (sNil)) (sCons (sPar 6 7 (xCall call 13 (xCons (xVar 1) (xCons (xFn fLen (xVar 3)) (xNil)))) (xFn fLen (xVar 3))) (sCons (sSet (.nm 8) (xMcopy (xVar 3))) (sCons (sPut (xVar 8) (xVar 6) (xCall call 18 (xCons (xVar 1) (xCons (xVar 7) (xNil))))) (sCons (sFrz 8) (sCons (sSet (.nm 9) (xCall call 14 (xCons (xVar 1) (xCons (xLst (xCons (xLit .non) (xCons (xLit (.int 5)) (xCons (xTup (xNil)) (xCons (xLst (xNil)) (xCons (xLit (.dct [] [])) (xCons (xLit (.str "code")) (xCons (xVar 8) (xCons (xVar 8) (xCons (xVar 8) (xCons (x2 bMul (xLst (xCons (xTup (xCons (xLit (.str "set")) (xCons (xLst (xNil)) (xCons (xLit .non) (xNil))))) (xNil))) (xLit (.int 2001))) (xNil)))))))))))) (xNil))))) (sCons (sSet (.nm 10) (xCall call 14 (xCons (xVar 1) (xCons (xLst (xCons (xLit .non) (xCons (xNeg (xLit (.int 1))) (xCons (xVar 7) (xCons (xLit (.bl true)) (xCons (xLit (.str "0")) (xCons (xTup (xCons (xLit (.int 0)) (xNil))) (xCons (x2 bPow (xLit (.int 10)) (xLit (.int 20))) (xNil))))))))) (xNil))))) (sCons (sIf (xCmp cNe (xLst (xCons (xHeard lamT hdv (xMk call "Code" 9 [0, 1, 2] (xCons (xVar 9) (xCons (xVar 10) (xNil))))) (xCons (xHeard lamT hdv (xMk call "Code" 9 [0, 1, 2] (xCons (xVar 3) (xCons (xVar 10) (xNil))))) (xNil)))) (xLst (xCons (xTup (xCons (xLit (.str "machine")) (xCons (xLit (.str "instructions")) (xNil)))) (xCons (xTup (xCons (xLit (.str "number")) (xCons (xFn fRepr (xVar 10)) (xNil)))) (xNil))))) (sCons (sRet (xLit (.bl false))) (sNil)) (sNil)) (sNil))))))))))))) (sCons (sSet (.nm 11) (xMk call "Code" 9 [0, 1, 2] (xCons (xLst (xCons (xTup (xCons (xLit (.str "ask")) (xCons (xLit (.int 2)) (xCons (x2 bAdd (xComp [12] (.nm 12) (xLit (.str "abcdefgh")) qNil (xTup (xCons (x2 bAdd (xLit (.str "m")) (xVar 12)) (xCons (xLit (.int 1)) (xNil))))) (xLst (xCons (xTup (xCons (xLit .non) (xCons (xLit (.int 0)) (xNil)))) (xNil)))) (xNil))))) (xCons (xTup (xCons (xLit (.str "set")) (xCons (xLst (xCons (xLit (.str "a")) (xCons (xLit (.str "b")) (xCons (xLit (.str "c")) (xCons (xLit (.str "d")) (xNil)))))) (xCons (xLit .non) (xNil))))) (xNil)))) (xCons (xLit (.int 0)) (xNil))))) (sCons (sSet (.nm 13) (xMk call "Code" 9 [0, 1, 2] (xCons (xRcomp [6] (.nm 6) (xLit (.int 2000)) qNil (xTup (xCons (xLit (.str "set")) (xCons (xLst (xNil)) (xCons (x2 bMod (xFn fInt (x2 bAdd (xVar 6) (xLit (.int 1)))) (xLit (.int 2000))) (xNil)))))) (xCons (xLit (.int 1999)) (xNil))))) (sCons (sRet (xAnd (xCmp cEq (x1R (oLen call tLen) (xVar 13)) (xLit (.int 2000))) (xCmp cEq (xFn fLen (xIx (xIx (xFn (fFld kn ki "instructions") (xVar 11)) (xLit (.int 0))) (xLit (.int 2)))) (xLit (.int 9))))) (sNil)))))
def T : List Df := [⟨1, 1, b_is_integer⟩, ⟨3, 3, b_is_between⟩, ⟨1, 2, b_is_name⟩, ⟨1, 1, b_is_listed⟩, ⟨3, 3, b_is_row⟩, ⟨1, 2, b_fixed⟩, ⟨2, 3, b_is_act⟩, ⟨2, 5, b_are_ways⟩, ⟨2, 2, b_is_instruction⟩, ⟨3, 4, b_Code___init__⟩, ⟨2, 2, b_Code___eq__⟩, ⟨1, 1, b_Code___len__⟩, ⟨1, 2, b__law_pen⟩, ⟨2, 6, b__law_draw⟩, ⟨2, 2, b__law_pick⟩, ⟨2, 5, b__law_mixed⟩, ⟨1, 2, b__law_listed⟩, ⟨1, 9, b__law_any_code⟩, ⟨2, 6, b__law_wrong⟩, ⟨1, 14, b_law⟩]
theorem bs_is_integer_1 : BS dd_is_integer ["value"] 1 [] (List.range' 0 1) := fun _ _ _ _ _ _ us ws h1 h2 => match us, h1, ws, h2 with | [_], _, [], _ => rfl
theorem bs_is_listed_1 : BS dd_is_listed ["value"] 1 [] (List.range' 0 1) := fun _ _ _ _ _ _ us ws h1 h2 => match us, h1, ws, h2 with | [_], _, [], _ => rfl
theorem bs_fixed_1 : BS dd_fixed ["value"] 1 [] (List.range' 0 1) := fun _ _ _ _ _ _ us ws h1 h2 => match us, h1, ws, h2 with | [_], _, [], _ => rfl
theorem bs_is_row_3 : BS dd_is_row ["value", "least", "most"] 3 [] (List.range' 0 3) := fun _ _ _ _ _ _ us ws h1 h2 => match us, h1, ws, h2 with | [_, _, _], _, [], _ => rfl
theorem bs_is_name_1 : BS dd_is_name ["value"] 1 [] (List.range' 0 1) := fun _ _ _ _ _ _ us ws h1 h2 => match us, h1, ws, h2 with | [_], _, [], _ => rfl
theorem bs_is_between_3 : BS dd_is_between ["value", "least", "most"] 3 [] (List.range' 0 3) := fun _ _ _ _ _ _ us ws h1 h2 => match us, h1, ws, h2 with | [_, _, _], _, [], _ => rfl
theorem bs_is_act_2 : BS dd_is_act ["value", "many"] 2 [] (List.range' 0 2) := fun _ _ _ _ _ _ us ws h1 h2 => match us, h1, ws, h2 with | [_, _], _, [], _ => rfl
theorem bs_are_ways_2 : BS dd_are_ways ["value", "most"] 2 [] (List.range' 0 2) := fun _ _ _ _ _ _ us ws h1 h2 => match us, h1, ws, h2 with | [_, _], _, [], _ => rfl
theorem bs_is_instruction_2 : BS dd_is_instruction ["value", "most"] 2 [] (List.range' 0 2) := fun _ _ _ _ _ _ us ws h1 h2 => match us, h1, ws, h2 with | [_, _], _, [], _ => rfl
theorem bs__law_draw_2 : BS dd__law_draw ["pen", "many"] 2 [] (List.range' 0 2) := fun _ _ _ _ _ _ us ws h1 h2 => match us, h1, ws, h2 with | [_, _], _, [], _ => rfl
theorem bs__law_listed_1 : BS dd__law_listed ["value"] 1 [] (List.range' 0 1) := fun _ _ _ _ _ _ us ws h1 h2 => match us, h1, ws, h2 with | [_], _, [], _ => rfl
theorem bs__law_pick_2 : BS dd__law_pick ["pen", "some"] 2 [] (List.range' 0 2) := fun _ _ _ _ _ _ us ws h1 h2 => match us, h1, ws, h2 with | [_, _], _, [], _ => rfl
theorem bs__law_mixed_2 : BS dd__law_mixed ["pen", "some"] 2 [] (List.range' 0 2) := fun _ _ _ _ _ _ us ws h1 h2 => match us, h1, ws, h2 with | [_, _], _, [], _ => rfl
theorem bs_Code___init___3 : BS dd_Code___init__ ["self", "instructions", "start"] 3 [] [0, 1, 2] := fun _ _ _ _ _ _ us ws h1 h2 => match us, h1, ws, h2 with | [_, _, _], _, [], _ => rfl
theorem bs__law_wrong_2 : BS dd__law_wrong ["pen", "many"] 2 [] (List.range' 0 2) := fun _ _ _ _ _ _ us ws h1 h2 => match us, h1, ws, h2 with | [_, _], _, [], _ => rfl
theorem bs_Code___init___1_start_instructions : BS dd_Code___init__ ["self", "instructions", "start"] 1 ["start", "instructions"] [0, 2, 1] := fun _ _ _ _ _ _ us ws h1 h2 => match us, h1, ws, h2 with | [_], _, [_, _], _ => rfl
theorem bs__law_any_code_1 : BS dd__law_any_code ["pen"] 1 [] (List.range' 0 1) := fun _ _ _ _ _ _ us ws h1 h2 => match us, h1, ws, h2 with | [_], _, [], _ => rfl
theorem bs__law_pen_1 : BS dd__law_pen ["script"] 1 [] (List.range' 0 1) := fun _ _ _ _ _ _ us ws h1 h2 => match us, h1, ws, h2 with | [_], _, [], _ => rfl
theorem bs_Code___eq___2 : BS dd_Code___eq__ ["self", "other"] 2 [] [0, 1] := fun _ _ _ _ _ _ us ws h1 h2 => match us, h1, ws, h2 with | [_, _], _, [], _ => rfl
theorem bs_Code___len___1 : BS dd_Code___len__ ["self"] 1 [] [0] := fun _ _ _ _ _ _ us ws h1 h2 => match us, h1, ws, h2 with | [_], _, [], _ => rfl
structure Gf (P : Program) (w : World) (K : PySem.W.Frag) (mg : Str → Option Value) : Prop where
  n_abs : mg "abs" = none
  n_all : mg "all" = none
  n_bool : mg "bool" = none
  n_int : mg "int" = none
  n_isinstance : mg "isinstance" = none
  n_len : mg "len" = none
  n_list : mg "list" = none
  n_range : mg "range" = none
  n_repr : mg "repr" = none
  n_str : mg "str" = none
  n_super : mg "super" = none
  n_tuple : mg "tuple" = none
  n_zip : mg "zip" = none
  c_ASK : ∃ t, mg "ASK" = some (.str "ask" t)
  c_LETTERS : ∃ t, mg "LETTERS" = some (.str "abcdefghijklmnopqrstuvwxyz" t)
  c_MOST_INSTRUCTIONS : ∃ t, mg "MOST_INSTRUCTIONS" = some (.int 2000 t)
  c_MOST_MARKS : ∃ t, mg "MOST_MARKS" = some (.int 9 t)
  c_MOST_PARTS : ∃ t, mg "MOST_PARTS" = some (.int 3 t)
  c_MOST_SIGNALS : ∃ t, mg "MOST_SIGNALS" = some (.int 4 t)
  c_MOST_SIGNS : ∃ t, mg "MOST_SIGNS" = some (.int 8 t)
  c_SET : ∃ t, mg "SET" = some (.str "set" t)
  g_is_integer : mg "is_integer" = some (.ref (He.ga K "is_integer"))
  g_is_between : mg "is_between" = some (.ref (He.ga K "is_between"))
  g_is_name : mg "is_name" = some (.ref (He.ga K "is_name"))
  g_is_listed : mg "is_listed" = some (.ref (He.ga K "is_listed"))
  g_is_row : mg "is_row" = some (.ref (He.ga K "is_row"))
  g_fixed : mg "fixed" = some (.ref (He.ga K "fixed"))
  g_is_act : mg "is_act" = some (.ref (He.ga K "is_act"))
  g_are_ways : mg "are_ways" = some (.ref (He.ga K "are_ways"))
  g_is_instruction : mg "is_instruction" = some (.ref (He.ga K "is_instruction"))
  g__law_pen : mg "_law_pen" = some (.ref (He.ga K "_law_pen"))
  g__law_draw : mg "_law_draw" = some (.ref (He.ga K "_law_draw"))
  g__law_pick : mg "_law_pick" = some (.ref (He.ga K "_law_pick"))
  g__law_mixed : mg "_law_mixed" = some (.ref (He.ga K "_law_mixed"))
  g__law_listed : mg "_law_listed" = some (.ref (He.ga K "_law_listed"))
  g__law_any_code : mg "_law_any_code" = some (.ref (He.ga K "_law_any_code"))
  g__law_wrong : mg "_law_wrong" = some (.ref (He.ga K "_law_wrong"))
  g_law : mg "law" = some (.ref (He.ga K "law"))
  g__law_heard : mg "_law_heard" = some (.ref (He.ga K "_law_heard"))
  g_HearError : mg "HearError" = some (.ref (He.ga K "HearError"))
  g_BadWorld : mg "BadWorld" = some (.ref (He.ga K "BadWorld"))
  g_BadScene : mg "BadScene" = some (.ref (He.ga K "BadScene"))
  g_BadDelays : mg "BadDelays" = some (.ref (He.ga K "BadDelays"))
  g_BadLine : mg "BadLine" = some (.ref (He.ga K "BadLine"))
  g_BadHouse : mg "BadHouse" = some (.ref (He.ga K "BadHouse"))
  g_BadMachine : mg "BadMachine" = some (.ref (He.ga K "BadMachine"))
  g_BadPaper : mg "BadPaper" = some (.ref (He.ga K "BadPaper"))
  g_BadTree : mg "BadTree" = some (.ref (He.ga K "BadTree"))
  g_BadPage : mg "BadPage" = some (.ref (He.ga K "BadPage"))
  g_BadNumber : mg "BadNumber" = some (.ref (He.ga K "BadNumber"))
  g_NoName : mg "NoName" = some (.ref (He.ga K "NoName"))
  g_Nothing : mg "Nothing" = some (.ref (He.ga K "Nothing"))
  g_BadWord : mg "BadWord" = some (.ref (He.ga K "BadWord"))
  g_BadText : mg "BadText" = some (.ref (He.ga K "BadText"))
  g_TooMany : mg "TooMany" = some (.ref (He.ga K "TooMany"))
  g_Code : mg "Code" = some (.ref (He.ga K "Code"))
  p_is_integer : ∃ fd, FunP K dd_is_integer fd
  p_is_between : ∃ fd, FunP K dd_is_between fd
  p_is_name : ∃ fd, FunP K dd_is_name fd
  p_is_listed : ∃ fd, FunP K dd_is_listed fd
  p_is_row : ∃ fd, FunP K dd_is_row fd
  p_fixed : ∃ fd, FunP K dd_fixed fd
  p_is_act : ∃ fd, FunP K dd_is_act fd
  p_are_ways : ∃ fd, FunP K dd_are_ways fd
  p_is_instruction : ∃ fd, FunP K dd_is_instruction fd
  p_Code___init__ : ∃ fd, FunP K dd_Code___init__ fd
  p_Code___eq__ : ∃ fd, FunP K dd_Code___eq__ fd
  p_Code___len__ : ∃ fd, FunP K dd_Code___len__ fd
  p__law_pen : ∃ fd, FunP K dd__law_pen fd
  p__law_draw : ∃ fd, FunP K dd__law_draw fd
  p__law_pick : ∃ fd, FunP K dd__law_pick fd
  p__law_mixed : ∃ fd, FunP K dd__law_mixed fd
  p__law_listed : ∃ fd, FunP K dd__law_listed fd
  p__law_any_code : ∃ fd, FunP K dd__law_any_code fd
  p__law_wrong : ∃ fd, FunP K dd__law_wrong fd
  p_law : ∃ fd, FunP K dd_law fd
  p__law_heard : ∃ fd, FunP K dd__law_heard fd
  bi : ∀ cs : List Cl, IsiF K kn ki cs
  i_BadDelays : IscF K "BadDelays" kn ki ["BadDelays"]
  i_BadHouse : IscF K "BadHouse" kn ki ["BadHouse"]
  i_BadLine : IscF K "BadLine" kn ki ["BadLine"]
  i_BadMachine : IscF K "BadMachine" kn ki ["BadMachine"]
  i_BadNumber : IscF K "BadNumber" kn ki ["BadNumber"]
  i_BadPage : IscF K "BadPage" kn ki ["BadPage"]
  i_BadPaper : IscF K "BadPaper" kn ki ["BadPaper"]
  i_BadScene : IscF K "BadScene" kn ki ["BadScene"]
  i_BadText : IscF K "BadText" kn ki ["BadText"]
  i_BadTree : IscF K "BadTree" kn ki ["BadTree"]
  i_BadWord : IscF K "BadWord" kn ki ["BadWord"]
  i_BadWorld : IscF K "BadWorld" kn ki ["BadWorld"]
  i_Code : IscF K "Code" kn ki ["Code"]
  i_NoName : IscF K "NoName" kn ki ["NoName"]
  i_Nothing : IscF K "Nothing" kn ki ["Nothing"]
  i_TooMany : IscF K "TooMany" kn ki ["TooMany"]
  f_instructions : FldF K "instructions" kn ki
  f_line : FldF K "line" kn ki
  f_most : FldF K "most" kn ki
  f_name : FldF K "name" kn ki
  f_part : FldF K "part" kn ki
  f_start : FldF K "start" kn ki
  f_value : FldF K "value" kn ki
  f_what : FldF K "what" kn ki
  f_word : FldF K "word" kn ki
  m_Code : Mk K (He.ga K "Code") (He.ma K (He.ga K "Code") "__init__")
  me_Code : Meth K (He.ga K "Code") "__eq__" (He.ma K (He.ga K "Code") "__eq__")
  ee_Code : eqB K "Code" (kn ++ ki) = true
  ml_Code : Meth K (He.ga K "Code") "__len__" (He.ma K (He.ga K "Code") "__len__")
  s_BadMachine : ∀ (base : Heap) (k : Nat), ∃ fI fd, SupCls P w K mg base (k + 1) "BadMachine" "part" fI fd
  s_BadNumber : ∀ (base : Heap) (k : Nat), ∃ fI fd, SupCls P w K mg base (k + 1) "BadNumber" "value" fI fd
  hx : ∀ c ∈ kn, PySem.W.exmOne K (.ref (He.ga K c)) (.ref (He.ga K "HearError")) = some true
structure All (P : Program) (w : World) (K : PySem.W.Frag) (mg : Str → Option Value) (base : Heap) (n : Nat) : Prop where
  d_is_integer : DefOk P w K mg base T n dd_is_integer ["value"] 0
  d_is_between : DefOk P w K mg base T n dd_is_between ["value", "least", "most"] 1
  d_is_name : DefOk P w K mg base T n dd_is_name ["value"] 2
  d_is_listed : DefOk P w K mg base T n dd_is_listed ["value"] 3
  d_is_row : DefOk P w K mg base T n dd_is_row ["value", "least", "most"] 4
  d_fixed : DefOk P w K mg base T n dd_fixed ["value"] 5
  d_is_act : DefOk P w K mg base T n dd_is_act ["value", "many"] 6
  d_are_ways : DefOk P w K mg base T n dd_are_ways ["value", "most"] 7
  d_is_instruction : DefOk P w K mg base T n dd_is_instruction ["value", "most"] 8
  d_Code___init__ : DefOk P w K mg base T n dd_Code___init__ ["self", "instructions", "start"] 9
  d_Code___eq__ : DefOk P w K mg base T n dd_Code___eq__ ["self", "other"] 10
  d_Code___len__ : DefOk P w K mg base T n dd_Code___len__ ["self"] 11
  d__law_pen : DefOk P w K mg base T n dd__law_pen ["script"] 12
  d__law_draw : DefOk P w K mg base T n dd__law_draw ["pen", "many"] 13
  d__law_pick : DefOk P w K mg base T n dd__law_pick ["pen", "some"] 14
  d__law_mixed : DefOk P w K mg base T n dd__law_mixed ["pen", "some"] 15
  d__law_listed : DefOk P w K mg base T n dd__law_listed ["value"] 16
  d__law_any_code : DefOk P w K mg base T n dd__law_any_code ["pen"] 17
  d__law_wrong : DefOk P w K mg base T n dd__law_wrong ["pen", "many"] 18
  d_law : DefOk P w K mg base T n dd_law ["script"] 19
section
variable {P : Program} {w : World} {K : PySem.W.Frag} {mg : Str → Option Value} {base : Heap} {n : Nat}
theorem own_eq (gf : Gf P w K mg) (all : All P w K mg base n) : EqF P w K mg base (evCall T n) (4 * n) tEq kn ki := eqB_ok (gf.bi []).nk (ownF_cons all.d_Code___eq__ rfl bs_Code___eq___2 gf.me_Code ownF_nil) fun c p h => by
  unfold tEq lkM at h
  repeat (first | (split at h; (first | (rename_i e; subst e; first | exact gf.ee_Code))) | (unfold lkM at h))
  all_goals cases h
theorem own_len (gf : Gf P w K mg) (all : All P w K mg base n) : OwnF P w K mg base (evCall T n) (4 * n) "__len__" 1 tLen := (ownF_cons all.d_Code___len__ rfl bs_Code___len___1 gf.ml_Code ownF_nil)
theorem sc_is_integer : FnScope ["value"] ["value"] (defScope s_is_integer) := ⟨rfl, rfl, rfl, by decide +kernel, rfl, by decide +kernel, by decide +kernel⟩
theorem sc_is_between : FnScope ["value", "least", "most"] ["value", "least", "most"] (defScope s_is_between) := ⟨rfl, rfl, rfl, by decide +kernel, rfl, by decide +kernel, by decide +kernel⟩
theorem sc_is_name : FnScope ["value", "sign"] ["value"] (defScope s_is_name) := ⟨rfl, rfl, rfl, by decide +kernel, rfl, by decide +kernel, by decide +kernel⟩
theorem sc_is_listed : FnScope ["value"] ["value"] (defScope s_is_listed) := ⟨rfl, rfl, rfl, by decide +kernel, rfl, by decide +kernel, by decide +kernel⟩
theorem sc_is_row : FnScope ["value", "least", "most"] ["value", "least", "most"] (defScope s_is_row) := ⟨rfl, rfl, rfl, by decide +kernel, rfl, by decide +kernel, by decide +kernel⟩
theorem sc_fixed : FnScope ["value", "one"] ["value"] (defScope s_fixed) := ⟨rfl, rfl, rfl, by decide +kernel, rfl, by decide +kernel, by decide +kernel⟩
theorem sc_is_act : FnScope ["value", "many", "one"] ["value", "many"] (defScope s_is_act) := ⟨rfl, rfl, rfl, by decide +kernel, rfl, by decide +kernel, by decide +kernel⟩
theorem sc_are_ways : FnScope ["value", "most", "one", "mark", "place"] ["value", "most"] (defScope s_are_ways) := ⟨rfl, rfl, rfl, by decide +kernel, rfl, by decide +kernel, by decide +kernel⟩
theorem sc_is_instruction : FnScope ["value", "most"] ["value", "most"] (defScope s_is_instruction) := ⟨rfl, rfl, rfl, by decide +kernel, rfl, by decide +kernel, by decide +kernel⟩
theorem sc_Code___init__ : FnScope ["self", "instructions", "start", "one"] ["self", "instructions", "start"] (defScope s_Code___init__) := ⟨rfl, rfl, rfl, by decide +kernel, rfl, by decide +kernel, by decide +kernel⟩
theorem sc_Code___eq__ : FnScope ["self", "other"] ["self", "other"] (defScope s_Code___eq__) := ⟨rfl, rfl, rfl, by decide +kernel, rfl, by decide +kernel, by decide +kernel⟩
theorem sc_Code___len__ : FnScope ["self"] ["self"] (defScope s_Code___len__) := ⟨rfl, rfl, rfl, by decide +kernel, rfl, by decide +kernel, by decide +kernel⟩
theorem sc__law_pen : FnScope ["script", "cell"] ["script"] (defScope s__law_pen) := ⟨rfl, rfl, rfl, by decide +kernel, rfl, by decide +kernel, by decide +kernel⟩
theorem sc__law_draw : FnScope ["pen", "many", "left", "turn", "cell", "mixed"] ["pen", "many"] (defScope s__law_draw) := ⟨rfl, rfl, rfl, by decide +kernel, rfl, by decide +kernel, by decide +kernel⟩
theorem sc__law_pick : FnScope ["pen", "some"] ["pen", "some"] (defScope s__law_pick) := ⟨rfl, rfl, rfl, by decide +kernel, rfl, by decide +kernel, by decide +kernel⟩
theorem sc__law_mixed : FnScope ["pen", "some", "left", "found", "turn"] ["pen", "some"] (defScope s__law_mixed) := ⟨rfl, rfl, rfl, by decide +kernel, rfl, by decide +kernel, by decide +kernel⟩
theorem sc__law_listed : FnScope ["value", "part"] ["value"] (defScope s__law_listed) := ⟨rfl, rfl, rfl, by decide +kernel, rfl, by decide +kernel, by decide +kernel⟩
theorem sc__law_any_code : FnScope ["pen", "many", "rows", "is_wild", "at", "marks", "ends", "mark", "end"] ["pen"] (defScope s__law_any_code) := ⟨rfl, rfl, rfl, by decide +kernel, rfl, by decide +kernel, by decide +kernel⟩
theorem sc__law_wrong : FnScope ["pen", "many", "way", "act", "ways", "sign"] ["pen", "many"] (defScope s__law_wrong) := ⟨rfl, rfl, rfl, by decide +kernel, rfl, by decide +kernel, by decide +kernel⟩
theorem sc_law : FnScope ["script", "pen", "turn", "rows", "start", "made", "at", "many", "wrong", "bad", "low", "nine", "sign", "great"] ["script"] (defScope s_law) := ⟨rfl, rfl, rfl, by decide +kernel, rfl, by decide +kernel, by decide +kernel⟩
theorem sc__law_heard : FnScope ["ask", "caught", "found", "error", "some", "word", "is_so"] ["ask"] (defScope s__law_heard) := ⟨rfl, rfl, rfl, by decide +kernel, rfl, by decide +kernel, by decide +kernel⟩
theorem heard_ok (gf : Gf P w K mg) (k : Nat) : HeardF P w K mg base k "_law_heard" hdv := ⟨by
  obtain ⟨fd, F⟩ := gf.p__law_heard
  refine ⟨He.ga K "_law_heard", fd, "ask", ["ask", "caught", "found", "error", "some", "word", "is_so"], _, _, _, gf.g__law_heard, F, sc__law_heard, F.bindsN (fun _ _ _ _ _ _ us hl => match us, hl with | [_], _ => rfl), .inl rfl, rfl, by decide, by decide, fun cdv A outer s H E cz => ?_⟩
  exact heard_body rfl rfl cz.nd rfl cz.calm rfl rfl rfl rfl (.inr rfl) (.inl rfl) rfl (show 3 < 7 by decide) (by decide) (by decide) (by decide) rfl (fun _ => rfl) ⟨rfl, by decide, .inl gf.g_HearError⟩ (by decide) (by decide) rfl rfl gf.hx rfl rfl rfl (pg_tup cz.calm (pgs_cons (pg_name cz.nd rfl (.inr rfl)) (pgs_cons (pg_name cz.nd rfl (.inl rfl)) pgs_nil))) (pssv_cons (psv_if (ptv_cmp o_is (pev_var 1) pev_non) (pssv_cons (psv_ret (pev_lst (pav_cons (pev_var 2) pav_nil))) pssv_nil) pssv_nil) (pssv_cons (psv_set (pev_lst (pav_cons (pev_tup (pav_cons pev_str (pav_cons (pev_isc gf.i_BadWorld (pev_var 1) gf.n_isinstance gf.g_BadWorld) pav_nil))) (pav_cons (pev_tup (pav_cons pev_str (pav_cons (pev_isc gf.i_BadScene (pev_var 1) gf.n_isinstance gf.g_BadScene) pav_nil))) (pav_cons (pev_tup (pav_cons pev_str (pav_cons (pev_isc gf.i_BadDelays (pev_var 1) gf.n_isinstance gf.g_BadDelays) pav_nil))) (pav_cons (pev_tup (pav_cons pev_str (pav_cons (pev_isc gf.i_BadLine (pev_var 1) gf.n_isinstance gf.g_BadLine) pav_nil))) pav_nil))))) (pgv_nm 4 cz.nd)) (pssv_cons (psv_set (pev_bin o_add (pev_var 4) (pev_lst (pav_cons (pev_tup (pav_cons pev_str (pav_cons (pev_isc gf.i_BadHouse (pev_var 1) gf.n_isinstance gf.g_BadHouse) pav_nil))) (pav_cons (pev_tup (pav_cons pev_str (pav_cons (pev_isc gf.i_BadMachine (pev_var 1) gf.n_isinstance gf.g_BadMachine) pav_nil))) (pav_cons (pev_tup (pav_cons pev_str (pav_cons (pev_isc gf.i_BadPaper (pev_var 1) gf.n_isinstance gf.g_BadPaper) pav_nil))) pav_nil))))) (pgv_nm 4 cz.nd)) (pssv_cons (psv_set (pev_bin o_add (pev_var 4) (pev_lst (pav_cons (pev_tup (pav_cons pev_str (pav_cons (pev_isc gf.i_BadTree (pev_var 1) gf.n_isinstance gf.g_BadTree) pav_nil))) (pav_cons (pev_tup (pav_cons pev_str (pav_cons (pev_isc gf.i_BadPage (pev_var 1) gf.n_isinstance gf.g_BadPage) pav_nil))) pav_nil)))) (pgv_nm 4 cz.nd)) (pssv_cons (psv_setLc cz 2 [("word", 5), ("is_so", 6)] (pev_var 4) (show blkC ["ask", "caught", "found", "error", "some", "word", "is_so"] (defScope s__law_heard) _ _ = true by decide +kernel) (fun _ _ _ _ _ => (pgv_tup (show Cz _ _ from ⟨cz.1, cz.2, cz.3, cz.4⟩).calm (pgsv_cons (pgv_nm 5 (show Cz _ _ from ⟨cz.1, cz.2, cz.3, cz.4⟩).nd) (pgsv_cons (pgv_nm 6 (show Cz _ _ from ⟨cz.1, cz.2, cz.3, cz.4⟩).nd) pgsv_nil)))) (fun _ _ _ _ _ => (ptcs_one (ptv_val (pev_var 6)))) (fun _ _ _ _ _ => (pev_tup (pav_cons (pev_var 5) (pav_cons (pev_fld gf.f_part (pev_var 1)) pav_nil)))) (sw_true rfl rfl rfl (by decide +kernel))) (pssv_cons (psv_set (pev_bin o_add (pev_var 2) (pev_ife (ptv_val (pev_isc gf.i_BadNumber (pev_var 1) gf.n_isinstance gf.g_BadNumber)) (pev_lst (pav_cons (pev_tup (pav_cons pev_str (pav_cons (pev_fnB (f_repr cz) gf.n_repr bt_repr (pev_fld gf.f_value (pev_var 1))) pav_nil))) pav_nil)) (pev_lst pav_nil))) (pgv_nm 2 cz.nd)) (pssv_cons (psv_set (pev_bin o_add (pev_var 2) (pev_ife (ptv_val (pev_isc gf.i_NoName (pev_var 1) gf.n_isinstance gf.g_NoName)) (pev_lst (pav_cons (pev_tup (pav_cons pev_str (pav_cons (pev_fnB (f_repr cz) gf.n_repr bt_repr (pev_fld gf.f_name (pev_var 1))) pav_nil))) pav_nil)) (pev_lst pav_nil))) (pgv_nm 2 cz.nd)) (pssv_cons (psv_set (pev_bin o_add (pev_var 2) (pev_comp cz [("word", 5), ("is_so", 6)] (pev_lst (pav_cons (pev_tup (pav_cons pev_str (pav_cons (pev_isc gf.i_Nothing (pev_var 1) gf.n_isinstance gf.g_Nothing) pav_nil))) (pav_cons (pev_tup (pav_cons pev_str (pav_cons (pev_isc gf.i_BadWord (pev_var 1) gf.n_isinstance gf.g_BadWord) pav_nil))) pav_nil))) (show blkC ["ask", "caught", "found", "error", "some", "word", "is_so"] (defScope s__law_heard) _ _ = true by decide +kernel) (fun _ _ _ _ _ => (pgv_tup (show Cz _ _ from ⟨cz.1, cz.2, cz.3, cz.4⟩).calm (pgsv_cons (pgv_nm 5 (show Cz _ _ from ⟨cz.1, cz.2, cz.3, cz.4⟩).nd) (pgsv_cons (pgv_nm 6 (show Cz _ _ from ⟨cz.1, cz.2, cz.3, cz.4⟩).nd) pgsv_nil)))) (fun _ _ _ _ _ => (ptcs_one (ptv_val (pev_var 6)))) (fun _ _ _ _ _ => (pev_tup (pav_cons (pev_var 5) (pav_cons (pev_fld gf.f_word (pev_var 1)) pav_nil)))))) (pgv_nm 2 cz.nd)) (pssv_cons (psv_set (pev_bin o_add (pev_var 2) (pev_ife (ptv_val (pev_isc gf.i_BadText (pev_var 1) gf.n_isinstance gf.g_BadText)) (pev_lst (pav_cons (pev_tup (pav_cons pev_str (pav_cons (pev_fld gf.f_line (pev_var 1)) (pav_cons (pev_fld gf.f_word (pev_var 1)) pav_nil)))) pav_nil)) (pev_lst pav_nil))) (pgv_nm 2 cz.nd)) (pssv_cons (psv_set (pev_bin o_add (pev_var 2) (pev_ife (ptv_val (pev_isc gf.i_TooMany (pev_var 1) gf.n_isinstance gf.g_TooMany)) (pev_lst (pav_cons (pev_tup (pav_cons pev_str (pav_cons (pev_fld gf.f_what (pev_var 1)) (pav_cons (pev_fld gf.f_most (pev_var 1)) pav_nil)))) pav_nil)) (pev_lst pav_nil))) (pgv_nm 2 cz.nd)) (pssv_cons (psv_ret (pev_ife (ptv_cmp (Cz.eq cz) (pev_fnB f_len gf.n_len bt_len (pev_var 2)) pev_int) (pev_ix (pev_var 2) pev_int) (pev_tup (pav_cons pev_str pav_nil)))) pssv_nil)))))))))))⟩
theorem dv_is_integer (gf : Gf P w K mg) (all : All P w K mg base n) : ∀ (cdv : Value) (A : Around) (outer : List Env) (s : Shared) (H : Hp) (E : XK), cdv = .ref (He.codeOf K dd_is_integer.at_) → Cz (cxOf (L2.CX P w) P w K mg base ["value"] dd_is_integer.qual dd_is_integer.scope (He.fAd K dd_is_integer.at_) cdv A outer s H E) (4 * n + 3) →
    PSsv (cxOf (L2.CX P w) P w K mg base ["value"] dd_is_integer.qual dd_is_integer.scope (He.fAd K dd_is_integer.at_) cdv A outer s H E) dd_is_integer.body (b_is_integer (evCall T n)) := fun cdv A outer s H E hcd cz => by
  subst hcd
  exact (pssv_cons (psv_ret (pev_and (pev_isi1 .int (gf.bi _) (pev_var 0) gf.n_isinstance gf.n_int bt_int) (pev_one (pev_not (pev_isi1 .bool (gf.bi _) (pev_var 0) gf.n_isinstance gf.n_bool bt_bool))))) pssv_nil)
theorem dv_is_between (gf : Gf P w K mg) (all : All P w K mg base n) : ∀ (cdv : Value) (A : Around) (outer : List Env) (s : Shared) (H : Hp) (E : XK), cdv = .ref (He.codeOf K dd_is_between.at_) → Cz (cxOf (L2.CX P w) P w K mg base ["value", "least", "most"] dd_is_between.qual dd_is_between.scope (He.fAd K dd_is_between.at_) cdv A outer s H E) (4 * n + 3) →
    PSsv (cxOf (L2.CX P w) P w K mg base ["value", "least", "most"] dd_is_between.qual dd_is_between.scope (He.fAd K dd_is_between.at_) cdv A outer s H E) dd_is_between.body (b_is_between (evCall T n)) := fun cdv A outer s H E hcd cz => by
  subst hcd
  exact (pssv_cons (psv_ret (pev_and (pev_callP all.d_is_integer cz rfl gf.g_is_integer bs_is_integer_1 (pav_cons (pev_var 0) pav_nil)) (pev_one (pev_chain o_le o_le (pev_var 1) (pev_var 0) (pev_var 2))))) pssv_nil)
theorem dv_is_name (gf : Gf P w K mg) (all : All P w K mg base n) : ∀ (cdv : Value) (A : Around) (outer : List Env) (s : Shared) (H : Hp) (E : XK), cdv = .ref (He.codeOf K dd_is_name.at_) → Cz (cxOf (L2.CX P w) P w K mg base ["value", "sign"] dd_is_name.qual dd_is_name.scope (He.fAd K dd_is_name.at_) cdv A outer s H E) (4 * n + 3) →
    PSsv (cxOf (L2.CX P w) P w K mg base ["value", "sign"] dd_is_name.qual dd_is_name.scope (He.fAd K dd_is_name.at_) cdv A outer s H E) dd_is_name.body (b_is_name (evCall T n)) := fun cdv A outer s H E hcd cz => by
  subst hcd
  exact (pssv_cons (psv_ret (pev_and (pev_isi1 .str (gf.bi _) (pev_var 0) gf.n_isinstance gf.n_str bt_str) (pev_and (pev_chain o_le o_le pev_int (pev_fnB f_len gf.n_len bt_len (pev_var 0)) (pev_gint gf.c_MOST_SIGNS.choose_spec)) (pev_one (pev_fnB (f_all cz.calm) gf.n_all bt_all (pev_comp cz [("sign", 1)] (pev_var 0) (show blkC ["value", "sign"] (defScope s_is_name) _ _ = true by decide +kernel) (fun _ _ _ _ _ => (pgv_nm 1 (show Cz _ _ from ⟨cz.1, cz.2, cz.3, cz.4⟩).nd)) (fun _ _ _ _ _ => ptcs_nil) (fun _ _ _ _ _ => (pev_cmp (Cz.isin (show Cz _ _ from ⟨cz.1, cz.2, cz.3, cz.4⟩)) (pev_var 1) (pev_gstr gf.c_LETTERS.choose_spec))))))))) pssv_nil)
theorem dv_is_listed (gf : Gf P w K mg) (all : All P w K mg base n) : ∀ (cdv : Value) (A : Around) (outer : List Env) (s : Shared) (H : Hp) (E : XK), cdv = .ref (He.codeOf K dd_is_listed.at_) → Cz (cxOf (L2.CX P w) P w K mg base ["value"] dd_is_listed.qual dd_is_listed.scope (He.fAd K dd_is_listed.at_) cdv A outer s H E) (4 * n + 3) →
    PSsv (cxOf (L2.CX P w) P w K mg base ["value"] dd_is_listed.qual dd_is_listed.scope (He.fAd K dd_is_listed.at_) cdv A outer s H E) dd_is_listed.body (b_is_listed (evCall T n)) := fun cdv A outer s H E hcd cz => by
  subst hcd
  exact (pssv_cons (psv_ret (pev_isi2 .list .tuple (gf.bi _) (pev_var 0) gf.n_isinstance gf.n_list bt_list gf.n_tuple bt_tuple)) pssv_nil)
theorem dv_is_row (gf : Gf P w K mg) (all : All P w K mg base n) : ∀ (cdv : Value) (A : Around) (outer : List Env) (s : Shared) (H : Hp) (E : XK), cdv = .ref (He.codeOf K dd_is_row.at_) → Cz (cxOf (L2.CX P w) P w K mg base ["value", "least", "most"] dd_is_row.qual dd_is_row.scope (He.fAd K dd_is_row.at_) cdv A outer s H E) (4 * n + 3) →
    PSsv (cxOf (L2.CX P w) P w K mg base ["value", "least", "most"] dd_is_row.qual dd_is_row.scope (He.fAd K dd_is_row.at_) cdv A outer s H E) dd_is_row.body (b_is_row (evCall T n)) := fun cdv A outer s H E hcd cz => by
  subst hcd
  exact (pssv_cons (psv_ret (pev_and (pev_callP all.d_is_listed cz rfl gf.g_is_listed bs_is_listed_1 (pav_cons (pev_var 0) pav_nil)) (pev_one (pev_chain o_le o_le (pev_var 1) (pev_fnB f_len gf.n_len bt_len (pev_var 0)) (pev_var 2))))) pssv_nil)
theorem dv_fixed (gf : Gf P w K mg) (all : All P w K mg base n) : ∀ (cdv : Value) (A : Around) (outer : List Env) (s : Shared) (H : Hp) (E : XK), cdv = .ref (He.codeOf K dd_fixed.at_) → Cz (cxOf (L2.CX P w) P w K mg base ["value", "one"] dd_fixed.qual dd_fixed.scope (He.fAd K dd_fixed.at_) cdv A outer s H E) (4 * n + 3) →
    PSsv (cxOf (L2.CX P w) P w K mg base ["value", "one"] dd_fixed.qual dd_fixed.scope (He.fAd K dd_fixed.at_) cdv A outer s H E) dd_fixed.body (b_fixed (evCall T n)) := fun cdv A outer s H E hcd cz => by
  subst hcd
  exact (pssv_cons (psv_if (ptv_val (pev_isi2 .list .tuple (gf.bi _) (pev_var 0) gf.n_isinstance gf.n_list bt_list gf.n_tuple bt_tuple)) (pssv_cons (psv_ret (pev_fnT f_tuple gf.n_tuple bt_tuple (pev_comp cz [("one", 1)] (pev_var 0) (show blkC ["value", "one"] (defScope s_fixed) _ _ = true by decide +kernel) (fun _ _ _ _ _ => (pgv_nm 1 (show Cz _ _ from ⟨cz.1, cz.2, cz.3, cz.4⟩).nd)) (fun _ _ _ _ _ => ptcs_nil) (fun _ _ _ _ _ => (pev_callP all.d_fixed (show Cz _ _ from ⟨cz.1, cz.2, cz.3, cz.4⟩) rfl gf.g_fixed bs_fixed_1 (pav_cons (pev_var 1) pav_nil)))))) pssv_nil) pssv_nil) (pssv_cons (psv_ret (pev_var 0)) pssv_nil))
theorem dv_is_act (gf : Gf P w K mg) (all : All P w K mg base n) : ∀ (cdv : Value) (A : Around) (outer : List Env) (s : Shared) (H : Hp) (E : XK), cdv = .ref (He.codeOf K dd_is_act.at_) → Cz (cxOf (L2.CX P w) P w K mg base ["value", "many", "one"] dd_is_act.qual dd_is_act.scope (He.fAd K dd_is_act.at_) cdv A outer s H E) (4 * n + 3) →
    PSsv (cxOf (L2.CX P w) P w K mg base ["value", "many", "one"] dd_is_act.qual dd_is_act.scope (He.fAd K dd_is_act.at_) cdv A outer s H E) dd_is_act.body (b_is_act (evCall T n)) := fun cdv A outer s H E hcd cz => by
  subst hcd
  exact (pssv_cons (psv_ret (pev_and (pev_callP all.d_is_row cz rfl gf.g_is_row bs_is_row_3 (pav_cons (pev_var 0) (pav_cons (pev_var 1) (pav_cons (pev_var 1) pav_nil)))) (pev_one (pev_fnB (f_all cz.calm) gf.n_all bt_all (pev_comp cz [("one", 2)] (pev_var 0) (show blkC ["value", "many", "one"] (defScope s_is_act) _ _ = true by decide +kernel) (fun _ _ _ _ _ => (pgv_nm 2 (show Cz _ _ from ⟨cz.1, cz.2, cz.3, cz.4⟩).nd)) (fun _ _ _ _ _ => ptcs_nil) (fun _ _ _ _ _ => (pev_callP all.d_is_name (show Cz _ _ from ⟨cz.1, cz.2, cz.3, cz.4⟩) rfl gf.g_is_name bs_is_name_1 (pav_cons (pev_var 2) pav_nil)))))))) pssv_nil)
theorem dv_are_ways (gf : Gf P w K mg) (all : All P w K mg base n) : ∀ (cdv : Value) (A : Around) (outer : List Env) (s : Shared) (H : Hp) (E : XK), cdv = .ref (He.codeOf K dd_are_ways.at_) → Cz (cxOf (L2.CX P w) P w K mg base ["value", "most", "one", "mark", "place"] dd_are_ways.qual dd_are_ways.scope (He.fAd K dd_are_ways.at_) cdv A outer s H E) (4 * n + 3) →
    PSsv (cxOf (L2.CX P w) P w K mg base ["value", "most", "one", "mark", "place"] dd_are_ways.qual dd_are_ways.scope (He.fAd K dd_are_ways.at_) cdv A outer s H E) dd_are_ways.body (b_are_ways (evCall T n)) := fun cdv A outer s H E hcd cz => by
  subst hcd
  exact (pssv_cons (psv_if (ptv_w (pwv_or (ptv_not (ptv_val (pev_callP all.d_is_row cz rfl gf.g_is_row bs_is_row_3 (pav_cons (pev_var 0) (pav_cons pev_int (pav_cons (pev_gint gf.c_MOST_MARKS.choose_spec) pav_nil)))))) (pwv_or1 (ptv_not (ptv_val (pev_fnB (f_all cz.calm) gf.n_all bt_all (pev_comp cz [("one", 2)] (pev_var 0) (show blkC ["value", "most", "one", "mark", "place"] (defScope s_are_ways) _ _ = true by decide +kernel) (fun _ _ _ _ _ => (pgv_nm 2 (show Cz _ _ from ⟨cz.1, cz.2, cz.3, cz.4⟩).nd)) (fun _ _ _ _ _ => ptcs_nil) (fun _ _ _ _ _ => (pev_callP all.d_is_row (show Cz _ _ from ⟨cz.1, cz.2, cz.3, cz.4⟩) rfl gf.g_is_row bs_is_row_3 (pav_cons (pev_var 2) (pav_cons pev_int (pav_cons pev_int pav_nil)))))))))))) (pssv_cons (psv_ret pev_bl) pssv_nil) pssv_nil) (pssv_cons (psv_if (ptv_not (ptv_val (pev_fnB (f_all cz.calm) gf.n_all bt_all (pev_comp cz [("mark", 3), ("place", 4)] (pev_var 0) (show blkC ["value", "most", "one", "mark", "place"] (defScope s_are_ways) _ _ = true by decide +kernel) (fun _ _ _ _ _ => (pgv_tup (show Cz _ _ from ⟨cz.1, cz.2, cz.3, cz.4⟩).calm (pgsv_cons (pgv_nm 3 (show Cz _ _ from ⟨cz.1, cz.2, cz.3, cz.4⟩).nd) (pgsv_cons (pgv_nm 4 (show Cz _ _ from ⟨cz.1, cz.2, cz.3, cz.4⟩).nd) pgsv_nil)))) (fun _ _ _ _ _ => ptcs_nil) (fun _ _ _ _ _ => (pev_and (pev_or (pev_cmp o_is (pev_var 3) pev_non) (pev_one (pev_callP all.d_is_name (show Cz _ _ from ⟨cz.1, cz.2, cz.3, cz.4⟩) rfl gf.g_is_name bs_is_name_1 (pav_cons (pev_var 3) pav_nil)))) (pev_one (pev_callP all.d_is_between (show Cz _ _ from ⟨cz.1, cz.2, cz.3, cz.4⟩) rfl gf.g_is_between bs_is_between_3 (pav_cons (pev_var 4) (pav_cons pev_int (pav_cons (pev_bin o_sub (pev_var 1) pev_int) pav_nil))))))))))) (pssv_cons (psv_ret pev_bl) pssv_nil) pssv_nil) (pssv_cons (psv_ret (pev_cmp (Cz.eq cz) (pev_fnB f_len gf.n_len bt_len (pev_dcomp cz [("mark", 3), ("place", 4)] (pev_var 0) (show blkC ["value", "most", "one", "mark", "place"] (defScope s_are_ways) _ _ = true by decide +kernel) (fun _ _ _ _ _ => (pgv_tup (show Cz _ _ from ⟨cz.1, cz.2, cz.3, cz.4⟩).calm (pgsv_cons (pgv_nm 3 (show Cz _ _ from ⟨cz.1, cz.2, cz.3, cz.4⟩).nd) (pgsv_cons (pgv_nm 4 (show Cz _ _ from ⟨cz.1, cz.2, cz.3, cz.4⟩).nd) pgsv_nil)))) (fun _ _ _ _ _ => ptcs_nil) (fun _ _ _ _ _ => (pev_var 3)) (fun _ _ _ _ _ => pev_bl))) (pev_fnB f_len gf.n_len bt_len (pev_var 0)))) pssv_nil)))
theorem dv_is_instruction (gf : Gf P w K mg) (all : All P w K mg base n) : ∀ (cdv : Value) (A : Around) (outer : List Env) (s : Shared) (H : Hp) (E : XK), cdv = .ref (He.codeOf K dd_is_instruction.at_) → Cz (cxOf (L2.CX P w) P w K mg base ["value", "most"] dd_is_instruction.qual dd_is_instruction.scope (He.fAd K dd_is_instruction.at_) cdv A outer s H E) (4 * n + 3) →
    PSsv (cxOf (L2.CX P w) P w K mg base ["value", "most"] dd_is_instruction.qual dd_is_instruction.scope (He.fAd K dd_is_instruction.at_) cdv A outer s H E) dd_is_instruction.body (b_is_instruction (evCall T n)) := fun cdv A outer s H E hcd cz => by
  subst hcd
  exact (pssv_cons (psv_if (ptv_w (pwv_or (ptv_not (ptv_val (pev_callP all.d_is_row cz rfl gf.g_is_row bs_is_row_3 (pav_cons (pev_var 0) (pav_cons pev_int (pav_cons pev_int pav_nil)))))) (pwv_or1 (ptv_not (ptv_val (pev_isi1 .str (gf.bi _) (pev_ix (pev_var 0) pev_int) gf.n_isinstance gf.n_str bt_str)))))) (pssv_cons (psv_ret pev_bl) pssv_nil) pssv_nil) (pssv_cons (psv_if (ptv_cmp (Cz.eq cz) (pev_ix (pev_var 0) pev_int) (pev_gstr gf.c_ASK.choose_spec)) (pssv_cons (psv_ret (pev_and (pev_callP all.d_is_between cz rfl gf.g_is_between bs_is_between_3 (pav_cons (pev_ix (pev_var 0) pev_int) (pav_cons pev_int (pav_cons (pev_bin o_sub (pev_gint gf.c_MOST_PARTS.choose_spec) pev_int) pav_nil)))) (pev_one (pev_callP all.d_are_ways cz rfl gf.g_are_ways bs_are_ways_2 (pav_cons (pev_ix (pev_var 0) pev_int) (pav_cons (pev_var 1) pav_nil)))))) pssv_nil) pssv_nil) (pssv_cons (psv_if (ptv_w (pwv_or (ptv_cmp (Cz.ne cz) (pev_ix (pev_var 0) pev_int) (pev_gstr gf.c_SET.choose_spec)) (pwv_or (ptv_not (ptv_val (pev_callP all.d_is_row cz rfl gf.g_is_row bs_is_row_3 (pav_cons (pev_ix (pev_var 0) pev_int) (pav_cons pev_int (pav_cons (pev_gint gf.c_MOST_SIGNALS.choose_spec) pav_nil)))))) (pwv_or1 (ptv_not (ptv_val (pev_callP all.d_is_act cz rfl gf.g_is_act bs_is_act_2 (pav_cons (pev_ix (pev_var 0) pev_int) (pav_cons (pev_fnB f_len gf.n_len bt_len (pev_ix (pev_var 0) pev_int)) pav_nil))))))))) (pssv_cons (psv_ret pev_bl) pssv_nil) pssv_nil) (pssv_cons (psv_ret (pev_or (pev_cmp o_is (pev_ix (pev_var 0) pev_int) pev_non) (pev_one (pev_callP all.d_is_between cz rfl gf.g_is_between bs_is_between_3 (pav_cons (pev_ix (pev_var 0) pev_int) (pav_cons pev_int (pav_cons (pev_bin o_sub (pev_var 1) pev_int) pav_nil))))))) pssv_nil))))
theorem dv_Code___init__ (gf : Gf P w K mg) (all : All P w K mg base n) : ∀ (cdv : Value) (A : Around) (outer : List Env) (s : Shared) (H : Hp) (E : XK), cdv = .ref (He.codeOf K dd_Code___init__.at_) → Cz (cxOf (L2.CX P w) P w K mg base ["self", "instructions", "start", "one"] dd_Code___init__.qual dd_Code___init__.scope (He.fAd K dd_Code___init__.at_) cdv A outer s H E) (4 * n + 3) →
    PSsv (cxOf (L2.CX P w) P w K mg base ["self", "instructions", "start", "one"] dd_Code___init__.qual dd_Code___init__.scope (He.fAd K dd_Code___init__.at_) cdv A outer s H E) dd_Code___init__.body (b_Code___init__ (evCall T n)) := fun cdv A outer s H E hcd cz => by
  subst hcd
  exact (pssv_cons (psv_if (ptv_not (ptv_val (pev_callP all.d_is_row cz rfl gf.g_is_row bs_is_row_3 (pav_cons (pev_var 1) (pav_cons pev_int (pav_cons (pev_gint gf.c_MOST_INSTRUCTIONS.choose_spec) pav_nil)))))) (pssv_cons (psv_raise (k := 4 * n + 2) (gf.s_BadMachine _ _).choose_spec.choose_spec cz pev_str) pssv_nil) pssv_nil) (pssv_cons (psv_if (ptv_not (ptv_val (pev_fnB (f_all cz.calm) gf.n_all bt_all (pev_comp cz [("one", 3)] (pev_var 1) (show blkC ["self", "instructions", "start", "one"] (defScope s_Code___init__) _ _ = true by decide +kernel) (fun _ _ _ _ _ => (pgv_nm 3 (show Cz _ _ from ⟨cz.1, cz.2, cz.3, cz.4⟩).nd)) (fun _ _ _ _ _ => ptcs_nil) (fun _ _ _ _ _ => (pev_callP all.d_is_instruction (show Cz _ _ from ⟨cz.1, cz.2, cz.3, cz.4⟩) rfl gf.g_is_instruction bs_is_instruction_2 (pav_cons (pev_var 3) (pav_cons (pev_fnB f_len gf.n_len bt_len (pev_var 1)) pav_nil)))))))) (pssv_cons (psv_raise (k := 4 * n + 2) (gf.s_BadMachine _ _).choose_spec.choose_spec cz pev_str) pssv_nil) pssv_nil) (pssv_cons (psv_if (ptv_not (ptv_val (pev_callP all.d_is_between cz rfl gf.g_is_between bs_is_between_3 (pav_cons (pev_var 2) (pav_cons pev_int (pav_cons (pev_bin o_sub (pev_fnB f_len gf.n_len bt_len (pev_var 1)) pev_int) pav_nil)))))) (pssv_cons (psv_raise (k := 4 * n + 2) (gf.s_BadNumber _ _).choose_spec.choose_spec cz (pev_var 2)) pssv_nil) pssv_nil) (pssv_cons (psv_fset gf.f_instructions (pev_var 0) (pev_callP all.d_fixed cz rfl gf.g_fixed bs_fixed_1 (pav_cons (pev_var 1) pav_nil))) (pssv_cons (psv_fset gf.f_start (pev_var 0) (pev_var 2)) pssv_nil)))))
theorem dv_Code___eq__ (gf : Gf P w K mg) (all : All P w K mg base n) : ∀ (cdv : Value) (A : Around) (outer : List Env) (s : Shared) (H : Hp) (E : XK), cdv = .ref (He.codeOf K dd_Code___eq__.at_) → Cz (cxOf (L2.CX P w) P w K mg base ["self", "other"] dd_Code___eq__.qual dd_Code___eq__.scope (He.fAd K dd_Code___eq__.at_) cdv A outer s H E) (4 * n + 3) →
    PSsv (cxOf (L2.CX P w) P w K mg base ["self", "other"] dd_Code___eq__.qual dd_Code___eq__.scope (He.fAd K dd_Code___eq__.at_) cdv A outer s H E) dd_Code___eq__.body (b_Code___eq__ (evCall T n)) := fun cdv A outer s H E hcd cz => by
  subst hcd
  exact (pssv_cons (psv_ret (pev_and (pev_isc gf.i_Code (pev_var 1) gf.n_isinstance gf.g_Code) (pev_and (pev_cmp (Cz.eq cz) (pev_fld gf.f_instructions (pev_var 0)) (pev_fld gf.f_instructions (pev_var 1))) (pev_one (pev_cmp (Cz.eq cz) (pev_fld gf.f_start (pev_var 0)) (pev_fld gf.f_start (pev_var 1))))))) pssv_nil)
theorem dv_Code___len__ (gf : Gf P w K mg) (all : All P w K mg base n) : ∀ (cdv : Value) (A : Around) (outer : List Env) (s : Shared) (H : Hp) (E : XK), cdv = .ref (He.codeOf K dd_Code___len__.at_) → Cz (cxOf (L2.CX P w) P w K mg base ["self"] dd_Code___len__.qual dd_Code___len__.scope (He.fAd K dd_Code___len__.at_) cdv A outer s H E) (4 * n + 3) →
    PSsv (cxOf (L2.CX P w) P w K mg base ["self"] dd_Code___len__.qual dd_Code___len__.scope (He.fAd K dd_Code___len__.at_) cdv A outer s H E) dd_Code___len__.body (b_Code___len__ (evCall T n)) := fun cdv A outer s H E hcd cz => by
  subst hcd
  exact (pssv_cons (psv_ret (pev_fnB f_len gf.n_len bt_len (pev_fld gf.f_instructions (pev_var 0)))) pssv_nil)
theorem dv__law_pen (gf : Gf P w K mg) (all : All P w K mg base n) : ∀ (cdv : Value) (A : Around) (outer : List Env) (s : Shared) (H : Hp) (E : XK), cdv = .ref (He.codeOf K dd__law_pen.at_) → Cz (cxOf (L2.CX P w) P w K mg base ["script", "cell"] dd__law_pen.qual dd__law_pen.scope (He.fAd K dd__law_pen.at_) cdv A outer s H E) (4 * n + 3) →
    PSsv (cxOf (L2.CX P w) P w K mg base ["script", "cell"] dd__law_pen.qual dd__law_pen.scope (He.fAd K dd__law_pen.at_) cdv A outer s H E) dd__law_pen.body (b__law_pen (evCall T n)) := fun cdv A outer s H E hcd cz => by
  subst hcd
  exact (pssv_cons (psv_ret (pev_mlst (pav_cons (pev_comp cz [("cell", 1)] (pev_sl (pev_var 0) pov_none (pov_some pev_int)) (show blkC ["script", "cell"] (defScope s__law_pen) _ _ = true by decide +kernel) (fun _ _ _ _ _ => (pgv_nm 1 (show Cz _ _ from ⟨cz.1, cz.2, cz.3, cz.4⟩).nd)) (fun _ _ _ _ _ => ptcs_nil) (fun _ _ _ _ _ => (pev_fnT f_int gf.n_int bt_int (pev_var 1)))) (pav_cons pev_int (pav_cons pev_int pav_nil))))) pssv_nil)
theorem dv__law_draw (gf : Gf P w K mg) (all : All P w K mg base n) : ∀ (cdv : Value) (A : Around) (outer : List Env) (s : Shared) (H : Hp) (E : XK), cdv = .ref (He.codeOf K dd__law_draw.at_) → Cz (cxOf (L2.CX P w) P w K mg base ["pen", "many", "left", "turn", "cell", "mixed"] dd__law_draw.qual dd__law_draw.scope (He.fAd K dd__law_draw.at_) cdv A outer s H E) (4 * n + 3) →
    PSsv (cxOf (L2.CX P w) P w K mg base ["pen", "many", "left", "turn", "cell", "mixed"] dd__law_draw.qual dd__law_draw.scope (He.fAd K dd__law_draw.at_) cdv A outer s H E) dd__law_draw.body (b__law_draw (evCall T n)) := fun cdv A outer s H E hcd cz => by
  subst hcd
  exact (pssv_cons (psv_if (ptv_cmp o_gt (pev_ix (pev_var 0) pev_int) pev_int) (pssv_cons (psv_set (pev_fnT f_int gf.n_int bt_int (pev_ix (pev_var 0) pev_int)) (pgv_nm 2 cz.nd)) (pssv_cons (psv_put (pev_bin o_fdiv (pev_var 2) (pev_var 1)) (pg_sub (pev_var 0) pev_int set_list)) (pssv_cons (psv_ret (pev_bin o_mod (pev_fnT f_int gf.n_int bt_int (pev_var 2)) (pev_var 1))) pssv_nil))) pssv_nil) (pssv_cons (psv_set (pev_ix (pev_var 0) pev_int) (pgv_nm 3 cz.nd)) (pssv_cons (psv_put (pev_bin o_add (pev_var 3) pev_int) (pg_sub (pev_var 0) pev_int set_list)) (pssv_cons (psv_set (pev_bin o_add (pev_bin o_mul pev_int (pev_var 3)) pev_int) (pgv_nm 4 cz.nd)) (pssv_cons (psv_if (ptv_cmp (Cz.ne cz) (pev_ix (pev_var 0) pev_int) (pev_lst pav_nil)) (pssv_cons (psv_set (pev_ix (pev_ix (pev_var 0) pev_int) (pev_bin o_mod (pev_fnT f_int gf.n_int bt_int (pev_var 3)) (pev_fnB f_len gf.n_len bt_len (pev_ix (pev_var 0) pev_int)))) (pgv_nm 4 cz.nd)) pssv_nil) pssv_nil) (pssv_cons (psv_if (ptv_w (pwv_and (ptv_cmp o_lt (pev_var 3) (pev_fnB f_len gf.n_len bt_len (pev_ix (pev_var 0) pev_int))) (pwv_and1 (ptv_cmp o_ge (pev_fnB f_abs gf.n_abs bt_abs (pev_var 4)) (pev_bin o_pow pev_int pev_int))))) (pssv_cons (psv_set (pev_bin o_add (pev_bin o_mul pev_int (pev_bin o_sub (pev_fnB f_abs gf.n_abs bt_abs (pev_fnT f_int gf.n_int bt_int (pev_var 4))) (pev_bin o_pow pev_int pev_int))) (pev_fnT f_int gf.n_int bt_int (pev_cmp o_lt (pev_var 4) pev_int))) (pgv_nm 2 cz.nd)) (pssv_cons (psv_put (pev_bin o_fdiv (pev_var 2) (pev_var 1)) (pg_sub (pev_var 0) pev_int set_list)) (pssv_cons (psv_ret (pev_bin o_mod (pev_fnT f_int gf.n_int bt_int (pev_var 2)) (pev_var 1))) pssv_nil))) pssv_nil) (pssv_cons (psv_set (pev_bin o_mod (pev_fnT f_int gf.n_int bt_int (pev_bin o_pow (pev_bin o_add (pev_bin o_add (pev_bin o_mod (pev_fnT f_int gf.n_int bt_int (pev_var 4)) pev_int) (pev_bin o_mul pev_int (pev_var 3))) pev_int) pev_int)) pev_int) (pgv_nm 5 cz.nd)) (pssv_cons (psv_set (pev_bin o_mod (pev_fnT f_int gf.n_int bt_int (pev_bin o_pow (pev_bin o_add (pev_bin o_add (pev_bin o_mul (pev_var 5) (pev_bin o_add (pev_bin o_mul pev_int (pev_var 3)) pev_int)) (pev_bin o_mul (pev_bin o_mul pev_int (pev_var 3)) (pev_var 3))) pev_int) pev_int)) pev_int) (pgv_nm 5 cz.nd)) (pssv_cons (psv_ret (pev_bin o_mod (pev_fnT f_int gf.n_int bt_int (pev_bin o_fdiv (pev_var 5) pev_int)) (pev_var 1))) pssv_nil)))))))))
theorem dv__law_pick (gf : Gf P w K mg) (all : All P w K mg base n) : ∀ (cdv : Value) (A : Around) (outer : List Env) (s : Shared) (H : Hp) (E : XK), cdv = .ref (He.codeOf K dd__law_pick.at_) → Cz (cxOf (L2.CX P w) P w K mg base ["pen", "some"] dd__law_pick.qual dd__law_pick.scope (He.fAd K dd__law_pick.at_) cdv A outer s H E) (4 * n + 3) →
    PSsv (cxOf (L2.CX P w) P w K mg base ["pen", "some"] dd__law_pick.qual dd__law_pick.scope (He.fAd K dd__law_pick.at_) cdv A outer s H E) dd__law_pick.body (b__law_pick (evCall T n)) := fun cdv A outer s H E hcd cz => by
  subst hcd
  exact (pssv_cons (psv_ret (pev_ix (pev_var 1) (pev_callP all.d__law_draw cz rfl gf.g__law_draw bs__law_draw_2 (pav_cons (pev_var 0) (pav_cons (pev_fnB f_len gf.n_len bt_len (pev_var 1)) pav_nil))))) pssv_nil)
theorem dv__law_mixed (gf : Gf P w K mg) (all : All P w K mg base n) : ∀ (cdv : Value) (A : Around) (outer : List Env) (s : Shared) (H : Hp) (E : XK), cdv = .ref (He.codeOf K dd__law_mixed.at_) → Cz (cxOf (L2.CX P w) P w K mg base ["pen", "some", "left", "found", "turn"] dd__law_mixed.qual dd__law_mixed.scope (He.fAd K dd__law_mixed.at_) cdv A outer s H E) (4 * n + 3) →
    PSsv (cxOf (L2.CX P w) P w K mg base ["pen", "some", "left", "found", "turn"] dd__law_mixed.qual dd__law_mixed.scope (He.fAd K dd__law_mixed.at_) cdv A outer s H E) dd__law_mixed.body (b__law_mixed (evCall T n)) := fun cdv A outer s H E hcd cz => by
  subst hcd
  exact (pssv_cons (psv_par 2 3 cz.calm cz.nd (pev_mcopy gf.n_list (pev_var 1)) (pev_mlst pav_nil)) (pssv_cons (psv_range po_def cz.calm gf.n_range (pev_fnB f_len gf.n_len bt_len (pev_var 1)) (pgv_nm 4 cz.nd) (pssv_cons (psv_exp (pev_app (pev_var 3) (pev_popAt (pev_var 2) (pev_callP all.d__law_draw cz rfl gf.g__law_draw bs__law_draw_2 (pav_cons (pev_var 0) (pav_cons (pev_fnB f_len gf.n_len bt_len (pev_var 2)) pav_nil)))))) pssv_nil)) (pssv_frz 3 (pssv_drop 2 (pssv_cons (psv_ret (pev_var 3)) pssv_nil)))))
theorem dv__law_listed (gf : Gf P w K mg) (all : All P w K mg base n) : ∀ (cdv : Value) (A : Around) (outer : List Env) (s : Shared) (H : Hp) (E : XK), cdv = .ref (He.codeOf K dd__law_listed.at_) → Cz (cxOf (L2.CX P w) P w K mg base ["value", "part"] dd__law_listed.qual dd__law_listed.scope (He.fAd K dd__law_listed.at_) cdv A outer s H E) (4 * n + 3) →
    PSsv (cxOf (L2.CX P w) P w K mg base ["value", "part"] dd__law_listed.qual dd__law_listed.scope (He.fAd K dd__law_listed.at_) cdv A outer s H E) dd__law_listed.body (b__law_listed (evCall T n)) := fun cdv A outer s H E hcd cz => by
  subst hcd
  exact (pssv_cons (psv_ret (pev_ife (ptv_val (pev_isi2 .list .tuple (gf.bi _) (pev_var 0) gf.n_isinstance gf.n_list bt_list gf.n_tuple bt_tuple)) (pev_comp cz [("part", 1)] (pev_var 0) (show blkC ["value", "part"] (defScope s__law_listed) _ _ = true by decide +kernel) (fun _ _ _ _ _ => (pgv_nm 1 (show Cz _ _ from ⟨cz.1, cz.2, cz.3, cz.4⟩).nd)) (fun _ _ _ _ _ => ptcs_nil) (fun _ _ _ _ _ => (pev_callP all.d__law_listed (show Cz _ _ from ⟨cz.1, cz.2, cz.3, cz.4⟩) rfl gf.g__law_listed bs__law_listed_1 (pav_cons (pev_var 1) pav_nil)))) (pev_var 0))) pssv_nil)
theorem dv__law_any_code (gf : Gf P w K mg) (all : All P w K mg base n) : ∀ (cdv : Value) (A : Around) (outer : List Env) (s : Shared) (H : Hp) (E : XK), cdv = .ref (He.codeOf K dd__law_any_code.at_) → Cz (cxOf (L2.CX P w) P w K mg base ["pen", "many", "rows", "is_wild", "at", "marks", "ends", "mark", "end"] dd__law_any_code.qual dd__law_any_code.scope (He.fAd K dd__law_any_code.at_) cdv A outer s H E) (4 * n + 3) →
    PSsv (cxOf (L2.CX P w) P w K mg base ["pen", "many", "rows", "is_wild", "at", "marks", "ends", "mark", "end"] dd__law_any_code.qual dd__law_any_code.scope (He.fAd K dd__law_any_code.at_) cdv A outer s H E) dd__law_any_code.body (b__law_any_code (evCall T n)) := fun cdv A outer s H E hcd cz => by
  subst hcd
  exact (pssv_cons (psv_set (pev_tup (pav_cons (pev_bin o_add pev_int (pev_callP all.d__law_draw cz rfl gf.g__law_draw bs__law_draw_2 (pav_cons (pev_var 0) (pav_cons pev_int pav_nil)))) (pav_cons (pev_mlst pav_nil) pav_nil))) (pgv_tup cz.calm (pgsv_cons (pgv_nm 1 cz.nd) (pgsv_cons (pgv_nm 2 cz.nd) pgsv_nil)))) (pssv_cons (psv_set (pev_cmp (Cz.eq cz) (pev_callP all.d__law_draw cz rfl gf.g__law_draw bs__law_draw_2 (pav_cons (pev_var 0) (pav_cons pev_int pav_nil))) pev_int) (pgv_nm 3 cz.nd)) (pssv_cons (psv_range po_def cz.calm gf.n_range (pev_var 1) (pgv_nm 4 cz.nd) (pssv_cons (psv_if (ptv_w (pwv_or (ptv_cmp (Cz.eq cz) (pev_callP all.d__law_draw cz rfl gf.g__law_draw bs__law_draw_2 (pav_cons (pev_var 0) (pav_cons pev_int pav_nil))) pev_int) (pwv_or1 (ptv_cmp (Cz.eq cz) (pev_var 4) (pev_bin o_sub (pev_var 1) pev_int))))) (pssv_cons (psv_exp (pev_app (pev_var 2) (pev_tup (pav_cons pev_str (pav_cons (pev_callP all.d__law_pick cz rfl gf.g__law_pick bs__law_pick_2 (pav_cons (pev_var 0) (pav_cons (pev_lst (pav_cons (pev_tup (pav_cons pev_str pav_nil)) (pav_cons (pev_tup (pav_cons pev_str pav_nil)) pav_nil))) pav_nil))) (pav_cons (pev_ife (ptv_cmp (Cz.eq cz) (pev_callP all.d__law_draw cz rfl gf.g__law_draw bs__law_draw_2 (pav_cons (pev_var 0) (pav_cons pev_int pav_nil))) pev_int) pev_non (pev_callP all.d__law_draw cz rfl gf.g__law_draw bs__law_draw_2 (pav_cons (pev_var 0) (pav_cons (pev_var 1) pav_nil)))) pav_nil)))))) pssv_nil) (pssv_cons (psv_set (pev_sl (pev_callP all.d__law_mixed cz rfl gf.g__law_mixed bs__law_mixed_2 (pav_cons (pev_var 0) (pav_cons (pev_lst (pav_cons pev_str (pav_cons pev_str (pav_cons pev_non (pav_cons pev_str pav_nil))))) pav_nil))) pov_none (pov_some (pev_bin o_add pev_int (pev_callP all.d__law_draw cz rfl gf.g__law_draw bs__law_draw_2 (pav_cons (pev_var 0) (pav_cons pev_int pav_nil)))))) (pgv_nm 5 cz.nd)) (pssv_cons (psv_setLc cz 6 [("mark", 7)] (pev_var 5) (show blkC ["pen", "many", "rows", "is_wild", "at", "marks", "ends", "mark", "end"] (defScope s__law_any_code) _ _ = true by decide +kernel) (fun _ _ _ _ _ => (pgv_nm 7 (show Cz _ _ from ⟨cz.1, cz.2, cz.3, cz.4⟩).nd)) (fun _ _ _ _ _ => ptcs_nil) (fun _ _ _ _ _ => (pev_ife (ptv_val (pev_var 3)) (pev_callP all.d__law_draw (show Cz _ _ from ⟨cz.1, cz.2, cz.3, cz.4⟩) rfl gf.g__law_draw bs__law_draw_2 (pav_cons (pev_var 0) (pav_cons (pev_var 1) pav_nil))) (pev_bin o_add (pev_bin o_add (pev_var 4) pev_int) (pev_callP all.d__law_draw (show Cz _ _ from ⟨cz.1, cz.2, cz.3, cz.4⟩) rfl gf.g__law_draw bs__law_draw_2 (pav_cons (pev_var 0) (pav_cons (pev_bin o_sub (pev_bin o_sub (pev_var 1) (pev_var 4)) pev_int) pav_nil)))))) (sw_true rfl rfl rfl (by decide +kernel))) (pssv_cons (psv_exp (pev_app (pev_var 2) (pev_tup (pav_cons pev_str (pav_cons (pev_callP all.d__law_draw cz rfl gf.g__law_draw bs__law_draw_2 (pav_cons (pev_var 0) (pav_cons pev_int pav_nil))) (pav_cons (pev_fnT f_tuple gf.n_tuple bt_tuple (pev_zcomp cz [("mark", 7), ("end", 8)] gf.n_zip (pev_var 5) (pev_var 6) (show blkC ["pen", "many", "rows", "is_wild", "at", "marks", "ends", "mark", "end"] (defScope s__law_any_code) _ _ = true by decide +kernel) (fun _ _ _ _ _ => (pgv_tup (show Cz _ _ from ⟨cz.1, cz.2, cz.3, cz.4⟩).calm (pgsv_cons (pgv_nm 7 (show Cz _ _ from ⟨cz.1, cz.2, cz.3, cz.4⟩).nd) (pgsv_cons (pgv_nm 8 (show Cz _ _ from ⟨cz.1, cz.2, cz.3, cz.4⟩).nd) pgsv_nil)))) (fun _ _ _ _ _ => ptcs_nil) (fun _ _ _ _ _ => (pev_tup (pav_cons (pev_var 7) (pav_cons (pev_var 8) pav_nil)))))) pav_nil)))))) pssv_nil)))) pssv_nil)) (pssv_frz 2 (pssv_cons (psv_ret (pev_tup (pav_cons (pev_fnT f_tuple gf.n_tuple bt_tuple (pev_var 2)) (pav_cons (pev_callP all.d__law_draw cz rfl gf.g__law_draw bs__law_draw_2 (pav_cons (pev_var 0) (pav_cons (pev_var 1) pav_nil))) pav_nil)))) pssv_nil)))))
theorem dv__law_wrong (gf : Gf P w K mg) (all : All P w K mg base n) : ∀ (cdv : Value) (A : Around) (outer : List Env) (s : Shared) (H : Hp) (E : XK), cdv = .ref (He.codeOf K dd__law_wrong.at_) → Cz (cxOf (L2.CX P w) P w K mg base ["pen", "many", "way", "act", "ways", "sign"] dd__law_wrong.qual dd__law_wrong.scope (He.fAd K dd__law_wrong.at_) cdv A outer s H E) (4 * n + 3) →
    PSsv (cxOf (L2.CX P w) P w K mg base ["pen", "many", "way", "act", "ways", "sign"] dd__law_wrong.qual dd__law_wrong.scope (He.fAd K dd__law_wrong.at_) cdv A outer s H E) dd__law_wrong.body (b__law_wrong (evCall T n)) := fun cdv A outer s H E hcd cz => by
  subst hcd
  exact (pssv_cons (psv_set (pev_callP all.d__law_draw cz rfl gf.g__law_draw bs__law_draw_2 (pav_cons (pev_var 0) (pav_cons pev_int pav_nil))) (pgv_nm 2 cz.nd)) (pssv_cons (psv_if (ptv_cmp (Cz.eq cz) (pev_var 2) pev_int) (pssv_cons (psv_ret (pev_callP all.d__law_pick cz rfl gf.g__law_pick bs__law_pick_2 (pav_cons (pev_var 0) (pav_cons (pev_lst (pav_cons pev_non (pav_cons pev_int (pav_cons (pev_tup pav_nil) (pav_cons pev_str (pav_cons (pev_tup (pav_cons pev_str pav_nil)) (pav_cons (pev_tup (pav_cons pev_str (pav_cons (pev_tup pav_nil) pav_nil))) (pav_cons (pev_tup (pav_cons pev_str (pav_cons (pev_tup pav_nil) (pav_cons pev_int (pav_cons pev_int pav_nil))))) (pav_cons (pev_tup (pav_cons pev_str (pav_cons (pev_tup pav_nil) (pav_cons pev_int pav_nil)))) (pav_cons (pev_tup (pav_cons pev_int (pav_cons (pev_tup pav_nil) (pav_cons pev_int pav_nil)))) (pav_cons (pev_tup (pav_cons pev_str (pav_cons (pev_tup pav_nil) (pav_cons pev_int pav_nil)))) pav_nil))))))))))) pav_nil)))) pssv_nil) pssv_nil) (pssv_cons (psv_if (ptv_cmp (Cz.eq cz) (pev_var 2) pev_int) (pssv_cons (psv_set (pev_callP all.d__law_pick cz rfl gf.g__law_pick bs__law_pick_2 (pav_cons (pev_var 0) (pav_cons (pev_lst (pav_cons pev_non (pav_cons pev_int (pav_cons pev_str (pav_cons (pev_tup (pav_cons pev_str pav_nil)) (pav_cons (pev_tup (pav_cons pev_int pav_nil)) (pav_cons (pev_bin o_mul (pev_tup (pav_cons pev_str pav_nil)) pev_int) (pav_cons (pev_tup (pav_cons pev_str pav_nil)) pav_nil)))))))) pav_nil))) (pgv_nm 3 cz.nd)) (pssv_cons (psv_ret (pev_callP all.d__law_pick cz rfl gf.g__law_pick bs__law_pick_2 (pav_cons (pev_var 0) (pav_cons (pev_lst (pav_cons (pev_tup (pav_cons pev_str (pav_cons (pev_var 3) (pav_cons pev_int pav_nil)))) (pav_cons (pev_tup (pav_cons pev_str (pav_cons (pev_tup pav_nil) (pav_cons (pev_var 1) pav_nil)))) (pav_cons (pev_tup (pav_cons pev_str (pav_cons (pev_tup pav_nil) (pav_cons (pev_neg pev_int) pav_nil)))) (pav_cons (pev_tup (pav_cons pev_str (pav_cons (pev_tup pav_nil) (pav_cons pev_bl pav_nil)))) (pav_cons (pev_tup (pav_cons pev_str (pav_cons (pev_tup pav_nil) (pav_cons pev_str pav_nil)))) pav_nil)))))) pav_nil)))) pssv_nil)) pssv_nil) (pssv_cons (psv_set (pev_mlst (pav_cons pev_non (pav_cons pev_int (pav_cons (pev_tup pav_nil) (pav_cons pev_dnew0 (pav_cons (pev_tup (pav_cons (pev_tup (pav_cons pev_str (pav_cons (pev_var 1) pav_nil))) pav_nil)) (pav_cons (pev_tup (pav_cons (pev_tup (pav_cons pev_str (pav_cons (pev_neg pev_int) pav_nil))) pav_nil)) (pav_cons (pev_tup (pav_cons (pev_tup (pav_cons pev_str (pav_cons pev_non pav_nil))) pav_nil)) (pav_cons (pev_tup (pav_cons (pev_tup (pav_cons pev_str (pav_cons pev_int pav_nil))) pav_nil)) (pav_cons (pev_tup (pav_cons (pev_tup (pav_cons pev_int (pav_cons pev_int pav_nil))) pav_nil)) (pav_cons (pev_tup (pav_cons (pev_tup (pav_cons pev_str (pav_cons pev_int pav_nil))) (pav_cons (pev_tup (pav_cons pev_str (pav_cons pev_int pav_nil))) pav_nil))) (pav_cons (pev_tup (pav_cons (pev_tup (pav_cons pev_str pav_nil)) pav_nil)) (pav_cons (pev_tup (pav_cons pev_str (pav_cons pev_int pav_nil))) (pav_cons (pev_tup (pav_cons (pev_tup (pav_cons pev_non (pav_cons pev_int pav_nil))) (pav_cons (pev_tup (pav_cons pev_non (pav_cons pev_int pav_nil))) pav_nil))) pav_nil)))))))))))))) (pgv_nm 4 cz.nd)) (pssv_cons (psv_exp (pev_app (pev_var 4) (pev_fnT f_tuple gf.n_tuple bt_tuple (pev_comp cz [("sign", 5)] pev_str (show blkC ["pen", "many", "way", "act", "ways", "sign"] (defScope s__law_wrong) _ _ = true by decide +kernel) (fun _ _ _ _ _ => (pgv_nm 5 (show Cz _ _ from ⟨cz.1, cz.2, cz.3, cz.4⟩).nd)) (fun _ _ _ _ _ => ptcs_nil) (fun _ _ _ _ _ => (pev_tup (pav_cons (pev_bin o_add pev_str (pev_var 5)) (pav_cons pev_int pav_nil)))))))) (pssv_frz 4 (pssv_cons (psv_ret (pev_callP all.d__law_pick cz rfl gf.g__law_pick bs__law_pick_2 (pav_cons (pev_var 0) (pav_cons (pev_lst (pav_cons (pev_tup (pav_cons pev_str (pav_cons pev_int (pav_cons (pev_callP all.d__law_pick cz rfl gf.g__law_pick bs__law_pick_2 (pav_cons (pev_var 0) (pav_cons (pev_var 4) pav_nil))) pav_nil)))) (pav_cons (pev_tup (pav_cons pev_str (pav_cons pev_int (pav_cons (pev_tup (pav_cons (pev_tup (pav_cons pev_str (pav_cons pev_int pav_nil))) pav_nil)) pav_nil)))) (pav_cons (pev_tup (pav_cons pev_str (pav_cons (pev_neg pev_int) (pav_cons (pev_tup (pav_cons (pev_tup (pav_cons pev_str (pav_cons pev_int pav_nil))) pav_nil)) pav_nil)))) (pav_cons (pev_tup (pav_cons pev_str (pav_cons pev_bl (pav_cons (pev_tup (pav_cons (pev_tup (pav_cons pev_str (pav_cons pev_int pav_nil))) pav_nil)) pav_nil)))) (pav_cons (pev_tup (pav_cons pev_str (pav_cons pev_non (pav_cons (pev_tup (pav_cons (pev_tup (pav_cons pev_str (pav_cons pev_int pav_nil))) pav_nil)) pav_nil)))) pav_nil)))))) pav_nil)))) pssv_nil)))))))
theorem dv_law (gf : Gf P w K mg) (all : All P w K mg base n) (tb : LamX.TabB base mg (ca K "law") (pa K "law")) : ∀ (cdv : Value) (A : Around) (outer : List Env) (s : Shared) (H : Hp) (E : XK), cdv = .ref (He.codeOf K dd_law.at_) → Cz (cxOf (L2.CX P w) P w K mg base ["script", "pen", "turn", "rows", "start", "made", "at", "many", "wrong", "bad", "low", "nine", "sign", "great"] dd_law.qual dd_law.scope (He.fAd K dd_law.at_) cdv A outer s H E) (4 * n + 3) →
    PSsv (cxOf (L2.CX P w) P w K mg base ["script", "pen", "turn", "rows", "start", "made", "at", "many", "wrong", "bad", "low", "nine", "sign", "great"] dd_law.qual dd_law.scope (He.fAd K dd_law.at_) cdv A outer s H E) dd_law.body (b_law (evCall T n)) := fun cdv A outer s H E hcd cz => by
  subst hcd
  exact (pssv_cons (psv_set (pev_callP all.d__law_pen cz rfl gf.g__law_pen bs__law_pen_1 (pav_cons (pev_var 0) pav_nil)) (pgv_nm 1 cz.nd)) (pssv_cons (psv_range po_def cz.calm gf.n_range pev_int (pgv_nm 2 cz.nd) (pssv_cons (psv_set (pev_callP all.d__law_any_code cz rfl gf.g__law_any_code bs__law_any_code_1 (pav_cons (pev_var 1) pav_nil)) (pgv_tup cz.calm (pgsv_cons (pgv_nm 3 cz.nd) (pgsv_cons (pgv_nm 4 cz.nd) pgsv_nil)))) (pssv_cons (psv_set (pev_mkD all.d_Code___init__ cz rfl gf.m_Code gf.g_Code bs_Code___init___1_start_instructions (pca_kw0 (pkv_cons (pev_var 4) (pkv_cons (pev_callP all.d__law_listed cz rfl gf.g__law_listed bs__law_listed_1 (pav_cons (pev_var 3) pav_nil)) pkv_nil)))) (pgv_nm 5 cz.nd)) (pssv_cons (psv_if (ptv_w (pwv_or (ptv_cmp (Cz.ne cz) (pev_fnB (f_repr cz) gf.n_repr bt_repr (pev_tup (pav_cons (pev_fld gf.f_instructions (pev_var 5)) (pav_cons (pev_fld gf.f_start (pev_var 5)) (pav_cons (pev_lenO (cz.mono (by omega) : Cz _ (4 * n + 1)) (own_len gf all) gf.n_len (pev_var 5)) pav_nil))))) (pev_fnB (f_repr cz) gf.n_repr bt_repr (pev_tup (pav_cons (pev_var 3) (pav_cons (pev_var 4) (pav_cons (pev_fnB f_len gf.n_len bt_len (pev_var 3)) pav_nil)))))) (pwv_or (ptv_neO (cz.mono (by omega) : Cz _ (4 * n + 1)) (own_eq gf all) (pev_var 5) (pev_mkD all.d_Code___init__ cz rfl gf.m_Code gf.g_Code bs_Code___init___3 (pca_pos (pav_cons (pev_var 3) (pav_cons (pev_var 4) pav_nil))))) (pwv_or1 (ptv_eqO (cz.mono (by omega) : Cz _ (4 * n + 1)) (own_eq gf all) (pev_var 5) (pev_var 3)))))) (pssv_cons (psv_ret pev_bl) pssv_nil) pssv_nil) (pssv_cons (psv_if (ptv_w (pwv_or (ptv_w (pwv_and (ptv_cmp o_gt (pev_fnB f_len gf.n_len bt_len (pev_var 3)) pev_int) (pwv_and1 (ptv_eqO (cz.mono (by omega) : Cz _ (4 * n + 1)) (own_eq gf all) (pev_var 5) (pev_mkD all.d_Code___init__ cz rfl gf.m_Code gf.g_Code bs_Code___init___3 (pca_pos (pav_cons (pev_var 3) (pav_cons (pev_bin o_mod (pev_fnT f_int gf.n_int bt_int (pev_bin o_add (pev_var 4) pev_int)) (pev_fnB f_len gf.n_len bt_len (pev_var 3))) pav_nil)))))))) (pwv_or1 (ptv_eqO (cz.mono (by omega) : Cz _ (4 * n + 1)) (own_eq gf all) (pev_var 5) (pev_mkD all.d_Code___init__ cz rfl gf.m_Code gf.g_Code bs_Code___init___3 (pca_pos (pav_cons (pev_bin o_add (pev_var 3) (pev_tup (pav_cons (pev_tup (pav_cons pev_str (pav_cons (pev_tup pav_nil) (pav_cons pev_non pav_nil)))) pav_nil))) (pav_cons (pev_var 4) pav_nil)))))))) (pssv_cons (psv_ret pev_bl) pssv_nil) pssv_nil) (pssv_cons (psv_par 6 7 cz.calm cz.nd (pev_callP all.d__law_draw cz rfl gf.g__law_draw bs__law_draw_2 (pav_cons (pev_var 1) (pav_cons (pev_fnB f_len gf.n_len bt_len (pev_var 3)) pav_nil))) (pev_fnB f_len gf.n_len bt_len (pev_var 3))) (pssv_cons (psv_set (pev_mcopy gf.n_list (pev_var 3)) (pgv_nm 8 cz.nd)) (pssv_cons (psv_put (pev_callP all.d__law_wrong cz rfl gf.g__law_wrong bs__law_wrong_2 (pav_cons (pev_var 1) (pav_cons (pev_var 7) pav_nil))) (pg_sub (pev_var 8) (pev_var 6) set_list)) (pssv_frz 8 (pssv_cons (psv_set (pev_callP all.d__law_pick cz rfl gf.g__law_pick bs__law_pick_2 (pav_cons (pev_var 1) (pav_cons (pev_lst (pav_cons pev_non (pav_cons pev_int (pav_cons (pev_tup pav_nil) (pav_cons (pev_lst pav_nil) (pav_cons pev_dnew0 (pav_cons pev_str (pav_cons (pev_var 8) (pav_cons (pev_var 8) (pav_cons (pev_var 8) (pav_cons (pev_bin o_mul (pev_lst (pav_cons (pev_tup (pav_cons pev_str (pav_cons (pev_lst pav_nil) (pav_cons pev_non pav_nil)))) pav_nil)) pev_int) pav_nil))))))))))) pav_nil))) (pgv_nm 9 cz.nd)) (pssv_cons (psv_set (pev_callP all.d__law_pick cz rfl gf.g__law_pick bs__law_pick_2 (pav_cons (pev_var 1) (pav_cons (pev_lst (pav_cons pev_non (pav_cons (pev_neg pev_int) (pav_cons (pev_var 7) (pav_cons pev_bl (pav_cons pev_str (pav_cons (pev_tup (pav_cons pev_int pav_nil)) (pav_cons (pev_bin o_pow pev_int pev_int) pav_nil)))))))) pav_nil))) (pgv_nm 10 cz.nd)) (pssv_cons (psv_if (ptv_cmp (Cz.ne cz) (pev_lst (pav_cons (pev_heard (x := "law") (k := 4 * n + 1) (T := lamT) (heard_ok gf _) cz (made_plain tb rfl rfl rfl (fun _ _ _ _ _ => rfl)) (lamQ (show lamQB ["script", "pen", "turn", "rows", "start", "made", "at", "many", "wrong", "bad", "low", "nine", "sign", "great"] (defScope s_law) _ = true by decide +kernel)) (by decide) lam_one (fun f c' E A outer s H cz' => (pev_mkD all.d_Code___init__ cz' rfl gf.m_Code gf.g_Code bs_Code___init___3 (pca_pos (pav_cons (pev_var 9) (pav_cons (pev_var 10) pav_nil))))) rfl) (pav_cons (pev_heard (x := "law") (k := 4 * n + 1) (T := lamT) (heard_ok gf _) cz (made_dflt tb rfl rfl rfl rfl rfl (fun _ _ _ _ _ _ => ⟨_, rfl, fun _ => rfl⟩) rfl) (lamQ (show lamQB ["script", "pen", "turn", "rows", "start", "made", "at", "many", "wrong", "bad", "low", "nine", "sign", "great"] (defScope s_law) _ = true by decide +kernel)) (by decide) lam_one (fun f c' E A outer s H cz' => (pev_mkD all.d_Code___init__ cz' rfl gf.m_Code gf.g_Code bs_Code___init___3 (pca_pos (pav_cons (pev_var 3) (pav_cons (pev_var 10) pav_nil))))) rfl) pav_nil))) (pev_lst (pav_cons (pev_tup (pav_cons pev_str (pav_cons pev_str pav_nil))) (pav_cons (pev_tup (pav_cons pev_str (pav_cons (pev_fnB (f_repr cz) gf.n_repr bt_repr (pev_var 10)) pav_nil))) pav_nil)))) (pssv_cons (psv_ret pev_bl) pssv_nil) pssv_nil) pssv_nil)))))))))))) (pssv_cons (psv_set (pev_mkD all.d_Code___init__ cz rfl gf.m_Code gf.g_Code bs_Code___init___3 (pca_pos (pav_cons (pev_lst (pav_cons (pev_tup (pav_cons pev_str (pav_cons pev_int (pav_cons (pev_bin o_add (pev_comp cz [("sign", 12)] pev_str (show blkC ["script", "pen", "turn", "rows", "start", "made", "at", "many", "wrong", "bad", "low", "nine", "sign", "great"] (defScope s_law) _ _ = true by decide +kernel) (fun _ _ _ _ _ => (pgv_nm 12 (show Cz _ _ from ⟨cz.1, cz.2, cz.3, cz.4⟩).nd)) (fun _ _ _ _ _ => ptcs_nil) (fun _ _ _ _ _ => (pev_tup (pav_cons (pev_bin o_add pev_str (pev_var 12)) (pav_cons pev_int pav_nil))))) (pev_lst (pav_cons (pev_tup (pav_cons pev_non (pav_cons pev_int pav_nil))) pav_nil))) pav_nil)))) (pav_cons (pev_tup (pav_cons pev_str (pav_cons (pev_lst (pav_cons pev_str (pav_cons pev_str (pav_cons pev_str (pav_cons pev_str pav_nil))))) (pav_cons pev_non pav_nil)))) pav_nil))) (pav_cons pev_int pav_nil)))) (pgv_nm 11 cz.nd)) (pssv_cons (psv_set (pev_mkD all.d_Code___init__ cz rfl gf.m_Code gf.g_Code bs_Code___init___3 (pca_pos (pav_cons (pev_rcomp cz [("at", 6)] gf.n_range pev_int (show blkC ["script", "pen", "turn", "rows", "start", "made", "at", "many", "wrong", "bad", "low", "nine", "sign", "great"] (defScope s_law) _ _ = true by decide +kernel) (fun _ _ _ _ _ => (pgv_nm 6 (show Cz _ _ from ⟨cz.1, cz.2, cz.3, cz.4⟩).nd)) (fun _ _ _ _ _ => ptcs_nil) (fun _ _ _ _ _ => (pev_tup (pav_cons pev_str (pav_cons (pev_lst pav_nil) (pav_cons (pev_bin o_mod (pev_fnT f_int gf.n_int bt_int (pev_bin o_add (pev_var 6) pev_int)) pev_int) pav_nil)))))) (pav_cons pev_int pav_nil)))) (pgv_nm 13 cz.nd)) (pssv_cons (psv_ret (pev_and (pev_cmp (Cz.eq cz) (pev_lenO (cz.mono (by omega) : Cz _ (4 * n + 1)) (own_len gf all) gf.n_len (pev_var 13)) pev_int) (pev_one (pev_cmp (Cz.eq cz) (pev_fnB f_len gf.n_len bt_len (pev_ix (pev_ix (pev_fld gf.f_instructions (pev_var 11)) pev_int) pev_int)) pev_int)))) pssv_nil)))))
theorem all_ok (gf : Gf P w K mg) (tb : LamX.TabB base mg (ca K "law") (pa K "law")) : ∀ n, All P w K mg base n
  | 0 => ⟨DefOk.zero gf.p_is_integer, DefOk.zero gf.p_is_between, DefOk.zero gf.p_is_name, DefOk.zero gf.p_is_listed, DefOk.zero gf.p_is_row, DefOk.zero gf.p_fixed, DefOk.zero gf.p_is_act, DefOk.zero gf.p_are_ways, DefOk.zero gf.p_is_instruction, DefOk.zero gf.p_Code___init__, DefOk.zero gf.p_Code___eq__, DefOk.zero gf.p_Code___len__, DefOk.zero gf.p__law_pen, DefOk.zero gf.p__law_draw, DefOk.zero gf.p__law_pick, DefOk.zero gf.p__law_mixed, DefOk.zero gf.p__law_listed, DefOk.zero gf.p__law_any_code, DefOk.zero gf.p__law_wrong, DefOk.zero gf.p_law⟩
  | n + 1 => ⟨DefOk.succ gf.p_is_integer sc_is_integer rfl (dv_is_integer gf (all_ok gf tb n)),
    DefOk.succ gf.p_is_between sc_is_between rfl (dv_is_between gf (all_ok gf tb n)),
    DefOk.succ gf.p_is_name sc_is_name rfl (dv_is_name gf (all_ok gf tb n)),
    DefOk.succ gf.p_is_listed sc_is_listed rfl (dv_is_listed gf (all_ok gf tb n)),
    DefOk.succ gf.p_is_row sc_is_row rfl (dv_is_row gf (all_ok gf tb n)),
    DefOk.succ gf.p_fixed sc_fixed rfl (dv_fixed gf (all_ok gf tb n)),
    DefOk.succ gf.p_is_act sc_is_act rfl (dv_is_act gf (all_ok gf tb n)),
    DefOk.succ gf.p_are_ways sc_are_ways rfl (dv_are_ways gf (all_ok gf tb n)),
    DefOk.succ gf.p_is_instruction sc_is_instruction rfl (dv_is_instruction gf (all_ok gf tb n)),
    DefOk.succ gf.p_Code___init__ sc_Code___init__ rfl (dv_Code___init__ gf (all_ok gf tb n)),
    DefOk.succ gf.p_Code___eq__ sc_Code___eq__ rfl (dv_Code___eq__ gf (all_ok gf tb n)),
    DefOk.succ gf.p_Code___len__ sc_Code___len__ rfl (dv_Code___len__ gf (all_ok gf tb n)),
    DefOk.succ gf.p__law_pen sc__law_pen rfl (dv__law_pen gf (all_ok gf tb n)),
    DefOk.succ gf.p__law_draw sc__law_draw rfl (dv__law_draw gf (all_ok gf tb n)),
    DefOk.succ gf.p__law_pick sc__law_pick rfl (dv__law_pick gf (all_ok gf tb n)),
    DefOk.succ gf.p__law_mixed sc__law_mixed rfl (dv__law_mixed gf (all_ok gf tb n)),
    DefOk.succ gf.p__law_listed sc__law_listed rfl (dv__law_listed gf (all_ok gf tb n)),
    DefOk.succ gf.p__law_any_code sc__law_any_code rfl (dv__law_any_code gf (all_ok gf tb n)),
    DefOk.succ gf.p__law_wrong sc__law_wrong rfl (dv__law_wrong gf (all_ok gf tb n)),
    DefOk.succ gf.p_law sc_law rfl (dv_law gf (all_ok gf tb n) tb)⟩
end
/-! ### the head -/
abbrev RowR : PySem.W.OpenRow := PySem.W.OpenLaw.row PySem.Challenge.rw_ownhearing_k51_codes_made_and_refused
def fn : List He.DefD := [dd_is_integer, dd_is_between, dd_is_name, dd_is_listed, dd_is_row, dd_fixed, dd_is_act, dd_are_ways, dd_is_instruction, dd_Code___init__, dd_Code___eq__, dd_Code___len__, dd__law_pen, dd__law_draw, dd__law_pick, dd__law_mixed, dd__law_listed, dd__law_any_code, dd__law_wrong, dd_law, dd__law_heard]
def fa : List He.Fa := [.glo "is_integer", .glo "is_between", .glo "is_name", .glo "is_listed", .glo "is_row", .glo "fixed", .glo "is_act", .glo "are_ways", .glo "is_instruction", .glo "_law_pen", .glo "_law_draw", .glo "_law_pick", .glo "_law_mixed", .glo "_law_listed", .glo "_law_any_code", .glo "_law_wrong", .glo "law", .glo "_law_heard", .glo "HearError", .glo "BadWorld", .glo "BadScene", .glo "BadDelays", .glo "BadLine", .glo "BadHouse", .glo "BadMachine", .glo "BadPaper", .glo "BadTree", .glo "BadPage", .glo "BadNumber", .glo "NoName", .glo "Nothing", .glo "BadWord", .glo "BadText", .glo "TooMany", .glo "Code", .free "abs", .free "all", .free "bool", .free "int", .free "isinstance", .free "len", .free "list", .free "range", .free "repr", .free "str", .free "super", .free "tuple", .free "zip", .str "ASK" "ask", .str "LETTERS" "abcdefghijklmnopqrstuvwxyz", .int "MOST_INSTRUCTIONS" 2000, .int "MOST_MARKS" 9, .int "MOST_PARTS" 3, .int "MOST_SIGNALS" 4, .int "MOST_SIGNS" 8, .str "SET" "set", .mkr "Code", .meth "Code" "__eq__", .meth "Code" "__len__"]
def sup : List SupD := [⟨"BadMachine", "part", "BadMachine.__init__", inCls (top 15) 0⟩, ⟨"BadNumber", "value", "BadNumber.__init__", inCls (top 19) 0⟩]
def exs (K : PySem.W.Frag) : List Bool := [knB K kn ki,
  biB K (kn ++ ki),
  iscB K "BadDelays" (kn ++ ki) ["BadDelays"],
  iscB K "BadHouse" (kn ++ ki) ["BadHouse"],
  iscB K "BadLine" (kn ++ ki) ["BadLine"],
  iscB K "BadMachine" (kn ++ ki) ["BadMachine"],
  iscB K "BadNumber" (kn ++ ki) ["BadNumber"],
  iscB K "BadPage" (kn ++ ki) ["BadPage"],
  iscB K "BadPaper" (kn ++ ki) ["BadPaper"],
  iscB K "BadScene" (kn ++ ki) ["BadScene"],
  iscB K "BadText" (kn ++ ki) ["BadText"],
  iscB K "BadTree" (kn ++ ki) ["BadTree"],
  iscB K "BadWord" (kn ++ ki) ["BadWord"],
  iscB K "BadWorld" (kn ++ ki) ["BadWorld"],
  iscB K "Code" (kn ++ ki) ["Code"],
  iscB K "NoName" (kn ++ ki) ["NoName"],
  iscB K "Nothing" (kn ++ ki) ["Nothing"],
  iscB K "TooMany" (kn ++ ki) ["TooMany"],
  fldB K "instructions" (kn ++ ki),
  fldB K "line" (kn ++ ki),
  fldB K "most" (kn ++ ki),
  fldB K "name" (kn ++ ki),
  fldB K "part" (kn ++ ki),
  fldB K "start" (kn ++ ki),
  fldB K "value" (kn ++ ki),
  fldB K "what" (kn ++ ki),
  fldB K "word" (kn ++ ki),
  eqB K "Code" (kn ++ ki),
  exmB K kn "HearError",
  supB K RowR.prog.main.file (sup.getD 0 ⟨"", "", "", .Pass ⟨0, 0, 0, 0⟩⟩),
  supB K RowR.prog.main.file (sup.getD 1 ⟨"", "", "", .Pass ⟨0, 0, 0, 0⟩⟩)]
def ex (K : PySem.W.Frag) : Bool := (exs K).all id
theorem ex_at {K : PySem.W.Frag} (h : ex K = true) (i : Nat) {b : Bool} (e : (exs K)[i]? = some b) : b = true := List.all_eq_true.mp h b (List.mem_of_getElem? e)
def tf : List He.Defn := [("law", none)]
abbrev hk : PySem.W.Hook := hookQ 5 fa fn [] tf ex sup
def ob (s : PySem.W.SharedT) : AlQ := obsQ 5 fa fn [] tf ex sup (HandSHeadRun.getT s)
theorem ob_eq (s : PySem.W.SharedT) : ob s = hk.obs s.abs := obsQ_eq (HandSHeadRun.getT_eq s)
def loose : List Str := (["is_integer", "is_between", "is_name", "is_listed", "is_row", "HearError", "BadWorld", "BadScene", "BadDelays", "BadLine", "BadHouse", "BadMachine", "BadPaper", "BadTree", "BadPage", "BadNumber", "NoName", "Nothing", "BadWord", "BadText", "TooMany", "fixed", "is_act", "are_ways", "is_instruction", "Code", "_law_pen", "_law_draw", "_law_pick", "_law_mixed"] : List Str) ++ (["_law_heard", "_law_listed", "_law_any_code", "_law_wrong", "LETTERS", "MOST_SIGNS", "MOST_SIGNALS", "ASK", "SET", "MOST_INSTRUCTIONS", "MOST_MARKS", "MOST_PARTS"] : List Str)
theorem run (w : World) : HandSHeadRun.RunEq RowR (PySem.W.view RowR.prog [48]) hk ob 9000 loose w := by
  intro os
  kernel_rfl
theorem facts {w : World} {K : PySem.W.Frag} {h : Heap} {mg : Str → Option Value} (X : K.In h) (G : h.Ns mainGlobals mg) (c : SaysQ fa fn [] tf ex sup w h K) : Gf RowR.prog w K mg := by
  have N : Kn K kn ki := knB_ok (ex_at c.more 0 rfl)
  exact ⟨He.free_ok X G (c.t.d.fact 35 rfl),
    He.free_ok X G (c.t.d.fact 36 rfl),
    He.free_ok X G (c.t.d.fact 37 rfl),
    He.free_ok X G (c.t.d.fact 38 rfl),
    He.free_ok X G (c.t.d.fact 39 rfl),
    He.free_ok X G (c.t.d.fact 40 rfl),
    He.free_ok X G (c.t.d.fact 41 rfl),
    He.free_ok X G (c.t.d.fact 42 rfl),
    He.free_ok X G (c.t.d.fact 43 rfl),
    He.free_ok X G (c.t.d.fact 44 rfl),
    He.free_ok X G (c.t.d.fact 45 rfl),
    He.free_ok X G (c.t.d.fact 46 rfl),
    He.free_ok X G (c.t.d.fact 47 rfl),
    He.str_ok X G (c.t.d.fact 48 rfl),
    He.str_ok X G (c.t.d.fact 49 rfl),
    He.int_ok X G (c.t.d.fact 50 rfl),
    He.int_ok X G (c.t.d.fact 51 rfl),
    He.int_ok X G (c.t.d.fact 52 rfl),
    He.int_ok X G (c.t.d.fact 53 rfl),
    He.int_ok X G (c.t.d.fact 54 rfl),
    He.str_ok X G (c.t.d.fact 55 rfl),
    He.glo_ok X G (c.t.d.fact 0 rfl),
    He.glo_ok X G (c.t.d.fact 1 rfl),
    He.glo_ok X G (c.t.d.fact 2 rfl),
    He.glo_ok X G (c.t.d.fact 3 rfl),
    He.glo_ok X G (c.t.d.fact 4 rfl),
    He.glo_ok X G (c.t.d.fact 5 rfl),
    He.glo_ok X G (c.t.d.fact 6 rfl),
    He.glo_ok X G (c.t.d.fact 7 rfl),
    He.glo_ok X G (c.t.d.fact 8 rfl),
    He.glo_ok X G (c.t.d.fact 9 rfl),
    He.glo_ok X G (c.t.d.fact 10 rfl),
    He.glo_ok X G (c.t.d.fact 11 rfl),
    He.glo_ok X G (c.t.d.fact 12 rfl),
    He.glo_ok X G (c.t.d.fact 13 rfl),
    He.glo_ok X G (c.t.d.fact 14 rfl),
    He.glo_ok X G (c.t.d.fact 15 rfl),
    He.glo_ok X G (c.t.d.fact 16 rfl),
    He.glo_ok X G (c.t.d.fact 17 rfl),
    He.glo_ok X G (c.t.d.fact 18 rfl),
    He.glo_ok X G (c.t.d.fact 19 rfl),
    He.glo_ok X G (c.t.d.fact 20 rfl),
    He.glo_ok X G (c.t.d.fact 21 rfl),
    He.glo_ok X G (c.t.d.fact 22 rfl),
    He.glo_ok X G (c.t.d.fact 23 rfl),
    He.glo_ok X G (c.t.d.fact 24 rfl),
    He.glo_ok X G (c.t.d.fact 25 rfl),
    He.glo_ok X G (c.t.d.fact 26 rfl),
    He.glo_ok X G (c.t.d.fact 27 rfl),
    He.glo_ok X G (c.t.d.fact 28 rfl),
    He.glo_ok X G (c.t.d.fact 29 rfl),
    He.glo_ok X G (c.t.d.fact 30 rfl),
    He.glo_ok X G (c.t.d.fact 31 rfl),
    He.glo_ok X G (c.t.d.fact 32 rfl),
    He.glo_ok X G (c.t.d.fact 33 rfl),
    He.glo_ok X G (c.t.d.fact 34 rfl),
    c.t.d.def_ 0 (d := dd_is_integer) rfl,
    c.t.d.def_ 1 (d := dd_is_between) rfl,
    c.t.d.def_ 2 (d := dd_is_name) rfl,
    c.t.d.def_ 3 (d := dd_is_listed) rfl,
    c.t.d.def_ 4 (d := dd_is_row) rfl,
    c.t.d.def_ 5 (d := dd_fixed) rfl,
    c.t.d.def_ 6 (d := dd_is_act) rfl,
    c.t.d.def_ 7 (d := dd_are_ways) rfl,
    c.t.d.def_ 8 (d := dd_is_instruction) rfl,
    c.t.d.def_ 9 (d := dd_Code___init__) rfl,
    c.t.d.def_ 10 (d := dd_Code___eq__) rfl,
    c.t.d.def_ 11 (d := dd_Code___len__) rfl,
    c.t.d.def_ 12 (d := dd__law_pen) rfl,
    c.t.d.def_ 13 (d := dd__law_draw) rfl,
    c.t.d.def_ 14 (d := dd__law_pick) rfl,
    c.t.d.def_ 15 (d := dd__law_mixed) rfl,
    c.t.d.def_ 16 (d := dd__law_listed) rfl,
    c.t.d.def_ 17 (d := dd__law_any_code) rfl,
    c.t.d.def_ 18 (d := dd__law_wrong) rfl,
    c.t.d.def_ 19 (d := dd_law) rfl,
    c.t.d.def_ 20 (d := dd__law_heard) rfl,
    fun _ => isiB_ok N (ex_at c.more 1 rfl),
    iscB_ok N (ex_at c.more 2 rfl),
    iscB_ok N (ex_at c.more 3 rfl),
    iscB_ok N (ex_at c.more 4 rfl),
    iscB_ok N (ex_at c.more 5 rfl),
    iscB_ok N (ex_at c.more 6 rfl),
    iscB_ok N (ex_at c.more 7 rfl),
    iscB_ok N (ex_at c.more 8 rfl),
    iscB_ok N (ex_at c.more 9 rfl),
    iscB_ok N (ex_at c.more 10 rfl),
    iscB_ok N (ex_at c.more 11 rfl),
    iscB_ok N (ex_at c.more 12 rfl),
    iscB_ok N (ex_at c.more 13 rfl),
    iscB_ok N (ex_at c.more 14 rfl),
    iscB_ok N (ex_at c.more 15 rfl),
    iscB_ok N (ex_at c.more 16 rfl),
    iscB_ok N (ex_at c.more 17 rfl),
    fldB_ok N (ex_at c.more 18 rfl),
    fldB_ok N (ex_at c.more 19 rfl),
    fldB_ok N (ex_at c.more 20 rfl),
    fldB_ok N (ex_at c.more 21 rfl),
    fldB_ok N (ex_at c.more 22 rfl),
    fldB_ok N (ex_at c.more 23 rfl),
    fldB_ok N (ex_at c.more 24 rfl),
    fldB_ok N (ex_at c.more 25 rfl),
    fldB_ok N (ex_at c.more 26 rfl),
    He.mkr_ok (c.t.d.fact 56 rfl),
    He.meth_ok (c.t.d.fact 57 rfl),
    ex_at c.more 27 rfl,
    He.meth_ok (c.t.d.fact 58 rfl),
    fun _ _ => sup_of (d := sup.getD 0 ⟨"", "", "", .Pass ⟨0, 0, 0, 0⟩⟩) (He.glo_ok X G (c.t.d.fact 24 rfl)) (He.free_ok X G (c.t.d.fact 45 rfl)) (c.sup _ (List.mem_of_getElem? (i := 0) rfl)) (ex_at c.more 29 rfl) (by kernel_rfl) (by decide +kernel) rfl rfl rfl (fun _ => ⟨_, rfl⟩) (fun _ => rfl) (by decide) (by decide) (fun _ _ _ _ _ _ _ us hl => match us, hl with | [_, _], _ => rfl),
    fun _ _ => sup_of (d := sup.getD 1 ⟨"", "", "", .Pass ⟨0, 0, 0, 0⟩⟩) (He.glo_ok X G (c.t.d.fact 28 rfl)) (He.free_ok X G (c.t.d.fact 45 rfl)) (c.sup _ (List.mem_of_getElem? (i := 1) rfl)) (ex_at c.more 30 rfl) (by kernel_rfl) (by decide +kernel) rfl rfl rfl (fun _ => ⟨_, rfl⟩) (fun _ => rfl) (by decide) (by decide) (fun _ _ _ _ _ _ _ us hl => match us, hl with | [_, _], _ => rfl),
    exmB_ok (ex_at c.more 28 rfl)⟩
end Law
end
section
set_option Elab.async false
set_option autoImplicit false
set_option linter.all false
set_option maxRecDepth 100000
set_option maxHeartbeats 2000000
/-! k51: what the program's defs answer. -/
namespace Law
open PySem L2 Qv
local macro_rules | `(tactic| walk_at "qv") => `(tactic| simp [ap_var, ap_lit, ap_2, ap_cmp, ap_chain, ap_and, ap_or, ap_not, ap_neg, ap_ife, ap_nil, ap_cons, ap_ap, ap_sel, ap_tup, ap_lst, ap_mlst, ap_mcopy, ap_ix, ap_onone, ap_osome, ap_sl, ap_call, ap_fn, ap_qnil, ap_qcons, ap_snil, ap_scons, ap_set, ap_par, ap_if, ap_ret, ap_retN, ap_exp, ap_put, ap_frz, ap_drop, go_next, go_ret, go_brk, go_cont, res_next, res_ret, startE, bindT, bindTs,
  add_int, add_str, add_tup, add_lst, sub_int, mul_int, mul_lst, mul_tup, fdiv_int, mod_int, pow_int, len_str, len_tup, len_lst, int_int, int_bl, abs_int, list_lst, list_tup, tuple_lst, tuple_tup, lt_int, le_int, gt_int, ge_int, c_eq, c_ne, c_is, c_nis, c_in, c_nin, eqD_int, eqS_int, ixd_tup, ixd_lst, ixd_rol, ixd_mrf, put_mrf, len_mrf, sl_tup', sl_lst', sl_rol', tr_bl, tr_int, tr_non, asI_int, it_str, it_lst, it_tup, atI_0, atI_1, atI_2, ixN, must, omust, wipeE, *])
/-- a tuple, or a list -/
def sq (b : Bool) (xs : List D) : D := if b then .tup xs else .lst xs
theorem it_sq (b : Bool) (xs : List D) (st : Sto) : itemsOf st (sq b xs) = some xs := by cases b <;> rfl
theorem len_sq (b : Bool) (xs : List D) (st : Sto) : fLen st (sq b xs) = some (.int xs.length) := by cases b <;> rfl
theorem ix_sq (b : Bool) (xs : List D) (st : Sto) (i : Int) : ixD st (sq b xs) (.int i) = atI xs i := by cases b <;> rfl
section
variable (n : Nat) (st : Sto)
theorem integer_v (i : Int) : evCall T (n + 1) 0 [.int i] st = .ok (.bl true) st := rfl
theorem listed_v (b : Bool) (xs : List D) : evCall T (n + 1) 3 [sq b xs] st = .ok (.bl true) st := by cases b <;> rfl
theorem between_v (i lo hi : Int) : evCall T (n + 2) 1 [.int i, .int lo, .int hi] st = .ok (.bl (decide (lo ≤ i ∧ i ≤ hi))) st := by
  rw [call_of (show T[1]? = some ⟨3, 3, b_is_between⟩ from rfl) (n + 1) _ _ rfl]
  have h := integer_v n st i
  show resOf _ (b_is_between (evCall T (n + 1)) _ _) = _
  generalize evCall T (n + 1) = call at h ⊢
  unfold b_is_between
  by_cases h1 : lo ≤ i
  · walk_at "qv"
  · walk_at "qv"
theorem row_v (b : Bool) (xs : List D) (lo hi : Int) : evCall T (n + 2) 4 [sq b xs, .int lo, .int hi] st = .ok (.bl (decide (lo ≤ xs.length ∧ (xs.length : Int) ≤ hi))) st := by
  rw [call_of (show T[4]? = some ⟨3, 3, b_is_row⟩ from rfl) (n + 1) _ _ rfl]
  have h := listed_v n st b xs
  have h2 := len_sq b xs st
  show resOf _ (b_is_row (evCall T (n + 1)) _ _) = _
  generalize evCall T (n + 1) = call at h ⊢
  generalize sq b xs = d at h h2 ⊢
  unfold b_is_row
  by_cases h1 : lo ≤ (xs.length : Int)
  · walk_at "qv"
  · walk_at "qv"
/-- marks, acts -/
def M4 : List D := [.str "no", .str "yes", .non, .str "up"]
theorem mark_v (m : D) (h : m ∈ M4) : m = .non ∨ (isD m .non = some false ∧ evCall T (n + 1) 2 [m] st = .ok (.bl true) st) := by
  simp only [M4, List.mem_cons, List.mem_nil_iff, or_false] at h
  rcases h with rfl | rfl | rfl | rfl
  · exact .inr ⟨rfl, by kernel_rfl⟩
  · exact .inr ⟨rfl, by kernel_rfl⟩
  · exact .inl rfl
  · exact .inr ⟨rfl, by kernel_rfl⟩
def acts : List (List D) := [[], [.str "on"], [.str "off"]]
theorem act_v (b : Bool) (a : List D) (h : a ∈ acts) : evCall T (n + 3) 6 [sq b a, .int a.length] st = .ok (.bl true) st := by
  simp only [acts, List.mem_cons, List.mem_nil_iff, or_false] at h
  rcases h with rfl | rfl | rfl <;> cases b <;> kernel_rfl
end
end Law
end
section
set_option Elab.async false
set_option autoImplicit false
set_option linter.all false
set_option maxRecDepth 100000
set_option maxHeartbeats 2000000
/-! k51: ways, instructions. -/
namespace Law
open PySem L2 Qv
local macro_rules | `(tactic| walk_at "qv") => `(tactic| simp [ap_var, ap_lit, ap_2, ap_cmp, ap_chain, ap_and, ap_or, ap_not, ap_neg, ap_ife, ap_nil, ap_cons, ap_ap, ap_sel, ap_tup, ap_lst, ap_mlst, ap_mcopy, ap_ix, ap_onone, ap_osome, ap_sl, ap_call, ap_fn, ap_qnil, ap_qcons, ap_snil, ap_scons, ap_set, ap_par, ap_if, ap_ret, ap_retN, ap_exp, ap_put, ap_frz, ap_drop, go_next, go_ret, go_brk, go_cont, res_next, res_ret, startE, bindT, bindTs,
  add_int, add_str, add_tup, add_lst, sub_int, mul_int, mul_lst, mul_tup, fdiv_int, mod_int, pow_int, len_str, len_tup, len_lst, int_int, int_bl, abs_int, list_lst, list_tup, tuple_lst, tuple_tup, lt_int, le_int, gt_int, ge_int, c_eq, c_ne, c_is, c_nis, c_in, c_nin, eqD_int, eqS_int, ixd_tup, ixd_lst, ixd_rol, ixd_mrf, put_mrf, len_mrf, sl_tup', sl_lst', sl_rol', tr_bl, tr_int, tr_non, asI_int, it_str, it_lst, it_tup, atI_0, atI_1, atI_2, ixN, must, omust, wipeE, *])
def wayD (b : Bool) (q : D × Int) : D := sq b [q.1, .int q.2]
def ways (b : Bool) (ps : List (D × Int)) : D := sq b (ps.map (wayD b))
structure WaysOk (most : Int) (ps : List (D × Int)) : Prop where
  l1 : 1 ≤ ps.length
  l9 : ps.length ≤ 9
  each : ∀ q ∈ ps, q.1 ∈ M4 ∧ 0 ≤ q.2 ∧ q.2 < most
  nd : (ps.map (·.1)).Nodup
def fstD : D → D
  | .tup (m :: _) => m
  | .lst (m :: _) => m
  | _ => .non
def markK : D → NestedKey
  | .str x => .text x
  | _ => .none
theorem fst_way (b : Bool) (q : D × Int) : fstD (wayD b q) = q.1 := by cases b <;> rfl
theorem mark_k {m : D} (h : m ∈ M4) : toK m = some (markK m) ∧ flatD m = true := by
  simp only [M4, List.mem_cons, List.mem_nil_iff, or_false] at h
  rcases h with rfl | rfl | rfl | rfl <;> exact ⟨rfl, rfl⟩
theorem mark_inj {m m' : D} (h : m ∈ M4) (h' : m' ∈ M4) (e : markK m = markK m') : m = m' := by
  simp only [M4, List.mem_cons, List.mem_nil_iff, or_false] at h h'
  rcases h with rfl | rfl | rfl | rfl <;> rcases h' with rfl | rfl | rfl | rfl <;> first | rfl | (exfalso; revert e; decide +kernel)
theorem nd_map {α β : Type} {f : α → β} : ∀ {l : List α}, l.Nodup → (∀ x ∈ l, ∀ y ∈ l, f x = f y → x = y) → (l.map f).Nodup
  | [], _, _ => List.nodup_nil
  | x :: l, h, k => by
    obtain ⟨h1, h2⟩ := List.nodup_cons.mp h
    refine List.nodup_cons.mpr ⟨fun m => ?_, nd_map h2 fun a ha b hb => k a (List.mem_cons_of_mem _ ha) b (List.mem_cons_of_mem _ hb)⟩
    obtain ⟨y, hy, e⟩ := List.mem_map.mp m
    exact h1 ((k y (List.mem_cons_of_mem _ hy) x List.mem_cons_self e) ▸ hy)
theorem bindT_way (b : Bool) (q : D × Int) (i j : Nat) (env : En) : bindT (.tup [.nm i, .nm j]) (wayD b q) env = some ((env.set i (some q.1)).set j (some (.int q.2))) := by cases b <;> rfl
theorem sl9 : (9 : Nat) ≤ sizeLine := by decide
section
variable (n : Nat) (st : Sto)
theorem ways_v (b : Bool) (ps : List (D × Int)) (most : Int) (h : WaysOk most ps) : evCall T (n + 4) 7 [ways b ps, .int most] st = .ok (.bl true) st := by
  rw [call_of (show T[7]? = some ⟨2, 5, b_are_ways⟩ from rfl) (n + 3) _ _ rfl]
  have hl := h.l9
  have hsz : (ps.map (wayD b)).length ≤ sizeLine := by rw [List.length_map]; exact Nat.le_trans h.l9 sl9
  have hrow := row_v (n + 1) st b (ps.map (wayD b)) 1 9
  have hone : ∀ q, evCall T (n + 3) 4 [wayD b q, .int 2, .int 2] st = .ok (.bl true) st := fun q => row_v (n + 1) st b [q.1, .int q.2] 2 2
  have hmk := fun m hm => mark_v (n + 2) st m hm
  have hbt := fun i => between_v (n + 1) st i 0 (most - 1)
  show resOf _ (b_are_ways (evCall T (n + 3)) _ _) = _
  generalize evCall T (n + 3) = call at hrow hone hmk hbt ⊢
  have c1 : xComp [2] (.nm 2) (xVar 0) qNil (xCall call 4 (xCons (xVar 2) (xCons (xLit (.int 2)) (xCons (xLit (.int 2)) (xNil))))) [some (ways b ps), some (.int most), none, none, none] st = .ok (.lst ((ps.map (wayD b)).map fun _ => .bl true)) st := by
    refine comp_map (fun _ => .bl true) (x := ways b ps) (ds := ps.map (wayD b)) rfl (it_sq b _ st) (fun d hd => ?_) hsz
    obtain ⟨q, hq, rfl⟩ := List.mem_map.mp hd
    have := hone q
    exact ⟨_, rfl, by walk_at "qv"⟩
  have c2 : xComp [3, 4] (.tup [.nm 3, .nm 4]) (xVar 0) qNil (xAnd (xOr (xCmp cIs (xVar 3) (xLit .non)) (xCall call 2 (xCons (xVar 3) (xNil)))) (xCall call 1 (xCons (xVar 4) (xCons (xLit (.int 0)) (xCons (x2 bSub (xVar 1) (xLit (.int 1))) (xNil)))))) [some (ways b ps), some (.int most), none, none, none] st = .ok (.lst ((ps.map (wayD b)).map fun _ => .bl true)) st := by
    refine comp_map (fun _ => .bl true) (x := ways b ps) (ds := ps.map (wayD b)) rfl (it_sq b _ st) (fun d hd => ?_) hsz
    obtain ⟨q, hq, rfl⟩ := List.mem_map.mp hd
    obtain ⟨m1, m2, m3⟩ := h.each q hq
    refine ⟨_, bindT_way b q 3 4 _, ?_⟩
    have b1 := hbt q.2
    rw [decide_eq_true (show (0 : Int) ≤ q.2 ∧ q.2 ≤ most - 1 by omega)] at b1
    obtain ⟨m, e⟩ := q
    clear hrow hone hbt c1 hd
    rcases hmk m m1 with rfl | ⟨z1, z2⟩
    · have z : isD .non .non = some true := rfl
      clear hmk
      walk_at "qv"
    · clear hmk
      walk_at "qv"
  have c3 : xDcomp [3, 4] (.tup [.nm 3, .nm 4]) (xVar 0) qNil (xVar 3) (xLit (.bl true)) [some (ways b ps), some (.int most), none, none, none] st = .ok (.dct ((ps.map (wayD b)).map fstD) ((ps.map (wayD b)).map fun _ => .bl true)) st := by
    refine dcomp_new fstD (fun _ => .bl true) (fun d => markK (fstD d)) (x := ways b ps) (ds := ps.map (wayD b)) rfl (it_sq b _ st) (fun d hd => ?_) (fun d hd => ?_) ?_ hsz
    · obtain ⟨q, hq, rfl⟩ := List.mem_map.mp hd
      exact ⟨_, bindT_way b q 3 4 _, by rw [fst_way]; rfl, rfl⟩
    · obtain ⟨q, hq, rfl⟩ := List.mem_map.mp hd
      rw [fst_way]
      exact mark_k (h.each q hq).1
    · rw [List.map_map]
      have e : ((fun d => markK (fstD d)) ∘ wayD b) = fun q => markK q.1 := by
        funext q
        show markK (fstD (wayD b q)) = _
        rw [fst_way]
      have e2 : ps.map (fun q => markK q.1) = (ps.map fun q => q.1).map markK := by rw [List.map_map]; rfl
      rw [e, e2]
      refine nd_map h.nd fun x hx y hy => ?_
      obtain ⟨q, hq, rfl⟩ := List.mem_map.mp hx
      obtain ⟨q', hq', rfl⟩ := List.mem_map.mp hy
      exact mark_inj (h.each q hq).1 (h.each q' hq').1
  have f1 := fall_map (fun _ => true) st (ps.map (wayD b))
  have f2 : (ps.map (wayD b)).all (fun _ => true) = true := by simp
  rw [f2] at f1
  have hl1 := h.l1
  have hlen := len_sq b (ps.map (wayD b)) st
  have hd := len_dct st ((ps.map (wayD b)).map fstD) ((ps.map (wayD b)).map fun _ => .bl true)
  rw [List.length_map] at hlen hrow
  rw [List.length_map, List.length_map, omust_pos (by rw [List.length_map] at hsz; exact hsz)] at hd
  have hrow' : call 4 [ways b ps, .int 1, .int 9] st = .ok (.bl true) st := by
    rw [decide_eq_true (show (1 : Int) ≤ ps.length ∧ (ps.length : Int) ≤ 9 by omega)] at hrow
    exact hrow
  have hlen' : fLen st (ways b ps) = some (.int ps.length) := hlen
  generalize ways b ps = v at c1 c2 c3 hrow' hlen' ⊢
  generalize hL : ((ps.map (wayD b)).map fun _ => (D.bl true)) = L at c1 c2 c3 f1 hd
  generalize hK : (ps.map (wayD b)).map fstD = Ks at c3 hd
  clear hrow hone hmk hbt hlen hsz h f2 hL hK
  unfold b_are_ways
  walk_at "qv"
end
end Law
end
section
set_option Elab.async false
set_option autoImplicit false
set_option linter.all false
set_option maxRecDepth 100000
set_option maxHeartbeats 2000000
/-! k51: instructions; what is fixed, what is listed. -/
namespace Law
open PySem L2 Qv
local macro_rules | `(tactic| walk_at "qv") => `(tactic| simp [ap_var, ap_lit, ap_2, ap_cmp, ap_chain, ap_and, ap_or, ap_not, ap_neg, ap_ife, ap_nil, ap_cons, ap_ap, ap_sel, ap_tup, ap_lst, ap_mlst, ap_mcopy, ap_ix, ap_onone, ap_osome, ap_sl, ap_call, ap_fn, ap_qnil, ap_qcons, ap_snil, ap_scons, ap_set, ap_par, ap_if, ap_ret, ap_retN, ap_exp, ap_put, ap_frz, ap_drop, go_next, go_ret, go_brk, go_cont, res_next, res_ret, startE, bindT, bindTs,
  add_int, add_str, add_tup, add_lst, sub_int, mul_int, mul_lst, mul_tup, fdiv_int, mod_int, pow_int, len_str, len_tup, len_lst, int_int, int_bl, abs_int, list_lst, list_tup, tuple_lst, tuple_tup, lt_int, le_int, gt_int, ge_int, c_eq, c_ne, c_is, c_nis, c_in, c_nin, eqD_int, eqS_int, ixd_tup, ixd_lst, ixd_rol, ixd_mrf, put_mrf, len_mrf, sl_tup', sl_lst', sl_rol', tr_bl, tr_int, tr_non, asI_int, it_str, it_lst, it_tup, atI_0, atI_1, atI_2, ixN, must, omust, wipeE, *])
inductive Ins where
  | set (a : List D) (p : Option Int)
  | ask (i : Int) (ps : List (D × Int))
def plD : Option Int → D
  | none => .non
  | some k => .int k
def Ins.d (b : Bool) : Ins → D
  | .set a p => sq b [.str "set", sq b a, plD p]
  | .ask i ps => sq b [.str "ask", .int i, ways b ps]
def Ins.Ok (most : Int) : Ins → Prop
  | .set a p => a ∈ acts ∧ ∀ k, p = some k → 0 ≤ k ∧ k < most
  | .ask i ps => 0 ≤ i ∧ i ≤ 2 ∧ WaysOk most ps
section
variable (n : Nat) (st : Sto)
theorem e_as : eqS st (.str "ask") (.str "ask") = some true := by kernel_rfl
theorem e_sa : eqS st (.str "set") (.str "ask") = some false := by kernel_rfl
theorem n_ss : eqD (.str "set") (.str "set") = some true := by kernel_rfl
theorem acts_len {a : List D} (h : a ∈ acts) : a.length ≤ 1 := by
  simp only [acts, List.mem_cons, List.mem_nil_iff, or_false] at h
  rcases h with rfl | rfl | rfl <;> decide
theorem ins_v (b : Bool) (x : Ins) (most : Int) (h : x.Ok most) : evCall T (n + 5) 8 [x.d b, .int most] st = .ok (.bl true) st := by
  rw [call_of (show T[8]? = some ⟨2, 2, b_is_instruction⟩ from rfl) (n + 4) _ _ rfl]
  cases x with
  | ask i ps =>
    obtain ⟨h1, h2, h3⟩ := h
    have hrow : evCall T (n + 4) 4 [sq b [.str "ask", .int i, ways b ps], .int 3, .int 3] st = .ok (.bl true) st := row_v (n + 2) st b _ 3 3
    have hbt := between_v (n + 2) st i 0 2
    rw [decide_eq_true (show (0 : Int) ≤ i ∧ i ≤ 2 by omega)] at hbt
    have hw := ways_v n st b ps most h3
    have x0 := ix_sq b [.str "ask", .int i, ways b ps] st 0
    have x1 := ix_sq b [.str "ask", .int i, ways b ps] st 1
    have x2 := ix_sq b [.str "ask", .int i, ways b ps] st 2
    have hi : fIsi kn ki [.str] st (.str "ask") = some (.bl true) := rfl
    have he := e_as st
    show resOf _ (b_is_instruction (evCall T (n + 4)) [some (sq b [.str "ask", .int i, ways b ps]), some (.int most)] _) = _
    generalize evCall T (n + 4) = call at hrow hbt hw ⊢
    generalize ways b ps = wv at *
    generalize sq b [.str "ask", .int i, wv] = v at *
    clear h1 h2 h3
    unfold b_is_instruction
    walk_at "qv"
  | set a p =>
    obtain ⟨h1, h2⟩ := h
    have hrow : evCall T (n + 4) 4 [sq b [.str "set", sq b a, plD p], .int 3, .int 3] st = .ok (.bl true) st := row_v (n + 2) st b _ 3 3
    have hrow2 := row_v (n + 2) st b a 0 4
    have al := acts_len h1
    rw [decide_eq_true (show (0 : Int) ≤ a.length ∧ (a.length : Int) ≤ 4 by omega)] at hrow2
    have hact := act_v (n + 1) st b a h1
    have hla := len_sq b a st
    have x0 := ix_sq b [.str "set", sq b a, plD p] st 0
    have x1 := ix_sq b [.str "set", sq b a, plD p] st 1
    have x2 := ix_sq b [.str "set", sq b a, plD p] st 2
    have hi : fIsi kn ki [.str] st (.str "set") = some (.bl true) := rfl
    have he := e_sa st
    have hn := n_ss
    have hbt := fun i => between_v (n + 2) st i 0 (most - 1)
    show resOf _ (b_is_instruction (evCall T (n + 4)) [some (sq b [.str "set", sq b a, plD p]), some (.int most)] _) = _
    generalize evCall T (n + 4) = call at hrow hrow2 hact hbt ⊢
    generalize sq b a = av at *
    cases p with
    | none =>
      have z : isD .non .non = some true := rfl
      unfold plD at *
      generalize sq b [.str "set", av, .non] = v at *
      clear h1 h2 hbt
      unfold b_is_instruction
      walk_at "qv"
    | some k =>
      obtain ⟨k1, k2⟩ := h2 k rfl
      have b1 := hbt k
      rw [decide_eq_true (show (0 : Int) ≤ k ∧ k ≤ most - 1 by omega)] at b1
      have z : isD (.int k) .non = some false := rfl
      unfold plD at *
      generalize sq b [.str "set", av, .int k] = v at *
      clear h1 h2 hbt k1 k2
      unfold b_is_instruction
      walk_at "qv"
end
/-! ### fixed, listed -/
/-- all rows within as tuples (b) or as lists -/
def allD (b : Bool) : Nat → D → D
  | 0, d => d
  | n + 1, .lst xs => sq b (xs.map (allD b n))
  | n + 1, .tup xs => sq b (xs.map (allD b n))
  | _ + 1, d => d
/-- rows to that depth, nothing odd within -/
def deepB : Nat → D → Bool
  | n + 1, .lst xs => decide (xs.length ≤ sizeLine) && xs.all (deepB n)
  | n + 1, .tup xs => decide (xs.length ≤ sizeLine) && xs.all (deepB n)
  | _, .non => true | _, .int _ => true | _, .str _ => true | _, .bl _ => true
  | _, _ => false
theorem fixed_v (st : Sto) : ∀ (n k : Nat) (d : D), deepB n d = true → evCall T (n + k + 1) 5 [d] st = .ok (allD true n d) st := by
  have atom : ∀ (k : Nat) (d : D), (match d with | .non => true | .int _ => true | .str _ => true | .bl _ => true | _ => false) = true → evCall T (k + 1) 5 [d] st = .ok d st := by
    intro k d h
    cases d with
    | non => rfl
    | int i => rfl
    | str x => rfl
    | bl b => rfl
    | _ => cases h
  intro n
  induction n with
  | zero =>
    intro k d h
    have e : allD true 0 d = d := by cases d <;> rfl
    rw [e]
    refine atom _ d ?_
    cases d <;> first | rfl | (cases h)
  | succ n ih =>
    intro k d h
    have seq : ∀ (b : Bool) (xs : List D), xs.length ≤ sizeLine → (∀ x ∈ xs, deepB n x = true) → evCall T (n + 1 + k + 1) 5 [sq b xs] st = .ok (.tup (xs.map (allD true n))) st := by
      intro b xs hl hx
      rw [call_of (show T[5]? = some ⟨1, 2, b_fixed⟩ from rfl) (n + 1 + k) _ _ rfl]
      have e1 : n + 1 + k = n + k + 1 := by omega
      rw [e1]
      have ih' := fun x hx' => ih k x (hx x hx')
      have hi : fIsi kn ki [.list, .tuple] st (sq b xs) = some (.bl true) := by cases b <;> rfl
      show resOf _ (b_fixed (evCall T (n + k + 1)) [some (sq b xs), none] _) = _
      generalize evCall T (n + k + 1) = call at ih' ⊢
      have c1 : xComp [1] (.nm 1) (xVar 0) qNil (xCall call 5 (xCons (xVar 1) (xNil))) [some (sq b xs), none] st = .ok (.lst (xs.map (allD true n))) st := by
        refine comp_map (allD true n) (x := sq b xs) (ds := xs) rfl (it_sq b _ st) (fun d hd => ?_) hl
        have := ih' d hd
        exact ⟨_, rfl, by clear ih'; walk_at "qv"⟩
      generalize xs.map (allD true n) = ys at c1 ⊢
      generalize sq b xs = v at *
      clear ih ih' hx
      unfold b_fixed
      walk_at "qv"
    cases d with
    | lst xs =>
      have h : (decide (xs.length ≤ sizeLine) && xs.all (deepB n)) = true := h
      rw [Bool.and_eq_true, decide_eq_true_eq, List.all_eq_true] at h
      exact seq false xs h.1 h.2
    | tup xs =>
      have h : (decide (xs.length ≤ sizeLine) && xs.all (deepB n)) = true := h
      rw [Bool.and_eq_true, decide_eq_true_eq, List.all_eq_true] at h
      exact seq true xs h.1 h.2
    | non => exact atom _ _ rfl
    | int i => exact atom _ _ rfl
    | str x => exact atom _ _ rfl
    | bl b => exact atom _ _ rfl
    | _ => cases h
theorem listed2_v (st : Sto) : ∀ (n k : Nat) (d : D), deepB n d = true → evCall T (n + k + 1) 16 [d] st = .ok (allD false n d) st := by
  have atom : ∀ (k : Nat) (d : D), (match d with | .non => true | .int _ => true | .str _ => true | .bl _ => true | _ => false) = true → evCall T (k + 1) 16 [d] st = .ok d st := by
    intro k d h
    cases d with
    | non => rfl
    | int i => rfl
    | str x => rfl
    | bl b => rfl
    | _ => cases h
  intro n
  induction n with
  | zero =>
    intro k d h
    have e : allD false 0 d = d := by cases d <;> rfl
    rw [e]
    refine atom _ d ?_
    cases d <;> first | rfl | (cases h)
  | succ n ih =>
    intro k d h
    have seq : ∀ (b : Bool) (xs : List D), xs.length ≤ sizeLine → (∀ x ∈ xs, deepB n x = true) → evCall T (n + 1 + k + 1) 16 [sq b xs] st = .ok (.lst (xs.map (allD false n))) st := by
      intro b xs hl hx
      rw [call_of (show T[16]? = some ⟨1, 2, b__law_listed⟩ from rfl) (n + 1 + k) _ _ rfl]
      have e1 : n + 1 + k = n + k + 1 := by omega
      rw [e1]
      have ih' := fun x hx' => ih k x (hx x hx')
      have hi : fIsi kn ki [.list, .tuple] st (sq b xs) = some (.bl true) := by cases b <;> rfl
      show resOf _ (b__law_listed (evCall T (n + k + 1)) [some (sq b xs), none] _) = _
      generalize evCall T (n + k + 1) = call at ih' ⊢
      have c1 : xComp [1] (.nm 1) (xVar 0) qNil (xCall call 16 (xCons (xVar 1) (xNil))) [some (sq b xs), none] st = .ok (.lst (xs.map (allD false n))) st := by
        refine comp_map (allD false n) (x := sq b xs) (ds := xs) rfl (it_sq b _ st) (fun d hd => ?_) hl
        have := ih' d hd
        exact ⟨_, rfl, by clear ih'; walk_at "qv"⟩
      generalize xs.map (allD false n) = ys at c1 ⊢
      generalize sq b xs = v at *
      clear ih ih' hx
      unfold b__law_listed
      walk_at "qv"
    cases d with
    | lst xs =>
      have h : (decide (xs.length ≤ sizeLine) && xs.all (deepB n)) = true := h
      rw [Bool.and_eq_true, decide_eq_true_eq, List.all_eq_true] at h
      exact seq false xs h.1 h.2
    | tup xs =>
      have h : (decide (xs.length ≤ sizeLine) && xs.all (deepB n)) = true := h
      rw [Bool.and_eq_true, decide_eq_true_eq, List.all_eq_true] at h
      exact seq true xs h.1 h.2
    | non => exact atom _ _ rfl
    | int i => exact atom _ _ rfl
    | str x => exact atom _ _ rfl
    | bl b => exact atom _ _ rfl
    | _ => cases h
end Law
end
section
set_option Elab.async false
set_option autoImplicit false
set_option linter.all false
set_option maxRecDepth 100000
set_option maxHeartbeats 2000000
/-! k51: codes made and refused. -/
namespace Law
open PySem L2 Qv
local macro_rules | `(tactic| walk_at "qv") => `(tactic| simp [ap_var, ap_lit, ap_2, ap_cmp, ap_chain, ap_and, ap_or, ap_not, ap_neg, ap_ife, ap_nil, ap_cons, ap_ap, ap_sel, ap_tup, ap_lst, ap_mlst, ap_mcopy, ap_ix, ap_onone, ap_osome, ap_sl, ap_call, ap_fn, ap_qnil, ap_qcons, ap_snil, ap_scons, ap_set, ap_par, ap_if, ap_ret, ap_retN, ap_exp, ap_put, ap_frz, ap_drop, ap_fset, ap_raise, go_next, go_ret, go_brk, go_cont, res_next, res_ret, startE, bindT, bindTs,
  add_int, add_str, add_tup, add_lst, sub_int, mul_int, mul_lst, mul_tup, fdiv_int, mod_int, pow_int, len_str, len_tup, len_lst, int_int, int_bl, abs_int, list_lst, list_tup, tuple_lst, tuple_tup, lt_int, le_int, gt_int, ge_int, c_eq, c_ne, c_is, c_nis, c_in, c_nin, eqD_int, eqS_int, ixd_tup, ixd_lst, ixd_rol, ixd_mrf, put_mrf, len_mrf, sl_tup', sl_lst', sl_rol', tr_bl, tr_int, tr_non, asI_int, it_str, it_lst, it_tup, atI_0, atI_1, atI_2, ixN, must, omust, wipeE, *])
theorem fset_mrf {st : Sto} {k : Nat} {c f : Str} {ns : List Str} {ds : List D} {d : D} {kk : List Str} (h : st.get k = some (.obj c ns ds)) (hc : c ∈ kk ∧ ns.length < 900) : fsetD kk f st (.mrf k) d = some (st.set k (.obj c (addN f ns) (putL f d ns ds))) := by
  show (match st.get k with | some (.obj c ns ds) => if c ∈ kk ∧ ns.length < 900 then some (st.set k (.obj c (addN f ns) (putL f d ns ds))) else none | _ => none) = _
  rw [h]
  exact if_pos hc
/-! ### how deep -/
theorem atom_all (b : Bool) (n : Nat) {d : D} (h : (match d with | .non => true | .int _ => true | .str _ => true | .bl _ => true | _ => false) = true) : allD b n d = d ∧ deepB n d = true := by
  cases n <;> cases d <;> first | exact ⟨rfl, rfl⟩ | cases h
theorem mark_all (b : Bool) (n : Nat) {m : D} (h : m ∈ M4) : allD b n m = m ∧ deepB n m = true := by
  simp only [M4, List.mem_cons, List.mem_nil_iff, or_false] at h
  rcases h with rfl | rfl | rfl | rfl <;> exact atom_all b n rfl
theorem all_sq (b c : Bool) (n : Nat) (xs : List D) : allD b (n + 1) (sq c xs) = sq b (xs.map (allD b n)) := by cases c <;> rfl
theorem deep_sq (c : Bool) (n : Nat) (xs : List D) (hl : xs.length ≤ sizeLine) (h : ∀ x ∈ xs, deepB n x = true) : deepB (n + 1) (sq c xs) = true := by
  have : (decide (xs.length ≤ sizeLine) && xs.all (deepB n)) = true := by rw [Bool.and_eq_true, decide_eq_true_eq, List.all_eq_true]; exact ⟨hl, h⟩
  cases c <;> exact this
theorem way_all (b c : Bool) (n : Nat) {q : D × Int} (h : q.1 ∈ M4) : allD b (n + 1) (wayD c q) = wayD b q ∧ deepB (n + 1) (wayD c q) = true := by
  obtain ⟨m1, m2⟩ := mark_all b n h
  obtain ⟨i1, i2⟩ := atom_all b n (d := .int q.2) rfl
  refine ⟨?_, deep_sq c n _ (by simp; decide) fun x hx => ?_⟩
  · unfold wayD
    rw [all_sq]
    show sq b [allD b n q.1, allD b n (.int q.2)] = _
    rw [m1, i1]
  · rcases List.mem_cons.mp hx with rfl | hx
    · exact m2
    · rw [List.mem_singleton.mp hx]; exact i2
theorem ins_all (b c : Bool) (n : Nat) {x : Ins} {most : Int} (h : x.Ok most) : allD b (n + 3) (x.d c) = x.d b ∧ deepB (n + 3) (x.d c) = true := by
  have two : ∀ (y : D) (z : D) (s : Str), allD b (n + 2) y = z → True := fun _ _ _ _ => trivial
  cases x with
  | set a p =>
    obtain ⟨h1, h2⟩ := h
    have hs := atom_all b (n + 2) (d := .str "set") rfl
    have hp : allD b (n + 2) (plD p) = plD p ∧ deepB (n + 2) (plD p) = true := by cases p <;> exact atom_all b (n + 2) rfl
    have ha : allD b (n + 2) (sq c a) = sq b a ∧ deepB (n + 2) (sq c a) = true := by
      simp only [acts, List.mem_cons, List.mem_nil_iff, or_false] at h1
      rcases h1 with rfl | rfl | rfl
      · exact ⟨all_sq b c (n + 1) _, deep_sq c (n + 1) _ (by decide) fun x hx => nomatch hx⟩
      · exact ⟨all_sq b c (n + 1) _, deep_sq c (n + 1) _ (by decide) fun x hx => by rw [List.mem_singleton.mp hx]; rfl⟩
      · exact ⟨all_sq b c (n + 1) _, deep_sq c (n + 1) _ (by decide) fun x hx => by rw [List.mem_singleton.mp hx]; rfl⟩
    unfold Ins.d
    refine ⟨?_, deep_sq c (n + 2) _ (by simp; decide) fun x hx => ?_⟩
    · rw [all_sq]
      show sq b [allD b (n + 2) (.str "set"), allD b (n + 2) (sq c a), allD b (n + 2) (plD p)] = _
      rw [hs.1, ha.1, hp.1]
    · rcases List.mem_cons.mp hx with rfl | hx
      · exact hs.2
      · rcases List.mem_cons.mp hx with rfl | hx
        · exact ha.2
        · rw [List.mem_singleton.mp hx]; exact hp.2
  | ask i ps =>
    obtain ⟨_, _, h3⟩ := h
    have hs := atom_all b (n + 2) (d := .str "ask") rfl
    have hp := atom_all b (n + 2) (d := .int i) rfl
    have ha : allD b (n + 2) (ways c ps) = ways b ps ∧ deepB (n + 2) (ways c ps) = true := by
      unfold ways
      refine ⟨?_, deep_sq c (n + 1) _ (by rw [List.length_map]; exact Nat.le_trans h3.l9 sl9) fun x hx => ?_⟩
      · rw [all_sq, List.map_map]
        congr 1
        exact List.map_congr_left fun q hq => (way_all b c n (h3.each q hq).1).1
      · obtain ⟨q, hq, rfl⟩ := List.mem_map.mp hx
        exact (way_all b c n (h3.each q hq).1).2
    unfold Ins.d
    refine ⟨?_, deep_sq c (n + 2) _ (by simp; decide) fun x hx => ?_⟩
    · rw [all_sq]
      show sq b [allD b (n + 2) (.str "ask"), allD b (n + 2) (.int i), allD b (n + 2) (ways c ps)] = _
      rw [hs.1, hp.1, ha.1]
    · rcases List.mem_cons.mp hx with rfl | hx
      · exact hs.2
      · rcases List.mem_cons.mp hx with rfl | hx
        · exact hp.2
        · rw [List.mem_singleton.mp hx]; exact ha.2
/-- rows of a code -/
def rowsD (b c : Bool) (rows : List Ins) : D := sq b (rows.map (Ins.d c))
structure RowsOk (rows : List Ins) : Prop where
  l1 : 1 ≤ rows.length
  l2 : rows.length ≤ 2000
  each : ∀ x ∈ rows, x.Ok rows.length
theorem sl2000 : (2000 : Nat) ≤ sizeLine := by decide
theorem fixed_rows (n : Nat) (st : Sto) (b c : Bool) {rows : List Ins} (h : RowsOk rows) : evCall T (n + 5) 5 [rowsD b c rows] st = .ok (rowsD true true rows) st := by
  have hd : deepB 4 (rowsD b c rows) = true := deep_sq b 3 _ (by rw [List.length_map]; exact Nat.le_trans h.l2 sl2000) fun x hx => by
    obtain ⟨y, hy, rfl⟩ := List.mem_map.mp hx
    exact (ins_all true c 0 (h.each y hy)).2
  have e := fixed_v st 4 n _ hd
  rw [show 4 + n + 1 = n + 5 by omega] at e
  rw [e]
  unfold rowsD
  rw [all_sq, List.map_map]
  congr 2
  exact List.map_congr_left fun y hy => (ins_all true c 0 (h.each y hy)).1
theorem listed_rows (n : Nat) (st : Sto) (b c : Bool) {rows : List Ins} (h : RowsOk rows) : evCall T (n + 5) 16 [rowsD b c rows] st = .ok (rowsD false false rows) st := by
  have hd : deepB 4 (rowsD b c rows) = true := deep_sq b 3 _ (by rw [List.length_map]; exact Nat.le_trans h.l2 sl2000) fun x hx => by
    obtain ⟨y, hy, rfl⟩ := List.mem_map.mp hx
    exact (ins_all false c 0 (h.each y hy)).2
  have e := listed2_v st 4 n _ hd
  rw [show 4 + n + 1 = n + 5 by omega] at e
  rw [e]
  unfold rowsD
  rw [all_sq, List.map_map]
  congr 2
  exact List.map_congr_left fun y hy => (ins_all false c 0 (h.each y hy)).1
/-! ### Code.__init__ -/
def codeO (rows : List Ins) (start : Int) : MO := .obj "Code" ["instructions", "start"] [rowsD true true rows, .int start]
theorem init_v (n : Nat) (st : Sto) (k : Nat) (b c : Bool) {rows : List Ins} (h : RowsOk rows) (start : Int) (h0 : 0 ≤ start) (h1 : start < rows.length) (hk : st.get k = some (.obj "Code" [] [])) :
    evCall T (n + 7) 9 [.mrf k, rowsD b c rows, .int start] st = .ok .non (st.set k (codeO rows start)) := by
  rw [call_of (show T[9]? = some ⟨3, 4, b_Code___init__⟩ from rfl) (n + 6) _ _ rfl]
  have hl2 := h.l2
  have hl1 := h.l1
  have hrow := row_v (n + 4) st b (rows.map (Ins.d c)) 1 2000
  rw [List.length_map, decide_eq_true (show (1 : Int) ≤ rows.length ∧ (rows.length : Int) ≤ 2000 by omega)] at hrow
  have hrow : evCall T (n + 6) 4 [rowsD b c rows, .int 1, .int 2000] st = .ok (.bl true) st := hrow
  have hbt := between_v (n + 4) st start 0 ((rows.length : Int) - 1)
  rw [decide_eq_true (show (0 : Int) ≤ start ∧ start ≤ (rows.length : Int) - 1 by omega)] at hbt
  have hfix := fixed_rows (n + 1) st b c h
  have hins := fun x hx => ins_v (n + 1) st c x rows.length (h.each x hx)
  have hlen : fLen st (rowsD b c rows) = some (.int rows.length) := by
    unfold rowsD
    rw [len_sq, List.length_map]
  show resOf _ (b_Code___init__ (evCall T (n + 6)) [some (.mrf k), some (rowsD b c rows), some (.int start), none] st) = _
  generalize evCall T (n + 6) = call at hrow hbt hfix hins ⊢
  have c1 : xComp [3] (.nm 3) (xVar 1) qNil (xCall call 8 (xCons (xVar 3) (xCons (xFn fLen (xVar 1)) (xNil)))) [some (.mrf k), some (rowsD b c rows), some (.int start), none] st = .ok (.lst ((rows.map (Ins.d c)).map fun _ => .bl true)) st := by
    refine comp_map (fun _ => .bl true) (x := rowsD b c rows) (ds := rows.map (Ins.d c)) rfl (it_sq b _ st) (fun d hd => ?_) (by rw [List.length_map]; exact Nat.le_trans hl2 sl2000)
    obtain ⟨y, hy, rfl⟩ := List.mem_map.mp hd
    have := hins y hy
    refine ⟨_, rfl, ?_⟩
    clear hins hfix hbt hrow hk hd
    walk_at "qv"
  have f1 := fall_map (fun _ => true) st (rows.map (Ins.d c))
  have f2 : (rows.map (Ins.d c)).all (fun _ => true) = true := by simp
  rw [f2] at f1
  have s1 := fset_mrf (f := "instructions") (d := rowsD true true rows) (kk := ki) hk (by decide +kernel)
  have g1 : (st.set k (.obj "Code" (addN "instructions" []) (putL "instructions" (rowsD true true rows) [] []))).get k = some (.obj "Code" (addN "instructions" []) (putL "instructions" (rowsD true true rows) [] [])) := Sto.get_set hk
  have s2 := fset_mrf (f := "start") (d := .int start) (kk := ki) g1 (by decide +kernel)
  have s3 : (st.set k (.obj "Code" (addN "instructions" []) (putL "instructions" (rowsD true true rows) [] []))).set k (.obj "Code" (addN "start" (addN "instructions" [])) (putL "start" (.int start) (addN "instructions" []) (putL "instructions" (rowsD true true rows) [] []))) = st.set k (codeO rows start) := by
    rw [Sto.set_set]
    rfl
  generalize st.set k (.obj "Code" (addN "instructions" []) (putL "instructions" (rowsD true true rows) [] [])) = st1 at s1 s2 s3 g1
  generalize st.set k (codeO rows start) = st2 at s3 ⊢
  rw [s3] at s2
  generalize hL : ((rows.map (Ins.d c)).map fun _ => (D.bl true)) = L at c1 f1
  generalize rowsD true true rows = v' at *
  generalize rowsD b c rows = v at *
  clear h hl2 hl1 h0 h1 hins hk f2 s3 g1 hL
  unfold b_Code___init__
  walk_at "qv"
end Law
end
section
set_option Elab.async false
set_option autoImplicit false
set_option linter.all false
set_option maxRecDepth 100000
set_option maxHeartbeats 2000000
/-! k51: codes made and refused, whole. -/
namespace Law
open PySem L2 Qv
local macro_rules | `(tactic| walk_at "qv") => `(tactic| simp [ap_var, ap_lit, ap_2, ap_cmp, ap_chain, ap_and, ap_or, ap_not, ap_neg, ap_ife, ap_nil, ap_cons, ap_ap, ap_sel, ap_tup, ap_lst, ap_mlst, ap_mcopy, ap_ix, ap_onone, ap_osome, ap_sl, ap_call, ap_fn, ap_qnil, ap_qcons, ap_snil, ap_scons, ap_set, ap_par, ap_if, ap_ret, ap_retN, ap_exp, ap_put, ap_frz, ap_drop, ap_fset, ap_raise, go_next, go_ret, go_brk, go_cont, res_next, res_ret, startE, bindT, bindTs,
  add_int, add_str, add_tup, add_lst, sub_int, mul_int, mul_lst, mul_tup, fdiv_int, mod_int, pow_int, len_str, len_tup, len_lst, int_int, int_bl, abs_int, list_lst, list_tup, tuple_lst, tuple_tup, lt_int, le_int, gt_int, ge_int, c_eq, c_ne, c_is, c_nis, c_in, c_nin, eqD_int, eqS_int, ixd_tup, ixd_lst, ixd_rol, ixd_mrf, put_mrf, len_mrf, sl_tup', sl_lst', sl_rol', tr_bl, tr_int, tr_non, asI_int, it_str, it_lst, it_tup, atI_0, atI_1, atI_2, ixN, must, omust, wipeE, *])
/-- a number is used up -/
def up (st : Sto) : Sto := ⟨st.n + 1, st.th, st.tn⟩
def insC (rows : List Ins) (start : Int) : D := .ins "Code" ["instructions", "start"] [rowsD true true rows, .int start]
def Fresh (st : Sto) : Prop := ∀ p, p ∈ st.th → p.1 ≠ st.n
theorem pt_fresh {k : Nat} {m : MO} : ∀ {l : List (Nat × MO)}, (∀ p, p ∈ l → p.1 ≠ k) → Sto.pt k m l = l
  | [], _ => rfl
  | p :: l, h => by
    show (if p.1 = k then (k, m) else (p.1, p.2)) :: Sto.pt k m l = p :: l
    rw [if_neg (h p List.mem_cons_self), pt_fresh fun q hq => h q (List.mem_cons_of_mem _ hq)]
theorem set_new_same {st : Sto} {u m : MO} (h : Fresh st) : (st.new u).set st.n m = st.new m := by
  show (⟨st.n + 1, (if st.n = st.n then (st.n, m) else (st.n, u)) :: Sto.pt st.n m st.th, st.tn⟩ : Sto) = _
  rw [if_pos rfl, pt_fresh h]; rfl
theorem cut_self (st : Sto) : st.cut st.th.length = st := by
  show (⟨st.n, st.th.drop (st.th.length - st.th.length), st.tn⟩ : Sto) = st
  rw [Nat.sub_self]; rfl
theorem cut_new (st : Sto) (u : MO) : (st.new u).cut st.th.length = up st := by
  show (⟨st.n + 1, ((st.n, u) :: st.th).drop (((st.n, u) :: st.th).length - st.th.length), st.tn⟩ : Sto) = _
  rw [List.length_cons, Nat.add_sub_cancel_left]; rfl
section
variable (n : Nat) {st st1 : Sto} {env : En} {es : Ev (List D)} {ds : List D} {sel : List Nat}
theorem mk_v (b c : Bool) {rows : List Ins} (h : RowsOk rows) (start : Int) (h0 : 0 ≤ start) (h1 : start < rows.length) (fr : Fresh st1) (hes : es env st = .ok ds st1) (hp : pickN (.mrf st1.n :: ds) sel = [.mrf st1.n, rowsD b c rows, .int start]) :
    xMk (evCall T (n + 7)) "Code" 9 sel es env st = .ok (insC rows start) (up st1) := by
  have e := init_v n (st1.new (.obj "Code" [] [])) st1.n b c h start h0 h1 Sto.get_new
  rw [set_new_same fr] at e
  have hm : madeD (st1.new (codeO rows start)) st1.n = some (insC rows start, up st1) := by
    unfold madeD
    rw [Sto.get_new]
    show some (insC rows start, (st1.new (codeO rows start)).del st1.n) = _
    rw [Sto.del_new fr]; rfl
  rw [ap_mk, hes, R.bind_ok]
  have e2 : mkR (evCall T (n + 7)) "Code" 9 sel ds st1 = .ok (.mrf st1.n) (st1.new (codeO rows start)) := by
    unfold mkR
    rw [hp, e]
  rw [e2, R.bind_ok]
  show may (madeD _ _) _ = _
  rw [hm]; rfl
/-- a code is refused -/
theorem mkbad_v {c : Str} {ns : List Str} {xs : List D} {v s : D} (e : ∀ st, evCall T (n + 7) 9 [.mrf st1.n, v, s] st = .exc c ns xs st) (hes : es env st = .ok ds st1) (hp : pickN (.mrf st1.n :: ds) sel = [.mrf st1.n, v, s]) :
    xMk (evCall T (n + 7)) "Code" 9 sel es env st = .exc c ns xs (up st1) := by
  rw [ap_mk, hes, R.bind_ok]
  have e2 : mkR (evCall T (n + 7)) "Code" 9 sel ds st1 = .exc c ns xs (up st1) := by
    unfold mkR
    rw [hp, e]
    show R.exc c ns xs ((st1.new _).cut st1.th.length) = _
    rw [cut_new]
  rw [e2]; rfl
end
theorem init_bad1 (n : Nat) (k : Nat) (v s : D) (hrow : ∀ st, evCall T (n + 6) 4 [v, .int 1, .int 2000] st = .ok (.bl false) st) (st : Sto) : evCall T (n + 7) 9 [.mrf k, v, s] st = .exc "BadMachine" ["part"] [.str "instructions"] st := by
  rw [call_of (show T[9]? = some ⟨3, 4, b_Code___init__⟩ from rfl) (n + 6) _ _ rfl]
  have h := hrow st
  have hc := cut_self st
  show resOf st.th.length (b_Code___init__ (evCall T (n + 6)) [some (.mrf k), some v, some s, none] st) = _
  generalize evCall T (n + 6) = call at h ⊢
  have e : b_Code___init__ call [some (.mrf k), some v, some s, none] st = .exc "BadMachine" ["part"] [.str "instructions"] st := by
    clear hc hrow
    unfold b_Code___init__
    walk_at "qv"
  rw [e, res_exc, hc]
theorem init_bad2 (n : Nat) (k : Nat) (b : Bool) (xs : List D) (s : D) (p : D → Bool) (h1 : 1 ≤ xs.length) (h2 : xs.length ≤ 2000) (hx : ∀ st, ∀ d ∈ xs, evCall T (n + 6) 8 [d, .int xs.length] st = .ok (.bl (p d)) st) (hp : xs.all p = false) (st : Sto) :
    evCall T (n + 7) 9 [.mrf k, sq b xs, s] st = .exc "BadMachine" ["part"] [.str "instructions"] st := by
  rw [call_of (show T[9]? = some ⟨3, 4, b_Code___init__⟩ from rfl) (n + 6) _ _ rfl]
  have hrow := row_v (n + 4) st b xs 1 2000
  rw [decide_eq_true (show (1 : Int) ≤ xs.length ∧ (xs.length : Int) ≤ 2000 by omega)] at hrow
  have hlen := len_sq b xs st
  have hx := hx st
  have hc := cut_self st
  show resOf st.th.length (b_Code___init__ (evCall T (n + 6)) [some (.mrf k), some (sq b xs), some s, none] st) = _
  generalize evCall T (n + 6) = call at hrow hx ⊢
  have c1 : xComp [3] (.nm 3) (xVar 1) qNil (xCall call 8 (xCons (xVar 3) (xCons (xFn fLen (xVar 1)) (xNil)))) [some (.mrf k), some (sq b xs), some s, none] st = .ok (.lst (xs.map fun d => .bl (p d))) st := by
    refine comp_map (fun d => .bl (p d)) (x := sq b xs) (ds := xs) rfl (it_sq b _ st) (fun d hd => ?_) (Nat.le_trans h2 sl2000)
    have := hx d hd
    refine ⟨_, rfl, ?_⟩
    clear hx hrow hd hc h1 h2 hp
    walk_at "qv"
  have f1 := fall_map p st xs
  rw [hp] at f1
  have e : b_Code___init__ call [some (.mrf k), some (sq b xs), some s, none] st = .exc "BadMachine" ["part"] [.str "instructions"] st := by
    generalize hL : (xs.map fun d => (D.bl (p d))) = L at c1 f1
    generalize sq b xs = v at *
    clear hc hx h1 h2 hp hL hlen
    unfold b_Code___init__
    walk_at "qv"
  rw [e, res_exc, hc]
theorem init_bad3 (n : Nat) (k : Nat) (b c : Bool) {rows : List Ins} (h : RowsOk rows) (s : D) (hb : ∀ st, evCall T (n + 6) 1 [s, .int 0, .int ((rows.length : Int) - 1)] st = .ok (.bl false) st) (st : Sto) : evCall T (n + 7) 9 [.mrf k, rowsD b c rows, s] st = .exc "BadNumber" ["value"] [s] st := by
  rw [call_of (show T[9]? = some ⟨3, 4, b_Code___init__⟩ from rfl) (n + 6) _ _ rfl]
  have hl2 := h.l2
  have hl1 := h.l1
  have hrow := row_v (n + 4) st b (rows.map (Ins.d c)) 1 2000
  rw [List.length_map, decide_eq_true (show (1 : Int) ≤ rows.length ∧ (rows.length : Int) ≤ 2000 by omega)] at hrow
  have hrow : evCall T (n + 6) 4 [rowsD b c rows, .int 1, .int 2000] st = .ok (.bl true) st := hrow
  have hins := fun x hx => ins_v (n + 1) st c x rows.length (h.each x hx)
  have hlen : fLen st (rowsD b c rows) = some (.int rows.length) := by
    unfold rowsD
    rw [len_sq, List.length_map]
  have hb := hb st
  have hc := cut_self st
  show resOf st.th.length (b_Code___init__ (evCall T (n + 6)) [some (.mrf k), some (rowsD b c rows), some s, none] st) = _
  generalize evCall T (n + 6) = call at hrow hb hins ⊢
  have c1 : xComp [3] (.nm 3) (xVar 1) qNil (xCall call 8 (xCons (xVar 3) (xCons (xFn fLen (xVar 1)) (xNil)))) [some (.mrf k), some (rowsD b c rows), some s, none] st = .ok (.lst ((rows.map (Ins.d c)).map fun _ => .bl true)) st := by
    refine comp_map (fun _ => .bl true) (x := rowsD b c rows) (ds := rows.map (Ins.d c)) rfl (it_sq b _ st) (fun d hd => ?_) (by rw [List.length_map]; exact Nat.le_trans hl2 sl2000)
    obtain ⟨y, hy, rfl⟩ := List.mem_map.mp hd
    have := hins y hy
    refine ⟨_, rfl, ?_⟩
    clear hins hb hrow hd hc
    walk_at "qv"
  have f1 := fall_map (fun _ => true) st (rows.map (Ins.d c))
  have f2 : (rows.map (Ins.d c)).all (fun _ => true) = true := by simp
  rw [f2] at f1
  have e : b_Code___init__ call [some (.mrf k), some (rowsD b c rows), some s, none] st = .exc "BadNumber" ["value"] [s] st := by
    generalize hL : ((rows.map (Ins.d c)).map fun _ => (D.bl true)) = L at c1 f1
    generalize rowsD b c rows = v at *
    clear hc h hl2 hl1 hins f2 hL
    unfold b_Code___init__
    walk_at "qv"
  rw [e, res_exc, hc]
end Law
end
section
set_option Elab.async false
set_option autoImplicit false
set_option linter.all false
set_option maxRecDepth 100000
set_option maxHeartbeats 2000000
/-! k51: codes compared, shown; what is heard. -/
namespace Law
open PySem L2 Qv
local macro_rules | `(tactic| walk_at "qv") => `(tactic| simp [ap_var, ap_lit, ap_2, ap_cmp, ap_chain, ap_and, ap_or, ap_not, ap_neg, ap_ife, ap_nil, ap_cons, ap_ap, ap_sel, ap_tup, ap_lst, ap_mlst, ap_mcopy, ap_ix, ap_onone, ap_osome, ap_sl, ap_call, ap_fn, ap_qnil, ap_qcons, ap_snil, ap_scons, ap_set, ap_par, ap_if, ap_ret, ap_retN, ap_exp, ap_put, ap_frz, ap_drop, ap_fset, ap_raise, go_next, go_ret, go_brk, go_cont, res_next, res_ret, startE, bindT, bindTs,
  add_int, add_str, add_tup, add_lst, sub_int, mul_int, mul_lst, mul_tup, fdiv_int, mod_int, pow_int, len_str, len_tup, len_lst, int_int, int_bl, abs_int, list_lst, list_tup, tuple_lst, tuple_tup, lt_int, le_int, gt_int, ge_int, c_eq, c_ne, c_is, c_nis, c_in, c_nin, eqD_int, eqS_int, ixd_tup, ixd_lst, ixd_rol, ixd_mrf, put_mrf, len_mrf, sl_tup', sl_lst', sl_rol', tr_bl, tr_int, tr_non, asI_int, it_str, it_lst, it_tup, atI_0, atI_1, atI_2, ixN, must, omust, wipeE, *])
/-! ### shown -/
theorem sh_mark {m : D} (h : m ∈ M4) : Sh 0 6 m := by
  simp only [M4, List.mem_cons, List.mem_nil_iff, or_false] at h
  rcases h with rfl | rfl | rfl | rfl
  · exact sh_str (by decide +kernel)
  · exact sh_str (by decide +kernel)
  · exact sh_non.le (Nat.le_refl _) (by decide)
  · exact sh_str (by decide +kernel)
theorem sh_way {q : D × Int} {most : Int} (h : q.1 ∈ M4 ∧ 0 ≤ q.2 ∧ q.2 < most) (hm : most ≤ 300) : Sh 1 19 (wayD true q) := by
  refine (sh_tup (m := 2) (xs := [q.1, .int q.2]) (k := 6) (fun x hx => ?_) (by simp)).le (Nat.le_refl _) (Nat.le_refl _)
  rcases List.mem_cons.mp hx with rfl | hx
  · exact sh_mark h.1
  · rw [List.mem_singleton.mp hx]
    exact (sh_int h.2.1 (by omega)).le (Nat.le_refl _) (by decide)
theorem sh_ins {x : Ins} {most : Int} (h : x.Ok most) (hm : most ≤ 300) : Sh 3 600 (x.d true) := by
  cases x with
  | set a p =>
    obtain ⟨h1, h2⟩ := h
    refine (sh_tup (m := 3) (xs := [.str "set", sq true a, plD p]) (dep := 1) (k := 11) (fun x hx => ?_) (by simp)).le (by decide) (by decide)
    rcases List.mem_cons.mp hx with rfl | hx
    · exact (sh_str (n := 11) (by decide +kernel)).le (by decide) (Nat.le_refl _)
    · rcases List.mem_cons.mp hx with rfl | hx
      · simp only [acts, List.mem_cons, List.mem_nil_iff, or_false] at h1
        have : ∀ y ∈ a, Sh 0 6 y := by
          rcases h1 with rfl | rfl | rfl
          · intro y hy; cases hy
          · intro y hy; rw [List.mem_singleton.mp hy]; exact sh_str (by decide +kernel)
          · intro y hy; rw [List.mem_singleton.mp hy]; exact sh_str (by decide +kernel)
        have hl : a.length ≤ 1 := by rcases h1 with rfl | rfl | rfl <;> decide
        exact sh_tup this hl
      · rw [List.mem_singleton.mp hx]
        cases p with
        | none => exact sh_non.le (by decide) (by decide)
        | some k => exact (sh_int (h2 k rfl).1 (by have := (h2 k rfl).2; omega)).le (by decide) (by decide)
  | ask i ps =>
    obtain ⟨h1, h2, h3⟩ := h
    have hw : Sh 2 192 (ways true ps) := by
      refine (sh_tup (m := 9) (xs := ps.map (wayD true)) (dep := 1) (k := 19) (fun x hx => ?_) (by rw [List.length_map]; exact h3.l9)).le (Nat.le_refl _) (by decide)
      obtain ⟨q, hq, rfl⟩ := List.mem_map.mp hx
      exact sh_way (h3.each q hq) hm
    refine (sh_tup (m := 3) (xs := [.str "ask", .int i, ways true ps]) (dep := 2) (k := 192) (fun x hx => ?_) (by simp)).le (Nat.le_refl _) (by decide)
    rcases List.mem_cons.mp hx with rfl | hx
    · exact (sh_str (n := 192) (by decide +kernel)).le (by decide) (Nat.le_refl _)
    · rcases List.mem_cons.mp hx with rfl | hx
      · exact (sh_int h1 (by omega)).le (by decide) (by decide)
      · rw [List.mem_singleton.mp hx]; exact hw
theorem sh_rowsD {rows : List Ins} (h : RowsOk rows) (hm : rows.length ≤ 300) : Sh 4 180700 (rowsD true true rows) := by
  refine (sh_tup (m := 300) (xs := rows.map (Ins.d true)) (dep := 3) (k := 600) (fun x hx => ?_) (by rw [List.length_map]; exact hm)).le (Nat.le_refl _) (by decide)
  obtain ⟨y, hy, rfl⟩ := List.mem_map.mp hx
  exact sh_ins (h.each y hy) (by omega)
/-! ### own ==, len -/
section
variable (n : Nat) (st : Sto)
theorem eq_rows (r r' : List Ins) (s s' : Int) (b : Bool) (he : eqD (rowsD true true r) (rowsD true true r') = some b) : evCall T (n + 1) 10 [insC r s, insC r' s'] st = .ok (.bl (b && decide (s = s'))) st := by
  rw [call_of (show T[10]? = some ⟨2, 2, b_Code___eq__⟩ from rfl) n _ _ rfl]
  have e1 := eqS_of (st := st) he
  have f1 : fFld kn ki "instructions" st (insC r s) = some (rowsD true true r) := rfl
  have f2 : fFld kn ki "instructions" st (insC r' s') = some (rowsD true true r') := rfl
  have f3 : fFld kn ki "start" st (insC r s) = some (.int s) := rfl
  have f4 : fFld kn ki "start" st (insC r' s') = some (.int s') := rfl
  have hi : fIsc kn ki ["Code"] st (insC r' s') = some (.bl true) := rfl
  show resOf _ (b_Code___eq__ (evCall T n) [some (insC r s), some (insC r' s')] st) = _
  obtain ⟨x, hx⟩ : ∃ x, insC r s = x := ⟨_, rfl⟩
  obtain ⟨y, hy⟩ : ∃ y, insC r' s' = y := ⟨_, rfl⟩
  obtain ⟨p, hp⟩ : ∃ p, rowsD true true r = p := ⟨_, rfl⟩
  obtain ⟨p', hp'⟩ : ∃ p', rowsD true true r' = p' := ⟨_, rfl⟩
  rw [hx] at f1 f3 ⊢
  rw [hy] at f2 f4 hi ⊢
  rw [hp] at e1 f1
  rw [hp'] at e1 f2
  clear he hx hy hp hp'
  unfold b_Code___eq__
  cases b <;> walk_at "qv"
theorem eq_tup (r : List Ins) (s : Int) (xs : List D) : evCall T (n + 1) 10 [insC r s, .tup xs] st = .ok (.bl false) st := by
  rw [call_of (show T[10]? = some ⟨2, 2, b_Code___eq__⟩ from rfl) n _ _ rfl]
  have hi : fIsc kn ki ["Code"] st (.tup xs) = some (.bl false) := rfl
  show resOf _ (b_Code___eq__ (evCall T n) [some (insC r s), some (.tup xs)] st) = _
  generalize insC r s = x at *
  unfold b_Code___eq__
  walk_at "qv"
theorem own_eq_v {call : Ca} (neg : Bool) {r : List Ins} {s : Int} {y : D} {b : Bool} (hy : (kdOf st y).isSome = true ∨ (instOf kn ki st y).isSome = true) (e : call 10 [insC r s, y] st = .ok (.bl b) st) : oEq call neg tEq kn ki st (insC r s) y = .ok (.bl (if neg then !b else b)) st := by
  show may (lkM "Code" tEq) (fun p => must _ ((call p.1 (pickN [insC r s, y] p.2) st).bind _)) = _
  have h : lkM "Code" tEq = some (10, [0, 1]) := by decide +kernel
  rw [h, may_some, must_pos hy]
  show ((call 10 [insC r s, y] st).bind _) = _
  rw [e]; rfl
theorem len_code (r : List Ins) (s : Int) : evCall T (n + 1) 11 [insC r s] st = .ok (.int r.length) st := by
  rw [call_of (show T[11]? = some ⟨1, 1, b_Code___len__⟩ from rfl) n _ _ rfl]
  have f1 : fFld kn ki "instructions" st (insC r s) = some (rowsD true true r) := rfl
  have f2 : fLen st (rowsD true true r) = some (.int r.length) := by unfold rowsD; rw [len_sq, List.length_map]
  show resOf _ (b_Code___len__ (evCall T n) [some (insC r s)] st) = _
  obtain ⟨x, hx⟩ : ∃ x, insC r s = x := ⟨_, rfl⟩
  obtain ⟨p, hp⟩ : ∃ p, rowsD true true r = p := ⟨_, rfl⟩
  rw [hx] at f1 ⊢
  rw [hp] at f1 f2
  clear hx hp
  unfold b_Code___len__
  walk_at "qv"
theorem lt63 {N : Nat} (h : N ≤ 2000) : (N : Int) < 2 ^ 63 := Int.lt_of_le_of_lt (Int.ofNat_le.mpr h) (by decide)
theorem own_len_v {call : Ca} (r : List Ins) (s : Int) (hl : r.length ≤ 2000) (e : call 11 [insC r s] st = .ok (.int r.length) st) : oLen call tLen st (insC r s) = .ok (.int r.length) st := by
  have h : lkM "Code" tLen = some (11, [0]) := by decide +kernel
  have hc : clsD st (insC r s) = some (("Code" : Str), (["instructions", "start"] : List Str)) := rfl
  have key : ∀ (f : D → Sto → R D), (∀ i : Int, ∀ st, f (.int i) st = must (0 ≤ i ∧ i < 2 ^ 63) (.ok (.int i) st)) → (may (lkM "Code" tLen) fun p => (call p.1 (pickN [insC r s] p.2) st).bind f) = .ok (.int r.length) st := by
    intro f hf
    rw [h, may_some]
    have e' : call (10 + 1) (pickN [insC r s] [0]) st = .ok (.int r.length) st := e
    rw [show ((11, [0]) : Nat × List Nat).1 = 10 + 1 from rfl, show ((11, [0]) : Nat × List Nat).2 = [0] from rfl, e', R.bind_ok, hf]
    exact must_pos ⟨Int.natCast_nonneg _, lt63 hl⟩ _
  unfold oLen
  rw [hc]
  exact key _ fun i st => rfl
/-! ### what is heard -/
theorem heard_machine : heardR hdv (.exc "BadMachine" ["part"] [.str "instructions"] st) = .ok (.ret (.tup [.str "machine", .str "instructions"])) st := by kernel_rfl
def lows (many : Int) : List D := [.non, .int (-1), .int many, .bl true, .str "0", .tup [.int 0], .int (10 ^ 20)]
def shownOf (d : D) : Str := match toP d with
  | some p => p.shown
  | none => Str.empty
theorem heard_number (many : Int) (hm : 1 ≤ many ∧ many ≤ 7) (d : D) (hd : d ∈ lows many) : heardR hdv (.exc "BadNumber" ["value"] [d] st) = .ok (.ret (.tup [.str "number", .str (shownOf d)])) st ∧ fRepr st d = some (.str (shownOf d)) ∧ PyData.strOk (shownOf d) = true := by
  have hm' : many = 1 ∨ many = 2 ∨ many = 3 ∨ many = 4 ∨ many = 5 ∨ many = 6 ∨ many = 7 := by omega
  simp only [lows, List.mem_cons, List.mem_nil_iff, or_false] at hd
  rcases hm' with rfl | rfl | rfl | rfl | rfl | rfl | rfl <;> rcases hd with rfl | rfl | rfl | rfl | rfl | rfl | rfl <;> exact ⟨by kernel_rfl, by kernel_rfl, by kernel_rfl⟩
end
end Law
end
section
set_option Elab.async false
set_option autoImplicit false
set_option linter.all false
set_option maxRecDepth 100000
set_option maxHeartbeats 4000000
/-! k51: what is no instruction. -/
namespace Law
open PySem L2 Qv
local macro_rules | `(tactic| walk_at "qv") => `(tactic| simp [ap_var, ap_lit, ap_2, ap_cmp, ap_chain, ap_and, ap_or, ap_not, ap_neg, ap_ife, ap_nil, ap_cons, ap_ap, ap_sel, ap_tup, ap_lst, ap_mlst, ap_mcopy, ap_ix, ap_onone, ap_osome, ap_sl, ap_call, ap_fn, ap_qnil, ap_qcons, ap_snil, ap_scons, ap_set, ap_par, ap_if, ap_ret, ap_retN, ap_exp, ap_put, ap_frz, ap_drop, ap_fset, ap_raise, go_next, go_ret, go_brk, go_cont, res_next, res_ret, startE, bindT, bindTs,
  add_int, add_str, add_tup, add_lst, sub_int, mul_int, mul_lst, mul_tup, fdiv_int, mod_int, pow_int, len_str, len_tup, len_lst, int_int, int_bl, abs_int, list_lst, list_tup, tuple_lst, tuple_tup, lt_int, le_int, gt_int, ge_int, c_eq, c_ne, c_is, c_nis, c_in, c_nin, eqD_int, eqS_int, ixd_tup, ixd_lst, ixd_rol, ixd_mrf, put_mrf, len_mrf, sl_tup', sl_lst', sl_rol', tr_bl, tr_int, tr_non, asI_int, it_str, it_lst, it_tup, atI_0, atI_1, atI_2, ixN, must, omust, wipeE, *])
def wrongs0 : List D := [.non, .int 5, .tup [], .str "set", .tup [.str "set"], .tup [.str "set", .tup []], .tup [.str "set", .tup [], .int 0, .int 0], .tup [.str "else", .tup [], .int 0], .tup [.int 5, .tup [], .int 0], .tup [.str "Set", .tup [], .int 0]]
def badActs : List D := [.non, .int 5, .str "on", .tup [.str "On"], .tup [.int 5], .tup [.str "a", .str "a", .str "a", .str "a", .str "a"], .tup [.str ""]]
def wrongs1 (many : Int) (a : D) : List D := [.tup [.str "set", a, .int 0], .tup [.str "set", .tup [], .int many], .tup [.str "set", .tup [], .int (-1)], .tup [.str "set", .tup [], .bl true], .tup [.str "set", .tup [], .str "0"]]
def badWays (many : Int) : List D := [.non, .int 5, .tup [], .dct [] [], .tup [.tup [.str "no", .int many]], .tup [.tup [.str "no", .int (-1)]], .tup [.tup [.str "no", .non]], .tup [.tup [.str "No", .int 0]], .tup [.tup [.int 5, .int 0]], .tup [.tup [.str "no", .int 0], .tup [.str "no", .int 0]], .tup [.tup [.str "no"]], .tup [.str "no", .int 0], .tup [.tup [.non, .int 0], .tup [.non, .int 0]],
  .tup [.tup [.str "ma", .int 0], .tup [.str "mb", .int 0], .tup [.str "mc", .int 0], .tup [.str "md", .int 0], .tup [.str "me", .int 0], .tup [.str "mf", .int 0], .tup [.str "mg", .int 0], .tup [.str "mh", .int 0], .tup [.str "mi", .int 0], .tup [.str "mj", .int 0]]]
def wrongs2 (w : D) : List D := [.tup [.str "ask", .int 0, w], .tup [.str "ask", .int 3, .tup [.tup [.str "no", .int 0]]], .tup [.str "ask", .int (-1), .tup [.tup [.str "no", .int 0]]], .tup [.str "ask", .bl true, .tup [.tup [.str "no", .int 0]]], .tup [.str "ask", .non, .tup [.tup [.str "no", .int 0]]]]
def Wrong (many : Int) (w : D) : Prop := w ∈ wrongs0 ∨ (∃ a ∈ badActs, w ∈ wrongs1 many a) ∨ ∃ y ∈ badWays many, w ∈ wrongs2 y
theorem wrong_no (n : Nat) (st : Sto) (many : Int) (hm : 1 ≤ many ∧ many ≤ 7) (w : D) (h : Wrong many w) : evCall T (n + 6) 8 [w, .int many] st = .ok (.bl false) st := by
  have hm' : many = 1 ∨ many = 2 ∨ many = 3 ∨ many = 4 ∨ many = 5 ∨ many = 6 ∨ many = 7 := by omega
  rcases h with h | ⟨a, ha, h⟩ | ⟨y, hy, h⟩
  · simp only [wrongs0, List.mem_cons, List.mem_nil_iff, or_false] at h
    rcases hm' with rfl | rfl | rfl | rfl | rfl | rfl | rfl <;> rcases h with rfl | rfl | rfl | rfl | rfl | rfl | rfl | rfl | rfl | rfl <;> kernel_rfl
  · simp only [badActs, wrongs1, List.mem_cons, List.mem_nil_iff, or_false] at ha h
    rcases h with rfl | rfl | rfl | rfl | rfl
    · rcases hm' with rfl | rfl | rfl | rfl | rfl | rfl | rfl <;> rcases ha with rfl | rfl | rfl | rfl | rfl | rfl | rfl <;> kernel_rfl
    · clear ha
      rcases hm' with rfl | rfl | rfl | rfl | rfl | rfl | rfl <;> kernel_rfl
    · clear ha
      rcases hm' with rfl | rfl | rfl | rfl | rfl | rfl | rfl <;> kernel_rfl
    · clear ha
      rcases hm' with rfl | rfl | rfl | rfl | rfl | rfl | rfl <;> kernel_rfl
    · clear ha
      rcases hm' with rfl | rfl | rfl | rfl | rfl | rfl | rfl <;> kernel_rfl
  · simp only [wrongs2, List.mem_cons, List.mem_nil_iff, or_false] at h
    rcases h with rfl | rfl | rfl | rfl | rfl
    · simp only [badWays, List.mem_cons, List.mem_nil_iff, or_false] at hy
      rcases hm' with rfl | rfl | rfl | rfl | rfl | rfl | rfl <;> rcases hy with rfl | rfl | rfl | rfl | rfl | rfl | rfl | rfl | rfl | rfl | rfl | rfl | rfl | rfl <;> kernel_rfl
    · clear hy
      rcases hm' with rfl | rfl | rfl | rfl | rfl | rfl | rfl <;> kernel_rfl
    · clear hy
      rcases hm' with rfl | rfl | rfl | rfl | rfl | rfl | rfl <;> kernel_rfl
    · clear hy
      rcases hm' with rfl | rfl | rfl | rfl | rfl | rfl | rfl <;> kernel_rfl
    · clear hy
      rcases hm' with rfl | rfl | rfl | rfl | rfl | rfl | rfl <;> kernel_rfl
/-- what is no row of instructions -/
def badRows : List D := [.non, .int 5, .tup [], .lst [], .dct [] [], .str "code", .lst (List.replicate 2001 (.tup [.str "set", .lst [], .non]))]
theorem bad_no (n : Nat) (st : Sto) (d : D) (h : d ∈ badRows) : evCall T (n + 6) 4 [d, .int 1, .int 2000] st = .ok (.bl false) st := by
  simp only [badRows, List.mem_cons, List.mem_nil_iff, or_false] at h
  rcases h with rfl | rfl | rfl | rfl | rfl | rfl | rfl
  · kernel_rfl
  · kernel_rfl
  · kernel_rfl
  · kernel_rfl
  · kernel_rfl
  · kernel_rfl
  · have e := row_v (n + 4) st false (List.replicate 2001 (.tup [.str "set", .lst [], .non])) 1 2000
    rw [List.length_replicate, decide_eq_false (by decide)] at e
    exact e
/-- what is no start -/
theorem low_no (n : Nat) (st : Sto) (many : Int) (hm : 1 ≤ many ∧ many ≤ 7) (d : D) (h : d ∈ lows many) : evCall T (n + 6) 1 [d, .int 0, .int (many - 1)] st = .ok (.bl false) st := by
  have hm' : many = 1 ∨ many = 2 ∨ many = 3 ∨ many = 4 ∨ many = 5 ∨ many = 6 ∨ many = 7 := by omega
  simp only [lows, List.mem_cons, List.mem_nil_iff, or_false] at h
  rcases hm' with rfl | rfl | rfl | rfl | rfl | rfl | rfl <;> rcases h with rfl | rfl | rfl | rfl | rfl | rfl | rfl <;> kernel_rfl
end Law
end
section
set_option Elab.async false
set_option autoImplicit false
set_option linter.all false
set_option maxRecDepth 100000
set_option maxHeartbeats 4000000
/-! k51: what is drawn wrong. -/
namespace Law
open PySem L2 Qv
theorem sl1 : 1 ≤ sizeLine := by decide
theorem sl2 : 2 ≤ sizeLine := by decide
theorem sl3 : 3 ≤ sizeLine := by decide
theorem sl4 : 4 ≤ sizeLine := by decide
theorem sl5 : 5 ≤ sizeLine := by decide
theorem sl6 : 6 ≤ sizeLine := by decide
theorem sl7 : 7 ≤ sizeLine := by decide
theorem sl8 : 8 ≤ sizeLine := by decide
theorem sl10 : 10 ≤ sizeLine := by decide
theorem sl11 : 11 ≤ sizeLine := by decide
theorem sl12 : 12 ≤ sizeLine := by decide
theorem sl13 : 13 ≤ sizeLine := by decide
theorem sl14 : 14 ≤ sizeLine := by decide
theorem sl15 : 15 ≤ sizeLine := by decide
theorem sl16 : 16 ≤ sizeLine := by decide
local macro_rules | `(tactic| walk_at "qv") => `(tactic| simp [ap_var, ap_lit, ap_2, ap_cmp, ap_chain, ap_and, ap_or, ap_not, ap_neg, ap_ife, ap_nil, ap_cons, ap_ap, ap_sel, ap_tup, ap_lst, ap_mlst, ap_mcopy, ap_ix, ap_onone, ap_osome, ap_sl, ap_call, ap_fn, ap_qnil, ap_qcons, ap_snil, ap_scons, ap_set, ap_par, ap_if, ap_ret, ap_retN, ap_exp, ap_put, ap_frz, ap_drop, ap_fset, ap_raise, go_next, go_ret, go_brk, go_cont, res_next, res_ret, startE, bindT, bindTs,
  add_int, add_str, add_tup, add_lst, sub_int, mul_int, mul_lst, mul_tup, fdiv_int, mod_int, pow_int, len_str, len_tup, len_lst, int_int, int_bl, abs_int, list_lst, list_tup, tuple_lst, tuple_tup, lt_int, le_int, gt_int, ge_int, c_eq, c_ne, c_is, c_nis, c_in, c_nin, eqD_int, eqS_int, ixd_tup, ixd_lst, ixd_rol, ixd_mrf, put_mrf, len_mrf, sl_tup', sl_lst', sl_rol', tr_bl, tr_int, tr_non, asI_int, it_str, it_lst, it_tup, atI_0, atI_1, atI_2, ixN, must, omust, wipeE, sl1, sl2, sl3, sl4, sl5, sl6, sl7, sl8, sl9, sl10, sl11, sl12, sl13, sl14, sl15, sl16, *])
/-- the store of the law: the pen alone -/
abbrev PS (m : Nat) (c : List Int) (t l : Int) : Sto := ⟨m, [(0, penM c t l)], ["law"]⟩
theorem ps_get (m : Nat) (c : List Int) (t l : Int) : (PS m c t l).get 0 = some (penM c t l) := rfl
theorem ps_set (m : Nat) (c : List Int) (t l t' l' : Int) : (PS m c t l).set 0 (penM c t' l') = PS m c t' l' := rfl
section
variable (n m : Nat) (c : List Int) (t l : Int)
theorem draw_P (many : Int) (hm : 0 < many) (hm2 : many < 1073741824) (ht : 0 ≤ t) (ht2 : t < 10000000) : ∃ r t' l', evCall T (n + 1) 13 [.mrf 0, .int many] (PS m c t l) = .ok (.int r) (PS m c t' l') ∧ 0 ≤ r ∧ r < many ∧ t ≤ t' ∧ t' ≤ t + 1 := by
  obtain ⟨r, t', l', e, h⟩ := draw_v (T := T) (id := 13) rfl n (PS m c t l) 0 c t l many (ps_get m c t l) hm hm2 ht ht2
  exact ⟨r, t', l', e, h⟩
theorem pick_P (xs : List D) (h0 : xs ≠ []) (h1 : xs.length < 1000000) (ht : 0 ≤ t) (ht2 : t < 10000000) : ∃ x t' l', evCall T (n + 2) 14 [.mrf 0, .lst xs] (PS m c t l) = .ok x (PS m c t' l') ∧ x ∈ xs ∧ t ≤ t' ∧ t' ≤ t + 1 := by
  obtain ⟨r, t', l', e, h⟩ := pick_v (T := T) (id := 13) (ip := 14) rfl rfl n (PS m c t l) 0 c t l xs (ps_get m c t l) h0 h1 ht ht2
  exact ⟨r, t', l', e, h⟩
end
theorem wrong_v (n m : Nat) (c : List Int) (t l : Int) (many : Int) (hm : 1 ≤ many ∧ many ≤ 7) (ht : 0 ≤ t) (ht2 : t < 9000000) (hmm : m ≠ 0) : ∃ w m' t' l', evCall T (n + 3) 18 [.mrf 0, .int many] (PS m c t l) = .ok w (PS m' c t' l') ∧ m ≤ m' ∧ Wrong many w ∧ t ≤ t' ∧ t' ≤ t + 3 := by
  rw [call_of (show T[18]? = some ⟨2, 6, b__law_wrong⟩ from rfl) (n + 2) _ _ rfl]
  obtain ⟨r, t1, l1, e1, r0, r1, q1, q2⟩ := draw_P (n + 1) m c t l 3 (by decide) (by decide) ht (by omega)
  have hp := fun m c t l xs h0 h1 ht ht2 => pick_P n m c t l xs h0 h1 ht ht2
  show ∃ w m' t' l', resOf _ (b__law_wrong (evCall T (n + 2)) [some (.mrf 0), some (.int many), none, none, none, none] (PS m c t l)) = _ ∧ _
  generalize evCall T (n + 2) = call at e1 hp ⊢
  have hr : r = 0 ∨ r = 1 ∨ r = 2 := by omega
  rcases hr with rfl | rfl | rfl
  · obtain ⟨w, t2, l2, e2, w1, q3, q4⟩ := hp m c t1 l1 wrongs0 (by decide) (by decide) (by omega) (by omega)
    refine ⟨w, m, t2, l2, ?_, Nat.le_refl _, .inl w1, by omega, by omega⟩
    unfold wrongs0 at e2
    clear hp w1 ht ht2 q1 q2 q3 q4 r0 r1 hm hmm
    unfold b__law_wrong
    walk_at "qv"
  · obtain ⟨a, t2, l2, e2, w1, q3, q4⟩ := hp m c t1 l1 badActs (by decide) (by decide) (by omega) (by omega)
    obtain ⟨w, t3, l3, e3, w2, q5, q6⟩ := hp m c t2 l2 (wrongs1 many a) (by simp [wrongs1]) (by simp [wrongs1]) (by omega) (by omega)
    refine ⟨w, m, t3, l3, ?_, Nat.le_refl _, .inr (.inl ⟨a, w1, w2⟩), by omega, by omega⟩
    unfold badActs at e2
    unfold wrongs1 at e3
    clear hp w1 w2 ht ht2 q1 q2 q3 q4 q5 q6 r0 r1 hm hmm
    unfold b__law_wrong
    walk_at "qv"
  · obtain ⟨y, t2, l2, e2, w1, q3, q4⟩ := hp (m + 1) c t1 l1 (badWays many) (by simp [badWays]) (by simp [badWays]) (by omega) (by omega)
    obtain ⟨w, t3, l3, e3, w2, q5, q6⟩ := hp (m + 1) c t2 l2 (wrongs2 y) (by simp [wrongs2]) (by simp [wrongs2]) (by omega) (by omega)
    refine ⟨w, m + 1, t3, l3, ?_, Nat.le_succ _, .inr (.inr ⟨y, w1, w2⟩), by omega, by omega⟩
    obtain ⟨base, hbase⟩ : ∃ base : List D, base = [.non, .int 5, .tup [], .dct [] [], .tup [.tup [.str "no", .int many]], .tup [.tup [.str "no", .int (-1)]], .tup [.tup [.str "no", .non]], .tup [.tup [.str "No", .int 0]], .tup [.tup [.int 5, .int 0]], .tup [.tup [.str "no", .int 0], .tup [.str "no", .int 0]], .tup [.tup [.str "no"]], .tup [.str "no", .int 0], .tup [.tup [.non, .int 0], .tup [.non, .int 0]]] := ⟨_, rfl⟩
    obtain ⟨ten, hten⟩ : ∃ ten : D, ten = .tup [.tup [.str "ma", .int 0], .tup [.str "mb", .int 0], .tup [.str "mc", .int 0], .tup [.str "md", .int 0], .tup [.str "me", .int 0], .tup [.str "mf", .int 0], .tup [.str "mg", .int 0], .tup [.str "mh", .int 0], .tup [.str "mi", .int 0], .tup [.str "mj", .int 0]] := ⟨_, rfl⟩
    have hbw : badWays many = base ++ [ten] := by rw [hbase, hten]; rfl
    have hbl : base.length = 13 := by rw [hbase]; rfl
    have tail : ∀ st, xFn fTuple (xComp [5] (.nm 5) (xLit (.str "abcdefghij")) qNil (xTup (xCons (x2 bAdd (xLit (.str "m")) (xVar 5)) (xCons (xLit (.int 0)) (xNil))))) [some (.mrf 0), some (.int many), some (.int 2), none, some (.mrf m), none] st = .ok ten st := by
      intro st
      rw [hten]
      kernel_rfl
    have g1 : ((PS m c t1 l1).new (.lst base)).get m = some (.lst base) := Sto.get_new
    have fr : ∀ p, p ∈ (PS m c t1 l1).th → p.1 ≠ (PS m c t1 l1).n := fun p hp => by
      rw [List.mem_singleton.mp hp]
      exact fun z => hmm z.symm
    have happ : xApp (xVar 4) (xFn fTuple (xComp [5] (.nm 5) (xLit (.str "abcdefghij")) qNil (xTup (xCons (x2 bAdd (xLit (.str "m")) (xVar 5)) (xCons (xLit (.int 0)) (xNil)))))) [some (.mrf 0), some (.int many), some (.int 2), none, some (.mrf m), none] ((PS m c t1 l1).new (.lst base)) = .ok .non ((PS m c t1 l1).new (.lst (badWays many))) := by
      rw [ap_app]
      show must (liveM _ (.mrf m) = true) _ = _
      rw [must_pos (live_mrf _ g1), tail, R.bind_ok, app_mrf _ _ g1 (by rw [hbl]; decide), may_some, hbw]
      have := set_new_same (u := .lst base) (m := .lst (base ++ [ten])) (st := PS m c t1 l1) fr
      exact congrArg (R.ok D.non) this
    have hfz : frzD [some (.mrf 0), some (.int many), some (.int 2), none, some (.mrf m), none] ((PS m c t1 l1).new (.lst (badWays many))) 4 = some ([some (.mrf 0), some (.int many), some (.int 2), none, some (.lst (badWays many)), none], PS (m + 1) c t1 l1) := by
      show (stillD ((PS m c t1 l1).new (.lst (badWays many))) m).map _ = _
      unfold stillD
      have g2 : ((PS m c t1 l1).new (.lst (badWays many))).get m = some (.lst (badWays many)) := Sto.get_new
      rw [g2]
      show some (_, ((PS m c t1 l1).new (.lst (badWays many))).del m) = _
      have := Sto.del_new (u := .lst (badWays many)) fr
      exact congrArg (fun z => some (([some (.mrf 0), some (.int many), some (.int 2), none, some (.lst (badWays many)), none] : En), z)) this
    unfold wrongs2 at e3
    generalize hst1 : (PS m c t1 l1).new (.lst base) = st1 at happ g1
    rw [hbase] at hst1
    clear hp w1 w2 ht ht2 q1 q2 q3 q4 q5 q6 r0 r1 hm tail fr hbw hbl g1 hmm hten hbase
    generalize (PS m c t1 l1).new (.lst (badWays many)) = st2 at *
    generalize badWays many = bw at *
    unfold b__law_wrong
    walk_at "qv"
end Law
end
section
set_option Elab.async false
set_option autoImplicit false
set_option linter.all false
set_option maxRecDepth 100000
set_option maxHeartbeats 4000000
/-! k51: rows mixed. -/
namespace Law
open PySem L2 Qv
local macro_rules | `(tactic| walk_at "qv") => `(tactic| simp [ap_var, ap_lit, ap_2, ap_cmp, ap_chain, ap_and, ap_or, ap_not, ap_neg, ap_ife, ap_nil, ap_cons, ap_ap, ap_sel, ap_tup, ap_lst, ap_mlst, ap_mcopy, ap_ix, ap_onone, ap_osome, ap_sl, ap_call, ap_fn, ap_qnil, ap_qcons, ap_snil, ap_scons, ap_set, ap_par, ap_if, ap_ret, ap_retN, ap_exp, ap_put, ap_frz, ap_drop, ap_fset, ap_raise, ap_app, ap_pop, go_next, go_ret, go_brk, go_cont, res_next, res_ret, startE, bindT, bindTs,
  add_int, add_str, add_tup, add_lst, sub_int, mul_int, mul_lst, mul_tup, fdiv_int, mod_int, pow_int, len_str, len_tup, len_lst, int_int, int_bl, abs_int, list_lst, list_tup, tuple_lst, tuple_tup, lt_int, le_int, gt_int, ge_int, c_eq, c_ne, c_is, c_nis, c_in, c_nin, eqD_int, eqS_int, ixd_tup, ixd_lst, ixd_rol, ixd_mrf, put_mrf, len_mrf, sl_tup', sl_lst', sl_rol', tr_bl, tr_int, tr_non, asI_int, it_str, it_lst, it_tup, atI_0, atI_1, atI_2, ixN, must, omust, wipeE, sl1, sl2, sl3, sl4, sl5, sl6, sl7, sl8, sl9, sl10, sl11, sl12, sl13, sl14, sl15, sl16, *])
/-- the store while rows are mixed: what is left, what was found, upon st -/
def MX (st : Sto) (xs ys : List D) : Sto := (st.new (.lst xs)).new (.lst ys)
section
variable {st : Sto} {xs ys : List D}
theorem mx_left : (MX st xs ys).get st.n = some (.lst xs) := by
  unfold MX
  rw [Sto.get_new_ne (show (st.new (.lst xs)).n ≠ st.n from Nat.succ_ne_self _), Sto.get_new]
theorem mx_found : (MX st xs ys).get (st.n + 1) = some (.lst ys) := Sto.get_new (st := st.new (.lst xs))
theorem mx_pen {p : Nat} (h1 : p ≠ st.n) (h2 : p ≠ st.n + 1) : (MX st xs ys).get p = st.get p := by
  unfold MX
  rw [Sto.get_new_ne (show (st.new (.lst xs)).n ≠ p from fun z => h2 z.symm), Sto.get_new_ne (fun z => h1 z.symm)]
theorem mx_set_pen {p : Nat} {m : MO} (h1 : p ≠ st.n) (h2 : p ≠ st.n + 1) : (MX st xs ys).set p m = MX (st.set p m) xs ys := by
  unfold MX
  rw [Sto.set_new (show (st.new (.lst xs)).n ≠ p from fun z => h2 z.symm), Sto.set_new (fun z => h1 z.symm)]
theorem mx_set_left {zs : List D} (fr : Fresh st) : (MX st xs ys).set st.n (.lst zs) = MX st zs ys := by
  unfold MX
  rw [Sto.set_new (show (st.new (.lst xs)).n ≠ st.n from Nat.succ_ne_self _), set_new_same fr]
theorem mx_set_found {zs : List D} (fr : Fresh (st.new (.lst xs))) : (MX st xs ys).set (st.n + 1) (.lst zs) = MX st xs zs := set_new_same (st := st.new (.lst xs)) fr
theorem pop_mrf {k : Nat} {zs : List D} {i : Nat} {d : D} (h : st.get k = some (.lst zs)) (hi : zs[i]? = some d) (hl : zs.length < 9223372036854775808) : popD st (.mrf k) (.int i) = some (d, st.set k (.lst (zs.eraseIdx i))) := by
  show (match st.get k with | some (.lst xs) => (ixN xs.length i).bind fun n => if xs.length < 9223372036854775808 then (xs[n]?).map fun d => (d, st.set k (.lst (xs.eraseIdx n))) else none | _ => none) = _
  rw [h]
  have hn : ixN zs.length (i : Int) = some i := by
    have := (List.getElem?_eq_some_iff.mp hi).1
    unfold ixN
    rw [if_pos (by omega), if_pos (by omega)]
    rfl
  show ((ixN zs.length (i : Int)).bind fun n => if zs.length < 9223372036854775808 then (zs[n]?).map fun d => (d, st.set k (.lst (zs.eraseIdx n))) else none) = _
  rw [hn]
  show (if zs.length < 9223372036854775808 then (zs[i]?).map fun d => (d, st.set k (.lst (zs.eraseIdx i))) else none) = _
  rw [if_pos hl, hi]; rfl
end
def mixBody (call : Ca) : Ex := sCons (sExp (xApp (xVar 3) (xPopAt (xVar 2) (xCall call 13 (xCons (xVar 0) (xCons (xFn fLen (xVar 2)) (xNil))))))) (sNil)
theorem mix_one (n : Nat) (st : Sto) (p : Nat) (c : List Int) (t l : Int) (xs ys : List D) (some_ i : Option D) (fr : Fresh st) (fr2 : Fresh (st.new (.lst []))) (h1 : p ≠ st.n) (h2 : p ≠ st.n + 1) (hp : st.get p = some (penM c t l)) (ht : 0 ≤ t) (ht2 : t < 10000000) (hx : xs ≠ []) (hxl : xs.length < 1000) (hyl : ys.length < 1000) :
    ∃ j d t' l', xs[j]? = some d ∧ t ≤ t' ∧ t' ≤ t + 1 ∧ mixBody (evCall T (n + 1)) [some (.mrf p), some_, some (.mrf st.n), some (.mrf (st.n + 1)), i] (MX st xs ys) =
      .ok (.next [some (.mrf p), some_, some (.mrf st.n), some (.mrf (st.n + 1)), i]) (MX (st.set p (penM c t' l')) (xs.eraseIdx j) (ys ++ [d])) := by
  have hl : 0 < xs.length := List.length_pos_iff.mpr hx
  obtain ⟨r, t', l', e, q0, q1, q2, q3⟩ := draw_v (T := T) (id := 13) rfl n (MX st xs ys) p c t l xs.length (by rw [mx_pen h1 h2]; exact hp) (by omega) (by omega) ht ht2
  obtain ⟨j, hj⟩ := Int.eq_ofNat_of_zero_le q0
  subst hj
  have hj : j < xs.length := by omega
  refine ⟨j, xs[j], t', l', List.getElem?_eq_getElem hj, q2, q3, ?_⟩
  rw [mx_set_pen h1 h2] at e
  have frp : ∀ u v : MO, Fresh ((st.set p u).new v) := fun u v q hq => by
    rcases List.mem_cons.mp hq with z | z
    · rw [z]; exact fun z => Nat.succ_ne_self _ z.symm
    · rcases Sto.mem_pt (j := q.1) (u := q.2) z with ⟨z1, _, _⟩ | ⟨_, z1⟩
      · exact fun z => h2 (z1.symm.trans z)
      · exact fr2 q (List.mem_cons_of_mem _ z1)
  have frs : ∀ u : MO, Fresh (st.set p u) := fun u q hq => by
    rcases Sto.mem_pt (j := q.1) (u := q.2) hq with ⟨z1, _, _⟩ | ⟨_, z1⟩
    · exact fun z => h1 (z1.symm.trans z)
    · exact fr q z1
  have live1 := live_mrf _ (mx_found (st := st) (xs := xs) (ys := ys))
  have live2 := live_mrf _ (mx_left (st := st) (xs := xs) (ys := ys))
  have hlen := len_mrf _ (mx_left (st := st) (xs := xs) (ys := ys))
  have hpop := pop_mrf (i := j) (mx_left (st := st.set p (penM c t' l')) (xs := xs) (ys := ys)) (List.getElem?_eq_getElem hj) (by omega)
  rw [show (st.set p (penM c t' l')).n = st.n from rfl] at hpop
  have hs1 := mx_set_left (st := st.set p (penM c t' l')) (xs := xs) (ys := ys) (zs := xs.eraseIdx j) (frs _)
  rw [show (st.set p (penM c t' l')).n = st.n from rfl] at hs1
  rw [hs1] at hpop
  have happ := app_mrf _ xs[j] (mx_found (st := st.set p (penM c t' l')) (xs := xs.eraseIdx j) (ys := ys)) (Nat.lt_of_lt_of_le hyl (by decide))
  rw [show (st.set p (penM c t' l')).n = st.n from rfl] at happ
  have hs2 := mx_set_found (st := st.set p (penM c t' l')) (xs := xs.eraseIdx j) (ys := ys) (zs := ys ++ [xs[j]]) (frp _ _)
  rw [show (st.set p (penM c t' l')).n = st.n from rfl] at hs2
  rw [hs2] at happ
  generalize evCall T (n + 1) = call at e ⊢
  generalize xs[j] = d at *
  generalize MX (st.set p (penM c t' l')) (xs.eraseIdx j) (ys ++ [d]) = st3 at *
  generalize MX (st.set p (penM c t' l')) (xs.eraseIdx j) ys = st2 at *
  generalize MX (st.set p (penM c t' l')) xs ys = st1 at *
  generalize MX st xs ys = st0 at *
  clear fr fr2 frp frs hs1 hs2 h1 h2 hp ht ht2 hx hxl hyl hl q0 q1 q2 q3 hj
  unfold mixBody
  walk_at "qv"
theorem fresh_set {st : Sto} {p : Nat} {u : MO} (h1 : p ≠ st.n) (fr : Fresh st) : Fresh (st.set p u) := fun q hq => by
  rcases Sto.mem_pt (j := q.1) (u := q.2) hq with ⟨z1, _, _⟩ | ⟨_, z1⟩
  · exact fun z => h1 (z1.symm.trans z)
  · exact fr q z1
theorem fresh_set2 {st : Sto} {p : Nat} {u v w : MO} (h2 : p ≠ st.n + 1) (fr : Fresh (st.new v)) : Fresh ((st.set p u).new w) := fun q hq => by
  rcases List.mem_cons.mp hq with z | z
  · rw [z]; exact fun z => Nat.succ_ne_self _ z.symm
  · rcases Sto.mem_pt (j := q.1) (u := q.2) z with ⟨z1, _, _⟩ | ⟨_, z1⟩
    · exact fun z => h2 (z1.symm.trans z)
    · exact fr q (List.mem_cons_of_mem _ z1)
theorem erase_perm {α : Type} : ∀ {xs : List α} {j : Nat} {d : α}, xs[j]? = some d → (d :: xs.eraseIdx j).Perm xs
  | [], j, d, h => by simp at h
  | x :: xs, 0, d, h => by simp at h; subst h; exact List.Perm.refl _
  | x :: xs, j + 1, d, h => by
    have ih := erase_perm (show xs[j]? = some d by simpa using h)
    exact (List.Perm.swap x d _).trans (ih.cons x)
/-- the same store but for the pen -/
def Pens (p : Nat) (st st2 : Sto) : Prop := st2 = st ∨ ∃ m, st2 = st.set p m
theorem mix_loop (n : Nat) (p : Nat) (c : List Int) (some_ : Option D) : ∀ (ds : List D) (st : Sto) (xs ys : List D) (t l : Int) (i : Option D), ds.length = xs.length → Fresh st → Fresh (st.new (.lst [])) → p ≠ st.n → p ≠ st.n + 1 → st.get p = some (penM c t l) → 0 ≤ t → t + xs.length < 10000000 → ys.length + xs.length < 1000 →
    ∃ zs st2 t' l' i', Pens p st st2 ∧ st2.get p = some (penM c t' l') ∧ forR (.nm 4) (mixBody (evCall T (n + 1))) [some (.mrf p), some_, some (.mrf st.n), some (.mrf (st.n + 1)), i] ds (MX st xs ys) =
      .ok (.next [some (.mrf p), some_, some (.mrf st.n), some (.mrf (st.n + 1)), i']) (MX st2 [] (ys ++ zs)) ∧ zs.Perm xs ∧ t ≤ t' ∧ t' ≤ t + xs.length
  | [], st, xs, ys, t, l, i, hl, fr, fr2, h1, h2, hp, ht, ht2, hy => by
    have e : xs = [] := List.length_eq_zero_iff.mp hl.symm
    subst e
    exact ⟨[], st, t, l, i, .inl rfl, hp, by rw [forR_nil, List.append_nil], List.Perm.nil, Int.le_refl _, by simp⟩
  | d :: ds, st, xs, ys, t, l, i, hl, fr, fr2, h1, h2, hp, ht, ht2, hy => by
    have hx : xs ≠ [] := fun z => by rw [z] at hl; cases hl
    obtain ⟨j, d', t1, l1, hj, q1, q2, e1⟩ := mix_one n st p c t l xs ys some_ (some d) fr fr2 h1 h2 hp ht (by omega) hx (by omega) (by omega)
    have hj' := (List.getElem?_eq_some_iff.mp hj).1
    have hel : (xs.eraseIdx j).length = xs.length - 1 := by rw [List.length_eraseIdx, if_pos hj']
    have hxl : 0 < xs.length := List.length_pos_iff.mpr hx
    obtain ⟨zs, st2, t2, l2, i2, hP, hg, e2, pz, q3, q4⟩ := mix_loop n p c some_ ds (st.set p (penM c t1 l1)) (xs.eraseIdx j) (ys ++ [d']) t1 l1 (some d) (by rw [hel]; simp at hl; omega) (fresh_set h1 fr) (fresh_set2 h2 fr2) h1 h2 (Sto.get_set hp) (by omega) (by rw [hel]; omega) (by rw [hel, List.length_append, List.length_singleton]; omega)
    refine ⟨d' :: zs, st2, t2, l2, i2, ?_, hg, ?_, ?_, by omega, by rw [hel] at q4; omega⟩
    · rcases hP with rfl | ⟨m, rfl⟩
      · exact .inr ⟨_, rfl⟩
      · exact .inr ⟨m, by rw [Sto.set_set]⟩
    · rw [forR_cons]
      show (mixBody (evCall T (n + 1)) [some (.mrf p), some_, some (.mrf st.n), some (.mrf (st.n + 1)), some d] (MX st xs ys)).bind _ = _
      rw [e1, R.bind_ok]
      rw [show (st.set p (penM c t1 l1)).n = st.n from rfl, List.append_assoc] at e2
      exact e2
    · exact (pz.cons d').trans (erase_perm hj)
end Law
end
section
set_option Elab.async false
set_option autoImplicit false
set_option linter.all false
set_option maxRecDepth 100000
set_option maxHeartbeats 4000000
/-! k51: _law_mixed. -/
namespace Law
open PySem L2 Qv
local macro_rules | `(tactic| walk_at "qv") => `(tactic| simp [ap_var, ap_lit, ap_2, ap_cmp, ap_chain, ap_and, ap_or, ap_not, ap_neg, ap_ife, ap_nil, ap_cons, ap_ap, ap_sel, ap_tup, ap_lst, ap_mlst, ap_mcopy, ap_ix, ap_onone, ap_osome, ap_sl, ap_call, ap_fn, ap_qnil, ap_qcons, ap_snil, ap_scons, ap_set, ap_par, ap_if, ap_ret, ap_retN, ap_exp, ap_put, ap_frz, ap_drop, ap_fset, ap_raise, ap_app, ap_pop, go_next, go_ret, go_brk, go_cont, res_next, res_ret, startE, bindT, bindTs,
  add_int, add_str, add_tup, add_lst, sub_int, mul_int, mul_lst, mul_tup, fdiv_int, mod_int, pow_int, len_str, len_tup, len_lst, int_int, int_bl, abs_int, list_lst, list_tup, tuple_lst, tuple_tup, lt_int, le_int, gt_int, ge_int, c_eq, c_ne, c_is, c_nis, c_in, c_nin, eqD_int, eqS_int, ixd_tup, ixd_lst, ixd_rol, ixd_mrf, put_mrf, len_mrf, sl_tup', sl_lst', sl_rol', tr_bl, tr_int, tr_non, asI_int, it_str, it_lst, it_tup, atI_0, atI_1, atI_2, ixN, must, omust, wipeE, sl1, sl2, sl3, sl4, sl5, sl6, sl7, sl8, sl9, sl10, sl11, sl12, sl13, sl14, sl15, sl16, *])
theorem mx_end {st : Sto} {xs ys : List D} (fr : Fresh st) (fr2 : Fresh (st.new (.lst xs))) : ((MX st xs ys).del (st.n + 1)).del st.n = up (up st) := by
  unfold MX
  have e := Sto.del_new (st := st.new (.lst xs)) (u := .lst ys) fr2
  rw [show (st.new (.lst xs)).n = st.n + 1 from rfl] at e
  rw [e]
  show (⟨st.n + 1 + 1, Sto.rm st.n ((st.n, MO.lst xs) :: st.th), st.tn⟩ : Sto) = _
  have e2 := Sto.del_new (st := st) (u := .lst xs) fr
  have e3 : Sto.rm st.n ((st.n, MO.lst xs) :: st.th) = st.th := congrArg Sto.th e2
  rw [e3]; rfl
theorem pens_n {p : Nat} {st st2 : Sto} (h : Pens p st st2) : st2.n = st.n := by
  rcases h with rfl | ⟨m, rfl⟩ <;> rfl
theorem mixed_v (n : Nat) (p : Nat) (c : List Int) (st : Sto) (xs : List D) (t l : Int) (fr : Fresh st) (fr2 : Fresh (st.new (.lst []))) (h1 : p ≠ st.n) (h2 : p ≠ st.n + 1) (hp : st.get p = some (penM c t l)) (ht : 0 ≤ t) (ht2 : t < 9000000) (hy : xs.length < 1000) :
    ∃ zs st2 t' l', Pens p st st2 ∧ st2.get p = some (penM c t' l') ∧ evCall T (n + 2) 15 [.mrf p, .lst xs] st = .ok (.lst zs) (up (up st2)) ∧ zs.Perm xs ∧ t ≤ t' ∧ t' ≤ t + xs.length := by
  obtain ⟨zs, st2, t', l', i', hP, hg, e, pz, q1, q2⟩ := mix_loop n p c (some (.lst xs)) (rangeD xs.length) st xs [] t l none (by simp [rangeD]) fr fr2 h1 h2 hp ht (by omega) (by simpa using hy)
  refine ⟨zs, st2, t', l', hP, hg, ?_, pz, q1, q2⟩
  rw [call_of (show T[15]? = some ⟨2, 5, b__law_mixed⟩ from rfl) (n + 1) _ _ rfl]
  have hn := pens_n hP
  have f1 : Fresh st2 := by
    rcases hP with rfl | ⟨m, rfl⟩
    · exact fr
    · exact fresh_set h1 fr
  have f2 : Fresh (st2.new (.lst [])) := by
    rcases hP with rfl | ⟨m, rfl⟩
    · exact fr2
    · exact fresh_set2 h2 fr2
  have hend := mx_end (ys := [] ++ zs) f1 f2
  rw [hn] at hend
  have gf : (MX st2 [] ([] ++ zs)).get (st.n + 1) = some (.lst ([] ++ zs)) := by rw [← hn]; exact mx_found
  have body : b__law_mixed (evCall T (n + 1)) = sCons (sPar 2 3 (xMcopy (xVar 1)) (xMlst (xNil))) (sCons (sRange (.nm 4) (xFn fLen (xVar 1)) (mixBody (evCall T (n + 1)))) (sCons (sFrz 3) (sCons (sDrop 2) (sCons (sRet (xVar 3)) (sNil))))) := rfl
  have h0 : startE 5 [.mrf p, .lst xs] = [some (.mrf p), some (.lst xs), none, none, none] := rfl
  dsimp only
  rw [h0]
  rw [body]
  generalize mixBody (evCall T (n + 1)) = B at e ⊢
  have s1 : sPar 2 3 (xMcopy (xVar 1)) (xMlst (xNil)) [some (.mrf p), some (.lst xs), none, none, none] st = .ok (.next [some (.mrf p), some (.lst xs), some (.mrf st.n), some (.mrf (st.n + 1)), none]) (MX st xs []) := by
    have a1 : xMcopy (xVar 1) [some (.mrf p), some (.lst xs), none, none, none] st = .ok (.mrf st.n) (st.new (.lst xs)) := rfl
    have a2 : xMlst xNil [some (.mrf p), some (.lst xs), none, none, none] (st.new (.lst xs)) = .ok (.mrf (st.n + 1)) (MX st xs []) := by
      rw [ap_mlst, ap_nil, R.bind_ok, must_pos (show ([] : List D).length ≤ sizeLine from Nat.zero_le _)]; rfl
    rw [ap_par, a1, R.bind_ok, a2, R.bind_ok]; rfl
  have s2 : sRange (.nm 4) (xFn fLen (xVar 1)) B [some (.mrf p), some (.lst xs), some (.mrf st.n), some (.mrf (st.n + 1)), none] (MX st xs []) = .ok (.next [some (.mrf p), some (.lst xs), some (.mrf st.n), some (.mrf (st.n + 1)), i']) (MX st2 [] ([] ++ zs)) := by
    have hx : xFn fLen (xVar 1) [some (.mrf p), some (.lst xs), some (.mrf st.n), some (.mrf (st.n + 1)), none] (MX st xs []) = .ok (.int ((xs.length : Nat) : Int)) (MX st xs []) := rfl
    rw [ap_range, hx, R.bind_ok, asI_int, may_some]
    have hb : -(2 ^ 62) ≤ ((xs.length : Nat) : Int) ∧ ((xs.length : Nat) : Int) < 2 ^ 62 := ⟨by omega, by omega⟩
    rw [must_pos hb, Int.toNat_natCast]
    exact e
  have s3 : sFrz 3 [some (.mrf p), some (.lst xs), some (.mrf st.n), some (.mrf (st.n + 1)), i'] (MX st2 [] ([] ++ zs)) = .ok (.next [some (.mrf p), some (.lst xs), some (.mrf st.n), some (.lst ([] ++ zs)), i']) ((MX st2 [] ([] ++ zs)).del (st.n + 1)) := by
    show may ((stillD (MX st2 [] ([] ++ zs)) (st.n + 1)).map _) _ = _
    unfold stillD
    rw [gf]; rfl
  rw [ap_scons, s1, R.bind_ok, go_next, ap_scons, s2, R.bind_ok, go_next, ap_scons, s3, R.bind_ok, go_next, ap_scons]
  show resOf _ (((sDrop 2 _ _).bind _)) = _
  rw [show sDrop 2 [some (.mrf p), some (.lst xs), some (.mrf st.n), some (.lst ([] ++ zs)), i'] ((MX st2 [] ([] ++ zs)).del (st.n + 1)) = .ok (.next [some (.mrf p), some (.lst xs), some (.mrf st.n), some (.lst ([] ++ zs)), i']) (((MX st2 [] ([] ++ zs)).del (st.n + 1)).del st.n) from rfl, R.bind_ok, hend]
  rfl
end Law
end
section
set_option Elab.async false
set_option autoImplicit false
set_option linter.all false
set_option maxRecDepth 100000
set_option maxHeartbeats 4000000
/-! k51: draws while rows are made: the store holds the pen and the rows so far. -/
namespace Law
open PySem L2 Qv
/-- the pen, and the rows made so far (at k) -/
def RS (m k : Nat) (rs : List D) (c : List Int) (t l : Int) : Sto := ⟨m, [(k, .lst rs), (0, penM c t l)], ["law"]⟩
section
variable {m k : Nat} {rs : List D} {c : List Int} {t l : Int}
theorem rs_pen (hk : k ≠ 0) : (RS m k rs c t l).get 0 = some (penM c t l) := by
  show (if k = 0 then _ else (if (0 : Nat) = 0 then _ else _)) = _
  rw [if_neg hk]; rfl
theorem rs_rows : (RS m k rs c t l).get k = some (.lst rs) := by
  show (if k = k then _ else _) = _
  rw [if_pos rfl]
theorem rs_set (hk : k ≠ 0) (t' l' : Int) : (RS m k rs c t l).set 0 (penM c t' l') = RS m k rs c t' l' := by
  show (⟨m, Sto.pt 0 (penM c t' l') [(k, .lst rs), (0, penM c t l)], ["law"]⟩ : Sto) = _
  unfold RS
  simp [Sto.pt, hk]
theorem rs_put (hk : k ≠ 0) (rs' : List D) : (RS m k rs c t l).set k (.lst rs') = RS m k rs' c t l := by
  show (⟨m, Sto.pt k (.lst rs') [(k, .lst rs), (0, penM c t l)], ["law"]⟩ : Sto) = _
  unfold RS
  simp [Sto.pt, Ne.symm hk]
theorem rs_fresh (h0 : 0 < m) (hk : k < m) : Fresh (RS m k rs c t l) := fun p hp => by
  rcases List.mem_cons.mp hp with z | z
  · rw [z]; exact Nat.ne_of_lt hk
  · rw [List.mem_singleton.mp z]; exact Nat.ne_of_lt h0
theorem rs_fresh2 (v : MO) (h0 : 0 < m) (hk : k < m) : Fresh ((RS m k rs c t l).new v) := fun p hp => by
  have hm : ((RS m k rs c t l).new v).n = m + 1 := rfl
  rw [hm]
  rcases List.mem_cons.mp hp with z | z
  · rw [z]; exact Nat.ne_of_lt (Nat.lt_succ_self _)
  · rcases List.mem_cons.mp z with z | z
    · rw [z]; exact Nat.ne_of_lt (Nat.lt_succ_of_lt hk)
    · rw [List.mem_singleton.mp z]; exact Nat.ne_of_lt (Nat.lt_succ_of_lt h0)
end
theorem draw_R (n m k : Nat) (rs : List D) (c : List Int) (t l many : Int) (hk : k ≠ 0) (hm : 0 < many) (hm2 : many < 1073741824) (ht : 0 ≤ t) (ht2 : t < 10000000) : ∃ r t' l', evCall T (n + 1) 13 [.mrf 0, .int many] (RS m k rs c t l) = .ok (.int r) (RS m k rs c t' l') ∧ 0 ≤ r ∧ r < many ∧ t ≤ t' ∧ t' ≤ t + 1 := by
  obtain ⟨r, t', l', e, h⟩ := draw_v (T := T) (id := 13) rfl n (RS m k rs c t l) 0 c t l many (rs_pen hk) hm hm2 ht ht2
  rw [rs_set hk] at e
  exact ⟨r, t', l', e, h⟩
theorem pick_R (n m k : Nat) (rs : List D) (c : List Int) (t l : Int) (xs : List D) (hk : k ≠ 0) (h0 : xs ≠ []) (h1 : xs.length < 1000000) (ht : 0 ≤ t) (ht2 : t < 10000000) : ∃ x t' l', evCall T (n + 2) 14 [.mrf 0, .lst xs] (RS m k rs c t l) = .ok x (RS m k rs c t' l') ∧ x ∈ xs ∧ t ≤ t' ∧ t' ≤ t + 1 := by
  obtain ⟨r, t', l', e, h⟩ := pick_v (T := T) (id := 13) (ip := 14) rfl rfl n (RS m k rs c t l) 0 c t l xs (rs_pen hk) h0 h1 ht ht2
  rw [rs_set hk] at e
  exact ⟨r, t', l', e, h⟩
theorem mixed_R (n m k : Nat) (rs : List D) (c : List Int) (t l : Int) (xs : List D) (h0 : 0 < m) (hk : k < m) (hk0 : k ≠ 0) (ht : 0 ≤ t) (ht2 : t < 9000000) (hy : xs.length < 1000) :
    ∃ zs t' l', evCall T (n + 2) 15 [.mrf 0, .lst xs] (RS m k rs c t l) = .ok (.lst zs) (RS (m + 2) k rs c t' l') ∧ zs.Perm xs ∧ t ≤ t' ∧ t' ≤ t + xs.length := by
  obtain ⟨zs, st2, t', l', hP, hg, e, pz, q1, q2⟩ := mixed_v n 0 c (RS m k rs c t l) xs t l (rs_fresh h0 hk) (rs_fresh2 _ h0 hk) (Nat.ne_of_lt h0) (Nat.ne_of_lt (Nat.lt_succ_of_lt h0)) (rs_pen hk0) ht ht2 hy
  refine ⟨zs, t', l', ?_, pz, q1, q2⟩
  rw [e]
  have : st2 = RS m k rs c t' l' := by
    rcases hP with h | ⟨u, h⟩
    · have h2 : (RS m k rs c t l).set 0 (penM c t' l') = st2 := by
        rw [h] at hg
        rw [rs_pen hk0] at hg
        have hg := Option.some.inj hg
        rw [← hg, rs_set hk0, h]
      rw [← h2, rs_set hk0]
    · rw [h, Sto.get_set (rs_pen hk0)] at hg
      rw [h, Option.some.inj hg, rs_set hk0]
  rw [this]
  rfl
end Law
end
section
set_option Elab.async false
set_option autoImplicit false
set_option linter.all false
set_option maxRecDepth 100000
set_option maxHeartbeats 4000000
/-! k51: comprehensions that draw; marks and places zipped. -/
namespace Law
open PySem L2 Qv
theorem comp_draws {m k : Nat} {rs : List D} {c : List Int} {i : Nat} {env : En} {elt : Ev D} (many : Int)
    (ok : ∀ d t l, 0 ≤ t → t < 10000000 → ∃ r t' l', elt (env.set i (some d)) (RS m k rs c t l) = .ok (.int r) (RS m k rs c t' l') ∧ 0 ≤ r ∧ r < many ∧ t ≤ t' ∧ t' ≤ t + 1) :
    ∀ (ds acc : List D) (t l : Int), 0 ≤ t → t + ds.length < 10000000 → acc.length + ds.length ≤ sizeLine →
      ∃ qs : List Int, ∃ t' l', compR (.nm i) env qNil elt acc ds (RS m k rs c t l) = .ok (acc ++ qs.map D.int) (RS m k rs c t' l') ∧ qs.length = ds.length ∧ (∀ q ∈ qs, 0 ≤ q ∧ q < many) ∧ t ≤ t' ∧ t' ≤ t + ds.length
  | [], acc, t, l, ht, ht2, hl => ⟨[], t, l, by rw [compR_nil]; simp, rfl, fun q hq => (List.not_mem_nil hq).elim, Int.le_refl _, by simp⟩
  | d :: ds, acc, t, l, ht, ht2, hl => by
    rw [List.length_cons] at ht2 hl
    obtain ⟨r, t1, l1, e1, a0, a1, a2, a3⟩ := ok d t l ht (by omega)
    obtain ⟨qs, t2, l2, e2, b0, b1, b2, b3⟩ := comp_draws many ok ds (acc ++ [.int r]) t1 l1 (by omega) (by omega) (by rw [List.length_append, List.length_singleton]; omega)
    refine ⟨r :: qs, t2, l2, ?_, by rw [List.length_cons, List.length_cons, b0], fun q hq => ?_, by omega, by rw [List.length_cons]; omega⟩
    · rw [compR_cons]
      rw [show bindT (.nm i) d env = some (env.set i (some d)) from rfl, may_some, ap_qnil, R.bind_ok, if_pos rfl, e1, R.bind_ok, must_pos (by omega), e2, List.append_assoc]
      rfl
    · rcases List.mem_cons.mp hq with z | z
      · rw [z]; exact ⟨a0, a1⟩
      · exact b1 q z
end Law
end
section
set_option Elab.async false
set_option autoImplicit false
set_option linter.all false
set_option maxRecDepth 100000
set_option maxHeartbeats 4000000
/-! k51: marks with places. -/
namespace Law
open PySem L2 Qv
/-- marks and places together -/
theorem zip_ways : ∀ (ms : List D) (qs : List Int), zip0 ms (qs.map D.int) = (ms.zip qs).map fun q => .tup [q.1, .int q.2]
  | [], qs => by cases qs <;> rfl
  | m :: ms, [] => rfl
  | m :: ms, q :: qs => by
    show D.tup [m, .int q] :: zip0 ms (qs.map D.int) = _
    rw [zip_ways ms qs]; rfl
theorem ways_ok {ms zs : List D} {qs : List Int} {many : Int} (hp : zs.Perm M4) (hs : ms <+: zs) (h1 : 1 ≤ ms.length) (hq : qs.length = ms.length) (hr : ∀ q ∈ qs, 0 ≤ q ∧ q < many) : WaysOk many (ms.zip qs) where
  l1 := by rw [List.length_zip, hq, Nat.min_self]; exact h1
  l9 := by
    rw [List.length_zip, hq, Nat.min_self]
    have := hs.length_le
    have := hp.length_eq
    have : M4.length = 4 := rfl
    omega
  each := fun q h => by
    obtain ⟨a, b⟩ := List.of_mem_zip (a := q.1) (b := q.2) h
    exact ⟨hp.mem_iff.mp (hs.subset a), hr _ b⟩
  nd := by
    rw [List.map_fst_zip (by omega)]
    have nd : zs.Nodup := hp.nodup_iff.mpr (by simp [M4]; exact ⟨⟨by decide, by decide⟩, by decide⟩)
    exact hs.sublist.nodup nd
end Law
end
section
set_option Elab.async false
set_option autoImplicit false
set_option linter.all false
set_option maxRecDepth 100000
set_option maxHeartbeats 4000000
/-! k51: one row made. -/
namespace Law
open PySem L2 Qv
local macro_rules | `(tactic| walk_at "qv") => `(tactic| simp [ap_var, ap_lit, ap_2, ap_cmp, ap_chain, ap_and, ap_or, ap_not, ap_neg, ap_ife, ap_nil, ap_cons, ap_ap, ap_sel, ap_tup, ap_lst, ap_mlst, ap_mcopy, ap_ix, ap_onone, ap_osome, ap_sl, ap_call, ap_fn, ap_qnil, ap_qcons, ap_snil, ap_scons, ap_set, ap_par, ap_if, ap_ret, ap_retN, ap_exp, ap_put, ap_frz, ap_drop, ap_fset, ap_raise, ap_app, ap_pop, go_next, go_ret, go_brk, go_cont, res_next, res_ret, startE, bindT, bindTs,
  add_int, add_str, add_tup, add_lst, sub_int, mul_int, mul_lst, mul_tup, fdiv_int, mod_int, pow_int, len_str, len_tup, len_lst, int_int, int_bl, abs_int, list_lst, list_tup, tuple_lst, tuple_tup, lt_int, le_int, gt_int, ge_int, c_eq, c_ne, c_is, c_nis, c_in, c_nin, eqD_int, eqS_int, ixd_tup, ixd_lst, ixd_rol, ixd_mrf, put_mrf, len_mrf, sl_tup', sl_lst', sl_rol', tr_bl, tr_int, tr_non, asI_int, it_str, it_lst, it_tup, atI_0, atI_1, atI_2, ixN, must, omust, wipeE, sl1, sl2, sl3, sl4, sl5, sl6, sl7, sl8, sl9, sl10, sl11, sl12, sl13, sl14, sl15, sl16, *])

def anyPick (call : Ca) : Ev D := xCall call 14 (xCons (xVar 0) (xCons (xLst (xCons (xTup (xCons (xLit (.str "on")) (xNil))) (xCons (xTup (xCons (xLit (.str "off")) (xNil))) (xNil)))) (xNil)))
def anyGo (call : Ca) : Ev D := xIfe (xCmp cEq (xCall call 13 (xCons (xVar 0) (xCons (xLit (.int 6)) (xNil)))) (xLit (.int 0))) (xLit .non) (xCall call 13 (xCons (xVar 0) (xCons (xVar 1) (xNil))))
def anySet (call : Ca) : Ex := sCons (sExp (xApp (xVar 2) (xTup (xCons (xLit (.str "set")) (xCons (anyPick call) (xCons (anyGo call) (xNil))))))) (sNil)
theorem go_v (n m k : Nat) (rs : List D) (c : List Int) (t l many : Int) (x2 x3 x4 x5 x6 x7 x8 : Option D) (hk : k ≠ 0) (hm : 1 ≤ many ∧ many ≤ 7) (ht : 0 ≤ t) (ht2 : t < 9000000) :
    ∃ o t' l', anyGo (evCall T (n + 1)) [some (.mrf 0), some (.int many), x2, x3, x4, x5, x6, x7, x8] (RS m k rs c t l) = .ok (plD o) (RS m k rs c t' l') ∧ (∀ q, o = some q → 0 ≤ q ∧ q < many) ∧ t ≤ t' ∧ t' ≤ t + 2 := by
  obtain ⟨r, t1, l1, e1, a0, a1, a2, a3⟩ := draw_R n m k rs c t l 6 hk (by decide) (by decide) ht (by omega)
  obtain ⟨r2, t2, l2, e2, b0, b1, b2, b3⟩ := draw_R n m k rs c t1 l1 many hk (by omega) (by omega) (by omega) (by omega)
  generalize evCall T (n + 1) = call at e1 e2 ⊢
  by_cases h : r = 0
  · subst h
    refine ⟨none, t1, l1, ?_, fun q hq => (by cases hq), a2, by omega⟩
    generalize RS m k rs c t1 l1 = s1 at *
    generalize RS m k rs c t l = s0 at *
    clear e2 a0 a1 a2 a3 b0 b1 b2 b3 hk hm ht ht2
    unfold anyGo plD
    walk_at "qv"
  · refine ⟨some r2, t2, l2, ?_, fun q hq => (by cases hq; exact ⟨b0, b1⟩), by omega, by omega⟩
    generalize RS m k rs c t1 l1 = s1 at *
    generalize RS m k rs c t2 l2 = s2 at *
    generalize RS m k rs c t l = s0 at *
    clear a0 a1 a2 a3 b0 b1 b2 b3 hk hm ht ht2
    unfold anyGo plD
    walk_at "qv"
theorem set_one (n m k : Nat) (rs : List D) (c : List Int) (t l many : Int) (x3 x4 x5 x6 x7 x8 : Option D) (hk : k ≠ 0) (hm : 1 ≤ many ∧ many ≤ 7) (ht : 0 ≤ t) (ht2 : t < 8000000) (hl : rs.length < 1000) :
    ∃ x t' l', anySet (evCall T (n + 2)) [some (.mrf 0), some (.int many), some (.mrf k), x3, x4, x5, x6, x7, x8] (RS m k rs c t l) = .ok (.next [some (.mrf 0), some (.int many), some (.mrf k), x3, x4, x5, x6, x7, x8]) (RS m k (rs ++ [Ins.d true x]) c t' l') ∧ x.Ok many ∧ t ≤ t' ∧ t' ≤ t + 3 := by
  obtain ⟨a, t1, l1, e1, a0, a2, a3⟩ := pick_R n m k rs c t l [.tup [.str "on"], .tup [.str "off"]] hk (by decide) (by decide) ht (by omega)
  obtain ⟨o, t2, l2, e2, b0, b2, b3⟩ := go_v (n + 1) m k rs c t1 l1 many (some (.mrf k)) x3 x4 x5 x6 x7 x8 hk hm (by omega) (by omega)
  obtain ⟨s, hs, hs2⟩ : ∃ s, a = .tup s ∧ s ∈ acts := by
    simp only [List.mem_cons, List.mem_nil_iff, or_false] at a0
    rcases a0 with rfl | rfl
    · exact ⟨_, rfl, by simp [acts]⟩
    · exact ⟨_, rfl, by simp [acts]⟩
  subst hs
  refine ⟨.set s o, t2, l2, ?_, ⟨hs2, b0⟩, by omega, by omega⟩
  have live := live_mrf _ (rs_rows (m := m) (k := k) (rs := rs) (c := c) (t := t) (l := l))
  have happ := app_mrf _ ((Ins.set s o).d true) (rs_rows (m := m) (k := k) (rs := rs) (c := c) (t := t2) (l := l2)) (Nat.lt_of_lt_of_le hl (by decide))
  rw [rs_put hk] at happ
  show anySet _ _ _ = _
  have hd : (Ins.set s o).d true = .tup [.str "set", .tup s, plD o] := rfl
  rw [hd] at happ ⊢
  have e1 : anyPick (evCall T (n + 2)) [some (.mrf 0), some (.int many), some (.mrf k), x3, x4, x5, x6, x7, x8] (RS m k rs c t l) = .ok (.tup s) (RS m k rs c t1 l1) := e1
  unfold anySet
  generalize anyPick (evCall T (n + 2)) = P at e1 ⊢
  generalize anyGo (evCall T (n + 2)) = G at e2 ⊢
  generalize RS m k (rs ++ [D.tup [.str "set", .tup s, plD o]]) c t2 l2 = s3 at *
  generalize RS m k rs c t1 l1 = s1 at *
  generalize RS m k rs c t2 l2 = s2 at *
  generalize RS m k rs c t l = s0 at *
  generalize plD o = g at *
  clear a0 a2 a3 b0 b2 b3 hk hm ht ht2 hl hs2 hd
  walk_at "qv"
end Law
end
section
set_option Elab.async false
set_option autoImplicit false
set_option linter.all false
set_option maxRecDepth 100000
set_option maxHeartbeats 4000000
/-! k51: marks, places. -/
namespace Law
open PySem L2 Qv
local macro_rules | `(tactic| walk_at "qv") => `(tactic| simp [ap_var, ap_lit, ap_2, ap_cmp, ap_chain, ap_and, ap_or, ap_not, ap_neg, ap_ife, ap_nil, ap_cons, ap_ap, ap_sel, ap_tup, ap_lst, ap_mlst, ap_mcopy, ap_ix, ap_onone, ap_osome, ap_sl, ap_call, ap_fn, ap_qnil, ap_qcons, ap_snil, ap_scons, ap_set, ap_par, ap_if, ap_ret, ap_retN, ap_exp, ap_put, ap_frz, ap_drop, ap_fset, ap_raise, ap_app, ap_pop, go_next, go_ret, go_brk, go_cont, res_next, res_ret, startE, bindT, bindTs,
  add_int, add_str, add_tup, add_lst, sub_int, mul_int, mul_lst, mul_tup, fdiv_int, mod_int, pow_int, len_str, len_tup, len_lst, int_int, int_bl, abs_int, list_lst, list_tup, tuple_lst, tuple_tup, lt_int, le_int, gt_int, ge_int, c_eq, c_ne, c_is, c_nis, c_in, c_nin, eqD_int, eqS_int, ixd_tup, ixd_lst, ixd_rol, ixd_mrf, put_mrf, len_mrf, sl_tup', sl_lst', sl_rol', tr_bl, tr_int, tr_non, asI_int, it_str, it_lst, it_tup, atI_0, atI_1, atI_2, ixN, must, omust, wipeE, sl1, sl2, sl3, sl4, sl5, sl6, sl7, sl8, sl9, sl10, sl11, sl12, sl13, sl14, sl15, sl16, *])

def anyMarks (call : Ca) : Ev D := xSl (xCall call 15 (xCons (xVar 0) (xCons (xLst (xCons (xLit (.str "no")) (xCons (xLit (.str "yes")) (xCons (xLit .non) (xCons (xLit (.str "up")) (xNil)))))) (xNil)))) xONone (xOSome (x2 bAdd (xLit (.int 1)) (xCall call 13 (xCons (xVar 0) (xCons (xLit (.int 3)) (xNil))))))
theorem cut_pre {zs : List D} {r : Int} (hz : zs.length = 4) (r0 : 0 ≤ r) (r1 : r < 3) : cutD zs none (some (1 + r)) <+: zs ∧ 1 ≤ (cutD zs none (some (1 + r))).length := by
  match zs, hz with
  | [x, y, z, w], _ =>
    have : r = 0 ∨ r = 1 ∨ r = 2 := by omega
    rcases this with rfl | rfl | rfl
    · exact ⟨⟨[y, z, w], rfl⟩, Nat.le_refl 1⟩
    · exact ⟨⟨[z, w], rfl⟩, show 1 ≤ 2 by decide⟩
    · exact ⟨⟨[w], rfl⟩, show 1 ≤ 3 by decide⟩
theorem marks_v (n m k : Nat) (rs : List D) (c : List Int) (t l : Int) (x1 x2 x3 x4 x5 x6 x7 x8 : Option D) (hk : k ≠ 0) (hkm : k < m) (ht : 0 ≤ t) (ht2 : t < 8000000) :
    ∃ zs ms t' l', anyMarks (evCall T (n + 2)) [some (.mrf 0), x1, x2, x3, x4, x5, x6, x7, x8] (RS m k rs c t l) = .ok (.lst ms) (RS (m + 2) k rs c t' l') ∧ zs.Perm M4 ∧ ms <+: zs ∧ 1 ≤ ms.length ∧ t ≤ t' ∧ t' ≤ t + 5 := by
  obtain ⟨zs, t1, l1, e1, pz, a2, a3⟩ := mixed_R n m k rs c t l M4 (by omega) hkm hk ht (by omega) (by decide)
  rw [show ((M4.length : Nat) : Int) = 4 from rfl] at a3
  obtain ⟨r, t2, l2, e2, b0, b1, b2, b3⟩ := draw_R (n + 1) (m + 2) k rs c t1 l1 3 hk (by decide) (by decide) (by omega) (by omega)
  obtain ⟨p1, p2⟩ := cut_pre (r := r) pz.length_eq b0 b1
  refine ⟨zs, _, t2, l2, ?_, pz, p1, p2, by omega, by omega⟩
  generalize evCall T (n + 2) = call at e1 e2 ⊢
  generalize RS (m + 2) k rs c t1 l1 = s1 at *
  generalize RS (m + 2) k rs c t2 l2 = s2 at *
  generalize RS m k rs c t l = s0 at *
  unfold M4 at e1
  clear pz p1 p2 a2 a3 b0 b1 b2 b3 hk hkm ht ht2
  unfold anyMarks
  walk_at "qv"
def anyAt (call : Ca) : Ev D := xIfe (xVar 3) (xCall call 13 (xCons (xVar 0) (xCons (xVar 1) (xNil)))) (x2 bAdd (x2 bAdd (xVar 4) (xLit (.int 1))) (xCall call 13 (xCons (xVar 0) (xCons (x2 bSub (x2 bSub (xVar 1) (xVar 4)) (xLit (.int 1))) (xNil)))))
def anyPlaces (call : Ca) : Ev D := xComp [7] (.nm 7) (xVar 5) qNil (anyAt call)
theorem at_v (n m k : Nat) (rs : List D) (c : List Int) (t l many i : Int) (b : Bool) (x2 x5 x6 x7 x8 : Option D) (hk : k ≠ 0) (hm : 1 ≤ many ∧ many ≤ 7) (h0 : 0 ≤ i) (h1 : i + 1 < many) (ht : 0 ≤ t) (ht2 : t < 10000000) :
    ∃ r t' l', anyAt (evCall T (n + 1)) [some (.mrf 0), some (.int many), x2, some (.bl b), some (.int i), x5, x6, x7, x8] (RS m k rs c t l) = .ok (.int r) (RS m k rs c t' l') ∧ 0 ≤ r ∧ r < many ∧ t ≤ t' ∧ t' ≤ t + 1 := by
  cases b with
  | true =>
    obtain ⟨r, t1, l1, e1, a0, a1, a2, a3⟩ := draw_R n m k rs c t l many hk (by omega) (by omega) ht (by omega)
    refine ⟨r, t1, l1, ?_, a0, a1, a2, a3⟩
    generalize evCall T (n + 1) = call at e1 ⊢
    generalize RS m k rs c t1 l1 = s1 at *
    generalize RS m k rs c t l = s0 at *
    clear a0 a1 a2 a3 hk hm h0 h1 ht ht2
    unfold anyAt
    walk_at "qv"
  | false =>
    obtain ⟨r, t1, l1, e1, a0, a1, a2, a3⟩ := draw_R n m k rs c t l (many - i - 1) hk (by omega) (by omega) ht (by omega)
    refine ⟨i + 1 + r, t1, l1, ?_, by omega, by omega, a2, a3⟩
    generalize evCall T (n + 1) = call at e1 ⊢
    generalize RS m k rs c t1 l1 = s1 at *
    generalize RS m k rs c t l = s0 at *
    clear a0 a1 a2 a3 hk hm h0 h1 ht ht2
    unfold anyAt
    walk_at "qv"
theorem places_v (n m k : Nat) (rs : List D) (c : List Int) (t l many i : Int) (b : Bool) (ms : List D) (x2 x6 x7 x8 : Option D) (hk : k ≠ 0) (hm : 1 ≤ many ∧ many ≤ 7) (h0 : 0 ≤ i) (h1 : i + 1 < many) (ht : 0 ≤ t) (ht2 : t < 8000000) (hl : ms.length ≤ 4) :
    ∃ qs : List Int, ∃ t' l', anyPlaces (evCall T (n + 1)) [some (.mrf 0), some (.int many), x2, some (.bl b), some (.int i), some (.lst ms), x6, x7, x8] (RS m k rs c t l) = .ok (.lst (qs.map D.int)) (RS m k rs c t' l') ∧ qs.length = ms.length ∧ (∀ q ∈ qs, 0 ≤ q ∧ q < many) ∧ t ≤ t' ∧ t' ≤ t + 4 := by
  obtain ⟨qs, t1, l1, e, q0, q1, q2, q3⟩ := comp_draws (m := m) (k := k) (rs := rs) (c := c) (i := 7) (env := [some (.mrf 0), some (.int many), x2, some (.bl b), some (.int i), some (.lst ms), x6, none, x8]) (elt := anyAt (evCall T (n + 1))) many
    (fun d t l g0 g1 => at_v n m k rs c t l many i b x2 (some (.lst ms)) x6 (some d) x8 hk hm h0 h1 g0 g1) ms [] t l ht (by omega) (by rw [List.length_nil, Nat.zero_add]; exact Nat.le_trans hl sl4)
  refine ⟨qs, t1, l1, ?_, q0, q1, q2, by omega⟩
  unfold anyPlaces xComp
  have hx : xVar 5 [some (.mrf 0), some (.int many), x2, some (.bl b), some (.int i), some (.lst ms), x6, x7, x8] (RS m k rs c t l) = .ok (.lst ms) (RS m k rs c t l) := rfl
  have hw : wipeE [some (.mrf 0), some (.int many), x2, some (.bl b), some (.int i), some (.lst ms), x6, x7, x8] [7] = [some (.mrf 0), some (.int many), x2, some (.bl b), some (.int i), some (.lst ms), x6, none, x8] := rfl
  rw [hx, R.bind_ok, it_lst, may_some, hw]
  rw [e]
  rfl
end Law
end
section
set_option Elab.async false
set_option autoImplicit false
set_option linter.all false
set_option maxRecDepth 100000
set_option maxHeartbeats 4000000
/-! k51: an ask row made. -/
namespace Law
open PySem L2 Qv
local macro_rules | `(tactic| walk_at "qv") => `(tactic| simp [ap_var, ap_lit, ap_2, ap_cmp, ap_chain, ap_and, ap_or, ap_not, ap_neg, ap_ife, ap_nil, ap_cons, ap_ap, ap_sel, ap_tup, ap_lst, ap_mlst, ap_mcopy, ap_ix, ap_onone, ap_osome, ap_sl, ap_call, ap_fn, ap_qnil, ap_qcons, ap_snil, ap_scons, ap_set, ap_par, ap_if, ap_ret, ap_retN, ap_exp, ap_put, ap_frz, ap_drop, ap_fset, ap_raise, ap_app, ap_pop, go_next, go_ret, go_brk, go_cont, res_next, res_ret, startE, bindT, bindTs,
  add_int, add_str, add_tup, add_lst, sub_int, mul_int, mul_lst, mul_tup, fdiv_int, mod_int, pow_int, len_str, len_tup, len_lst, int_int, int_bl, abs_int, list_lst, list_tup, tuple_lst, tuple_tup, lt_int, le_int, gt_int, ge_int, c_eq, c_ne, c_is, c_nis, c_in, c_nin, eqD_int, eqS_int, ixd_tup, ixd_lst, ixd_rol, ixd_mrf, put_mrf, len_mrf, sl_tup', sl_lst', sl_rol', tr_bl, tr_int, tr_non, asI_int, it_str, it_lst, it_tup, atI_0, atI_1, atI_2, ixN, must, omust, wipeE, sl1, sl2, sl3, sl4, sl5, sl6, sl7, sl8, sl9, sl10, sl11, sl12, sl13, sl14, sl15, sl16, *])

def anyWays : Ev D := xFn fTuple (xZcomp [7, 8] (.tup [.nm 7, .nm 8]) (xVar 5) (xVar 6) qNil (xTup (xCons (xVar 7) (xCons (xVar 8) (xNil)))))
def anyAsk (call : Ca) : Ex := sCons (sSet (.nm 5) (anyMarks call)) (sCons (sSet (.nm 6) (anyPlaces call)) (sCons (sExp (xApp (xVar 2) (xTup (xCons (xLit (.str "ask")) (xCons (xCall call 13 (xCons (xVar 0) (xCons (xLit (.int 3)) (xNil)))) (xCons anyWays (xNil))))))) (sNil)))
theorem wayz_v (st : Sto) (x0 x1 x2 x3 x4 x7 x8 : Option D) (ms : List D) (qs : List Int) (hl : ms.length ≤ 4) : anyWays [x0, x1, x2, x3, x4, some (.lst ms), some (.lst (qs.map D.int)), x7, x8] st = .ok (ways true (ms.zip qs)) st := by
  have hz : (zip0 ms (qs.map D.int)).length ≤ sizeLine := by
    rw [zip_ways, List.length_map, List.length_zip]
    exact Nat.le_trans (Nat.le_trans (Nat.min_le_left _ _) hl) sl4
  have e := compR_pure (tg := .tup [.nm 7, .nm 8]) (env := [x0, x1, x2, x3, x4, some (.lst ms), some (.lst (qs.map D.int)), none, none]) (tests := qNil) (elt := xTup (xCons (xVar 7) (xCons (xVar 8) (xNil)))) (fun _ => true) (fun d => d) st (zip0 ms (qs.map D.int)) [] (fun d hd => by
    rw [zip_ways] at hd
    obtain ⟨q, _, rfl⟩ := List.mem_map.mp hd
    exact ⟨[x0, x1, x2, x3, x4, some (.lst ms), some (.lst (qs.map D.int)), some q.1, some (.int q.2)], rfl, rfl, fun _ => by
      rw [ap_tup, ap_cons]
      show must ([q.1, D.int q.2].length ≤ sizeLine) _ = _
      rw [must_pos (show [q.1, D.int q.2].length ≤ sizeLine from sl2)]⟩) (by simpa using hz)
  rw [List.filter_eq_self.mpr fun _ _ => rfl, List.map_id'' (fun _ => rfl), List.nil_append] at e
  unfold anyWays
  rw [ap_fn]
  unfold xZcomp
  have h5 : xVar 5 [x0, x1, x2, x3, x4, some (.lst ms), some (.lst (qs.map D.int)), x7, x8] st = .ok (.lst ms) st := rfl
  have h6 : xVar 6 [x0, x1, x2, x3, x4, some (.lst ms), some (.lst (qs.map D.int)), x7, x8] st = .ok (.lst (qs.map D.int)) st := rfl
  have hw : wipeE [x0, x1, x2, x3, x4, some (.lst ms), some (.lst (qs.map D.int)), x7, x8] [7, 8] = [x0, x1, x2, x3, x4, some (.lst ms), some (.lst (qs.map D.int)), none, none] := rfl
  have h2 : zip2 (.lst ms) (.lst (qs.map D.int)) = some (zip0 ms (qs.map D.int)) := rfl
  rw [h5, R.bind_ok, h6, R.bind_ok, h2, may_some, hw, e]
  rw [zip_ways]
  rfl
theorem ask_one (n m k : Nat) (rs : List D) (c : List Int) (t l many i : Int) (b : Bool) (x5 x6 x7 x8 : Option D) (hk : k ≠ 0) (hkm : k < m) (hm : 1 ≤ many ∧ many ≤ 7) (h0 : 0 ≤ i) (h1 : i + 1 < many) (ht : 0 ≤ t) (ht2 : t < 7000000) (hl : rs.length < 1000) :
    ∃ x y5 y6 t' l', anyAsk (evCall T (n + 2)) [some (.mrf 0), some (.int many), some (.mrf k), some (.bl b), some (.int i), x5, x6, x7, x8] (RS m k rs c t l) = .ok (.next [some (.mrf 0), some (.int many), some (.mrf k), some (.bl b), some (.int i), y5, y6, x7, x8]) (RS (m + 2) k (rs ++ [Ins.d true x]) c t' l') ∧ x.Ok many ∧ t ≤ t' ∧ t' ≤ t + 10 := by
  obtain ⟨zs, ms, t1, l1, e1, pz, pp, p1, a2, a3⟩ := marks_v n m k rs c t l (some (.int many)) (some (.mrf k)) (some (.bl b)) (some (.int i)) x5 x6 x7 x8 hk hkm ht (by omega)
  have hl4 : ms.length ≤ 4 := by
    have := pp.length_le
    have := pz.length_eq
    have : M4.length = 4 := rfl
    omega
  obtain ⟨qs, t2, l2, e2, q0, q1, b2, b3⟩ := places_v (n + 1) (m + 2) k rs c t1 l1 many i b ms (some (.mrf k)) x6 x7 x8 hk hm h0 h1 (by omega) (by omega) hl4
  obtain ⟨r, t3, l3, e3, r0, r1, c2, c3⟩ := draw_R (n + 1) (m + 2) k rs c t2 l2 3 hk (by decide) (by decide) (by omega) (by omega)
  have wok := ways_ok pz pp p1 q0 q1
  have ew := fun st => wayz_v st (some (.mrf 0)) (some (.int many)) (some (.mrf k)) (some (.bl b)) (some (.int i)) x7 x8 ms qs hl4
  refine ⟨.ask r (ms.zip qs), some (.lst ms), some (.lst (qs.map D.int)), t3, l3, ?_, ⟨r0, by omega, wok⟩, by omega, by omega⟩
  have live := live_mrf _ (rs_rows (m := m + 2) (k := k) (rs := rs) (c := c) (t := t2) (l := l2))
  have happ := app_mrf _ ((Ins.ask r (ms.zip qs)).d true) (rs_rows (m := m + 2) (k := k) (rs := rs) (c := c) (t := t3) (l := l3)) (Nat.lt_of_lt_of_le hl (by decide))
  rw [rs_put hk] at happ
  have hd : (Ins.ask r (ms.zip qs)).d true = .tup [.str "ask", .int r, ways true (ms.zip qs)] := rfl
  rw [hd] at happ ⊢
  unfold anyAsk
  generalize anyMarks (evCall T (n + 2)) = P at e1 ⊢
  generalize anyPlaces (evCall T (n + 2)) = G at e2 ⊢
  generalize anyWays = W at ew ⊢
  generalize evCall T (n + 2) = call at e3 ⊢
  generalize ways true (ms.zip qs) = wv at *
  generalize RS (m + 2) k (rs ++ [D.tup [.str "ask", .int r, wv]]) c t3 l3 = s4 at *
  generalize RS (m + 2) k rs c t1 l1 = s1 at *
  generalize RS (m + 2) k rs c t2 l2 = s2 at *
  generalize RS (m + 2) k rs c t3 l3 = s3 at *
  generalize RS m k rs c t l = s0 at *
  clear a2 a3 b2 b3 c2 c3 r0 r1 q0 q1 pz pp p1 hk hkm hm h0 h1 ht ht2 hl hl4 wok hd
  walk_at "qv"
end Law
end
section
set_option Elab.async false
set_option autoImplicit false
set_option linter.all false
set_option maxRecDepth 100000
set_option maxHeartbeats 4000000
/-! k51: one turn of the making. -/
namespace Law
open PySem L2 Qv
local macro_rules | `(tactic| walk_at "qv") => `(tactic| simp [ap_var, ap_lit, ap_2, ap_cmp, ap_chain, ap_and, ap_or, ap_not, ap_neg, ap_ife, ap_nil, ap_cons, ap_ap, ap_sel, ap_tup, ap_lst, ap_mlst, ap_mcopy, ap_ix, ap_onone, ap_osome, ap_sl, ap_call, ap_fn, ap_qnil, ap_qcons, ap_snil, ap_scons, ap_set, ap_par, ap_if, ap_ret, ap_retN, ap_exp, ap_put, ap_frz, ap_drop, ap_fset, ap_raise, ap_app, ap_pop, go_next, go_ret, go_brk, go_cont, res_next, res_ret, startE, bindT, bindTs,
  add_int, add_str, add_tup, add_lst, sub_int, mul_int, mul_lst, mul_tup, fdiv_int, mod_int, pow_int, len_str, len_tup, len_lst, int_int, int_bl, abs_int, list_lst, list_tup, tuple_lst, tuple_tup, lt_int, le_int, gt_int, ge_int, c_eq, c_ne, c_is, c_nis, c_in, c_nin, eqD_int, eqS_int, ixd_tup, ixd_lst, ixd_rol, ixd_mrf, put_mrf, len_mrf, sl_tup', sl_lst', sl_rol', tr_bl, tr_int, tr_non, asI_int, it_str, it_lst, it_tup, atI_0, atI_1, atI_2, ixN, must, omust, wipeE, sl1, sl2, sl3, sl4, sl5, sl6, sl7, sl8, sl9, sl10, sl11, sl12, sl13, sl14, sl15, sl16, *])

def anyCond (call : Ca) : Ev D := xOr (xCmp cEq (xCall call 13 (xCons (xVar 0) (xCons (xLit (.int 2)) (xNil)))) (xLit (.int 0))) (xCmp cEq (xVar 4) (x2 bSub (xVar 1) (xLit (.int 1))))
def anyBody (call : Ca) : Ex := sCons (sIf (anyCond call) (anySet call) (anyAsk call)) (sNil)
theorem cond_v (n m k : Nat) (rs : List D) (c : List Int) (t l many i : Int) (x2 x3 x5 x6 x7 x8 : Option D) (hk : k ≠ 0) (ht : 0 ≤ t) (ht2 : t < 7000000) :
    ∃ g t' l', anyCond (evCall T (n + 1)) [some (.mrf 0), some (.int many), x2, x3, some (.int i), x5, x6, x7, x8] (RS m k rs c t l) = .ok (.bl g) (RS m k rs c t' l') ∧ (g = false → i ≠ many - 1) ∧ t ≤ t' ∧ t' ≤ t + 1 := by
  obtain ⟨r, t1, l1, e1, a0, a1, a2, a3⟩ := draw_R n m k rs c t l 2 hk (by decide) (by decide) ht (by omega)
  refine ⟨if r = 0 then true else decide (i = many - 1), t1, l1, ?_, ?_, a2, a3⟩
  · generalize evCall T (n + 1) = call at e1 ⊢
    generalize RS m k rs c t1 l1 = s1 at *
    generalize RS m k rs c t l = s0 at *
    clear a0 a1 a2 a3 hk ht ht2
    by_cases h : r = 0
    · subst h
      unfold anyCond
      walk_at "qv"
    · unfold anyCond
      walk_at "qv"
  · intro g
    by_cases h : r = 0
    · rw [if_pos h] at g; cases g
    · rw [if_neg h] at g; exact of_decide_eq_false g
theorem any_one (n m k : Nat) (rs : List D) (c : List Int) (t l many i : Int) (b : Bool) (x5 x6 x7 x8 : Option D) (hk : k ≠ 0) (hkm : k < m) (hm : 1 ≤ many ∧ many ≤ 7) (h0 : 0 ≤ i) (h1 : i < many) (ht : 0 ≤ t) (ht2 : t < 6000000) (hl : rs.length < 1000) :
    ∃ x y5 y6 m' t' l', anyBody (evCall T (n + 2)) [some (.mrf 0), some (.int many), some (.mrf k), some (.bl b), some (.int i), x5, x6, x7, x8] (RS m k rs c t l) = .ok (.next [some (.mrf 0), some (.int many), some (.mrf k), some (.bl b), some (.int i), y5, y6, x7, x8]) (RS m' k (rs ++ [Ins.d true x]) c t' l') ∧ x.Ok many ∧ m ≤ m' ∧ t ≤ t' ∧ t' ≤ t + 11 := by
  obtain ⟨g, t1, l1, e1, g0, a2, a3⟩ := cond_v (n + 1) m k rs c t l many i (some (.mrf k)) (some (.bl b)) x5 x6 x7 x8 hk ht (by omega)
  have hb : ∀ f, anyBody (evCall T (n + 2)) [some (.mrf 0), some (.int many), some (.mrf k), some (.bl b), some (.int i), x5, x6, x7, x8] (RS m k rs c t l) = f ↔ ((if g then anySet (evCall T (n + 2)) [some (.mrf 0), some (.int many), some (.mrf k), some (.bl b), some (.int i), x5, x6, x7, x8] (RS m k rs c t1 l1) else anyAsk (evCall T (n + 2)) [some (.mrf 0), some (.int many), some (.mrf k), some (.bl b), some (.int i), x5, x6, x7, x8] (RS m k rs c t1 l1)).bind fun z st => goOn sNil z st) = f := by
    intro f
    unfold anyBody
    rw [ap_scons, ap_if, e1, R.bind_ok]
    exact Iff.rfl
  cases g with
  | true =>
    obtain ⟨x, t2, l2, e2, ok, b2, b3⟩ := set_one n m k rs c t1 l1 many (some (.bl b)) (some (.int i)) x5 x6 x7 x8 hk hm (by omega) (by omega) hl
    refine ⟨x, x5, x6, m, t2, l2, ?_, ok, Nat.le_refl _, by omega, by omega⟩
    rw [hb, if_pos rfl, e2]; rfl
  | false =>
    have := g0 rfl
    obtain ⟨x, y5, y6, t2, l2, e2, ok, b2, b3⟩ := ask_one n m k rs c t1 l1 many i b x5 x6 x7 x8 hk hkm hm h0 (by omega) (by omega) (by omega) hl
    refine ⟨x, y5, y6, m + 2, t2, l2, ?_, ok, by omega, by omega, by omega⟩
    rw [hb, if_neg Bool.false_ne_true, e2]; rfl
end Law
end
section
set_option Elab.async false
set_option autoImplicit false
set_option linter.all false
set_option maxRecDepth 100000
set_option maxHeartbeats 4000000
/-! k51: the loop of the making. -/
namespace Law
open PySem L2 Qv
theorem any_loop (n k : Nat) (c : List Int) (many : Int) (b : Bool) (x7 x8 : Option D) (hk : k ≠ 0) (hm : 1 ≤ many ∧ many ≤ 7) : ∀ (len a m : Nat) (rows : List Ins) (t l : Int) (x4 x5 x6 : Option D), k < m → 0 ≤ t → t + 11 * len < 6000000 → rows.length + len < 1000 → (a : Int) + len ≤ many → (∀ x ∈ rows, x.Ok many) →
    ∃ more : List Ins, ∃ m' t' l' y4 y5 y6, forR (.nm 4) (anyBody (evCall T (n + 2))) [some (.mrf 0), some (.int many), some (.mrf k), some (.bl b), x4, x5, x6, x7, x8] ((List.range' a len).map fun i => D.int (i : Nat)) (RS m k (rows.map (Ins.d true)) c t l) = .ok (.next [some (.mrf 0), some (.int many), some (.mrf k), some (.bl b), y4, y5, y6, x7, x8]) (RS m' k (more.map (Ins.d true)) c t' l') ∧ more.length = rows.length + len ∧ (∀ x ∈ more, x.Ok many) ∧ m ≤ m' ∧ t ≤ t' ∧ t' ≤ t + 11 * len
  | 0, a, m, rows, t, l, x4, x5, x6, hkm, ht, ht2, hl, ha, ok => ⟨rows, m, t, l, x4, x5, x6, forR_nil _ _ _ _, rfl, ok, Nat.le_refl _, Int.le_refl _, by omega⟩
  | len + 1, a, m, rows, t, l, x4, x5, x6, hkm, ht, ht2, hl, ha, ok => by
    obtain ⟨x, y5, y6, m1, t1, l1, e1, o1, q1, q2, q3⟩ := any_one n m k (rows.map (Ins.d true)) c t l many (a : Int) b x5 x6 x7 x8 hk hkm hm (by omega) (by omega) ht (by omega) (by rw [List.length_map]; omega)
    obtain ⟨more, m2, t2, l2, z4, z5, z6, e2, p0, p1, p2, p3, p4⟩ := any_loop n k c many b x7 x8 hk hm len (a + 1) m1 (rows ++ [x]) t1 l1 (some (.int (a : Int))) y5 y6 (by omega) (by omega) (by omega) (by rw [List.length_append, List.length_singleton]; omega) (by omega) (fun y hy => by
      rcases List.mem_append.mp hy with z | z
      · exact ok y z
      · rw [List.mem_singleton.mp z]; exact o1)
    refine ⟨more, m2, t2, l2, z4, z5, z6, ?_, by rw [p0, List.length_append, List.length_singleton]; omega, p1, by omega, by omega, by omega⟩
    rw [List.range'_succ, List.map_cons, forR_cons]
    show (anyBody (evCall T (n + 2)) [some (.mrf 0), some (.int many), some (.mrf k), some (.bl b), some (.int (a : Int)), x5, x6, x7, x8] (RS m k (rows.map (Ins.d true)) c t l)).bind _ = _
    rw [e1, R.bind_ok]
    rw [List.map_append] at e2
    exact e2
end Law
end
section
set_option Elab.async false
set_option autoImplicit false
set_option linter.all false
set_option maxRecDepth 100000
set_option maxHeartbeats 4000000
/-! k51: _law_any_code. -/
namespace Law
open PySem L2 Qv
local macro_rules | `(tactic| walk_at "qv") => `(tactic| simp [ap_var, ap_lit, ap_2, ap_cmp, ap_chain, ap_and, ap_or, ap_not, ap_neg, ap_ife, ap_nil, ap_cons, ap_ap, ap_sel, ap_tup, ap_lst, ap_mlst, ap_mcopy, ap_ix, ap_onone, ap_osome, ap_sl, ap_call, ap_fn, ap_qnil, ap_qcons, ap_snil, ap_scons, ap_set, ap_par, ap_if, ap_ret, ap_retN, ap_exp, ap_put, ap_frz, ap_drop, ap_fset, ap_raise, ap_app, ap_pop, go_next, go_ret, go_brk, go_cont, res_next, res_ret, startE, bindT, bindTs,
  add_int, add_str, add_tup, add_lst, sub_int, mul_int, mul_lst, mul_tup, fdiv_int, mod_int, pow_int, len_str, len_tup, len_lst, int_int, int_bl, abs_int, list_lst, list_tup, tuple_lst, tuple_tup, lt_int, le_int, gt_int, ge_int, c_eq, c_ne, c_is, c_nis, c_in, c_nin, eqD_int, eqS_int, ixd_tup, ixd_lst, ixd_rol, ixd_mrf, put_mrf, len_mrf, sl_tup', sl_lst', sl_rol', tr_bl, tr_int, tr_non, asI_int, it_str, it_lst, it_tup, atI_0, atI_1, atI_2, ixN, must, omust, wipeE, sl1, sl2, sl3, sl4, sl5, sl6, sl7, sl8, sl9, sl10, sl11, sl12, sl13, sl14, sl15, sl16, *])

theorem rs_frz {m k : Nat} {rs : List D} {c : List Int} {t l : Int} (hk : k ≠ 0) (x0 x1 x3 x4 x5 x6 x7 x8 : Option D) : frzD [x0, x1, some (.mrf k), x3, x4, x5, x6, x7, x8] (RS m k rs c t l) 2 = some ([x0, x1, some (.lst rs), x3, x4, x5, x6, x7, x8], PS m c t l) := by
  show (stillD (RS m k rs c t l) k).map _ = _
  unfold stillD
  rw [rs_rows]
  show some (([x0, x1, some (.lst rs), x3, x4, x5, x6, x7, x8] : En), (RS m k rs c t l).del k) = _
  have : (RS m k rs c t l).del k = PS m c t l := by
    show (⟨m, Sto.rm k [(k, .lst rs), (0, penM c t l)], ["law"]⟩ : Sto) = _
    simp [Sto.rm, Ne.symm hk]
  rw [this]
theorem seq_next {s ss : Ex} {env env' : En} {st st' : Sto} (h : s env st = .ok (.next env') st') : sCons s ss env st = ss env' st' := by
  unfold sCons
  rw [h]; rfl
theorem seq_ret {s ss : Ex} {env : En} {st st' : Sto} {d : D} (h : s env st = .ok (.ret d) st') : sCons s ss env st = .ok (.ret d) st' := by
  unfold sCons
  rw [h]; rfl
theorem any_st2 (call : Ca) (s1 s2 : Sto) (f : Int) (x1 x2 x3 x4 x5 x6 x7 x8 : Option D) (h : call 13 [.mrf 0, .int 3] s1 = .ok (.int f) s2) :
    sSet (.nm 3) (xCmp cEq (xCall call 13 (xCons (xVar 0) (xCons (xLit (.int 3)) (xNil)))) (xLit (.int 0))) [some (.mrf 0), x1, x2, x3, x4, x5, x6, x7, x8] s1 = .ok (.next [some (.mrf 0), x1, x2, some (.bl (decide (f = 0))), x4, x5, x6, x7, x8]) s2 := by
  walk_at "qv"
theorem any_st5 (call : Ca) (s1 s2 : Sto) (many r : Int) (rr : List D) (x3 x4 x5 x6 x7 x8 : Option D) (h : call 13 [.mrf 0, .int many] s1 = .ok (.int r) s2) :
    sRet (xTup (xCons (xFn fTuple (xVar 2)) (xCons (xCall call 13 (xCons (xVar 0) (xCons (xVar 1) (xNil)))) (xNil)))) [some (.mrf 0), some (.int many), some (.lst rr), x3, x4, x5, x6, x7, x8] s1 = .ok (.ret (.tup [.tup rr, .int r])) s2 := by
  walk_at "qv"
theorem any_st4 {s s' : Sto} {e e' : En} (h : frzD e s 2 = some (e', s')) : sFrz 2 e s = .ok (.next e') s' := by
  rw [ap_frz, h]; rfl
theorem any_code_v (n m : Nat) (c : List Int) (t l : Int) (hm0 : m ≠ 0) (ht : 0 ≤ t) (ht2 : t < 5000000) :
    ∃ rows : List Ins, ∃ start m' t' l', evCall T (n + 3) 17 [.mrf 0] (PS m c t l) = .ok (.tup [rowsD true true rows, .int start]) (PS m' c t' l') ∧ RowsOk rows ∧ rows.length ≤ 7 ∧ 0 ≤ start ∧ start < rows.length ∧ m ≤ m' ∧ t ≤ t' ∧ t' ≤ t + 80 := by
  rw [call_of (show T[17]? = some ⟨1, 9, b__law_any_code⟩ from rfl) (n + 2) _ _ rfl]
  obtain ⟨r, t1, l1, e1, a0, a1, a2, a3⟩ := draw_P (n + 1) m c t l 7 (by decide) (by decide) ht (by omega)
  obtain ⟨f, t2, l2, e2, b0, b1, b2, b3⟩ := draw_R (n + 1) (m + 1) m [] c t1 l1 3 hm0 (by decide) (by decide) (by omega) (by omega)
  obtain ⟨q, rfl⟩ := Int.eq_ofNat_of_zero_le a0
  obtain ⟨rows, m3, t3, l3, y4, y5, y6, e3, c0, c1, c2, c3, c4⟩ := any_loop n m c (1 + (q : Int)) (decide (f = 0)) none none hm0 ⟨by omega, by omega⟩ (q + 1) 0 (m + 1) [] t2 l2 none none none (Nat.lt_succ_self _) (by omega) (by omega) (by simp; omega) (by omega) (fun x hx => (List.not_mem_nil hx).elim)
  obtain ⟨s, t4, l4, e4, d0, d1, d2, d3⟩ := draw_P (n + 1) m3 c t3 l3 (1 + (q : Int)) (by omega) (by omega) (by omega) (by omega)
  have hl : rows.length = q + 1 := by rw [c0]; simp
  refine ⟨rows, s, m3, t4, l4, ?_, ⟨by omega, by omega, fun x hx => by rw [hl, show ((q + 1 : Nat) : Int) = 1 + (q : Int) by omega]; exact c1 x hx⟩, by omega, d0, by omega, by omega, by omega, by omega⟩
  have hr : (1 + (q : Int)).toNat = q + 1 := by omega
  have hfz := rs_frz (m := m3) (k := m) (rs := rows.map (Ins.d true)) (c := c) (t := t3) (l := l3) hm0 (some (.mrf 0)) (some (.int (1 + (q : Int)))) (some (.bl (decide (f = 0)))) y4 y5 y6 none none
  have hloop : sRange (.nm 4) (xVar 1) (anyBody (evCall T (n + 2))) [some (.mrf 0), some (.int (1 + (q : Int))), some (.mrf m), some (.bl (decide (f = 0))), none, none, none, none, none] (RS (m + 1) m [] c t2 l2) = .ok (.next [some (.mrf 0), some (.int (1 + (q : Int))), some (.mrf m), some (.bl (decide (f = 0))), y4, y5, y6, none, none]) (RS m3 m (rows.map (Ins.d true)) c t3 l3) := by
    have hx : xVar 1 [some (.mrf 0), some (.int (1 + (q : Int))), some (.mrf m), some (.bl (decide (f = 0))), none, none, none, none, none] (RS (m + 1) m [] c t2 l2) = .ok (.int (1 + (q : Int))) (RS (m + 1) m [] c t2 l2) := rfl
    have hb : -(2 ^ 62) ≤ (1 + (q : Int)) ∧ (1 + (q : Int)) < 2 ^ 62 := ⟨by omega, by omega⟩
    rw [ap_range, hx, R.bind_ok, asI_int, may_some, must_pos hb, hr]
    unfold rangeD
    rw [List.range_eq_range']
    exact e3
  have hnew : (PS m c t1 l1).new (.lst []) = RS (m + 1) m [] c t1 l1 := rfl
  have hn : (PS m c t1 l1).n = m := rfl
  have hrows : rowsD true true rows = .tup (rows.map (Ins.d true)) := rfl
  rw [hrows]
  have body : b__law_any_code (evCall T (n + 2)) = sCons (sSet (.tup [.nm 1, .nm 2]) (xTup (xCons (x2 bAdd (xLit (.int 1)) (xCall (evCall T (n + 2)) 13 (xCons (xVar 0) (xCons (xLit (.int 7)) (xNil))))) (xCons (xMlst (xNil)) (xNil))))) (sCons (sSet (.nm 3) (xCmp cEq (xCall (evCall T (n + 2)) 13 (xCons (xVar 0) (xCons (xLit (.int 3)) (xNil)))) (xLit (.int 0)))) (sCons (sRange (.nm 4) (xVar 1) (anyBody (evCall T (n + 2)))) (sCons (sFrz 2) (sCons (sRet (xTup (xCons (xFn fTuple (xVar 2)) (xCons (xCall (evCall T (n + 2)) 13 (xCons (xVar 0) (xCons (xVar 1) (xNil)))) (xNil))))) (sNil))))) := rfl
  dsimp only
  rw [body]
  have h0 : startE 9 [.mrf 0] = [some (.mrf 0), none, none, none, none, none, none, none, none] := rfl
  rw [h0]
  have hs1 : sSet (.tup [.nm 1, .nm 2]) (xTup (xCons (x2 bAdd (xLit (.int 1)) (xCall (evCall T (n + 2)) 13 (xCons (xVar 0) (xCons (xLit (.int 7)) (xNil))))) (xCons (xMlst (xNil)) (xNil)))) [some (.mrf 0), none, none, none, none, none, none, none, none] (PS m c t l) = .ok (.next [some (.mrf 0), some (.int (1 + (q : Int))), some (.mrf m), none, none, none, none, none, none]) (RS (m + 1) m [] c t1 l1) := by
    have hc : xCall (evCall T (n + 2)) 13 (xCons (xVar 0) (xCons (xLit (.int 7)) (xNil))) [some (.mrf 0), none, none, none, none, none, none, none, none] (PS m c t l) = .ok (.int (q : Int)) (PS m c t1 l1) := e1
    have ha : x2 bAdd (xLit (.int 1)) (xCall (evCall T (n + 2)) 13 (xCons (xVar 0) (xCons (xLit (.int 7)) (xNil)))) [some (.mrf 0), none, none, none, none, none, none, none, none] (PS m c t l) = .ok (.int (1 + (q : Int))) (PS m c t1 l1) := by
      rw [ap_2, ap_lit, R.bind_ok, hc, R.bind_ok, add_int]; rfl
    have hk : xMlst xNil [some (.mrf 0), none, none, none, none, none, none, none, none] (PS m c t1 l1) = .ok (.mrf m) (RS (m + 1) m [] c t1 l1) := by
      rw [ap_mlst, ap_nil, R.bind_ok, must_pos (show ([] : List D).length ≤ sizeLine from Nat.zero_le _)]; rfl
    rw [ap_set, ap_tup, ap_cons, ha, R.bind_ok, ap_cons, hk, R.bind_ok, ap_nil, R.bind_ok, R.bind_ok, R.bind_ok, must_pos (show [D.int (1 + (q : Int)), D.mrf m].length ≤ sizeLine from sl2)]
    rfl
  rw [seq_next hs1, seq_next (any_st2 _ _ _ f _ _ _ _ _ _ _ _ e2), seq_next hloop, seq_next (any_st4 hfz), seq_ret (any_st5 _ _ _ _ _ _ _ _ _ _ _ _ e4), res_ret]
end Law
end
section
set_option Elab.async false
set_option autoImplicit false
set_option linter.all false
set_option maxRecDepth 100000
set_option maxHeartbeats 4000000
/-! k51: _law_wrong beside a list. -/
namespace Law
open PySem L2 Qv
local macro_rules | `(tactic| walk_at "qv") => `(tactic| simp [ap_var, ap_lit, ap_2, ap_cmp, ap_chain, ap_and, ap_or, ap_not, ap_neg, ap_ife, ap_nil, ap_cons, ap_ap, ap_sel, ap_tup, ap_lst, ap_mlst, ap_mcopy, ap_ix, ap_onone, ap_osome, ap_sl, ap_call, ap_fn, ap_qnil, ap_qcons, ap_snil, ap_scons, ap_set, ap_par, ap_if, ap_ret, ap_retN, ap_exp, ap_put, ap_frz, ap_drop, ap_fset, ap_raise, go_next, go_ret, go_brk, go_cont, res_next, res_ret, startE, bindT, bindTs,
  add_int, add_str, add_tup, add_lst, sub_int, mul_int, mul_lst, mul_tup, fdiv_int, mod_int, pow_int, len_str, len_tup, len_lst, int_int, int_bl, abs_int, list_lst, list_tup, tuple_lst, tuple_tup, lt_int, le_int, gt_int, ge_int, c_eq, c_ne, c_is, c_nis, c_in, c_nin, eqD_int, eqS_int, ixd_tup, ixd_lst, ixd_rol, ixd_mrf, put_mrf, len_mrf, sl_tup', sl_lst', sl_rol', tr_bl, tr_int, tr_non, asI_int, it_str, it_lst, it_tup, atI_0, atI_1, atI_2, ixN, must, omust, wipeE, sl1, sl2, sl3, sl4, sl5, sl6, sl7, sl8, sl9, sl10, sl11, sl12, sl13, sl14, sl15, sl16, *])
theorem wrong_R (n m k : Nat) (rs : List D) (c : List Int) (t l : Int) (many : Int) (hm : 1 ≤ many ∧ many ≤ 7) (ht : 0 ≤ t) (ht2 : t < 9000000) (hk : k ≠ 0) (hkm : k < m) : ∃ w m' t' l', evCall T (n + 3) 18 [.mrf 0, .int many] (RS m k rs c t l) = .ok w (RS m' k rs c t' l') ∧ m ≤ m' ∧ Wrong many w ∧ t ≤ t' ∧ t' ≤ t + 3 := by
  rw [call_of (show T[18]? = some ⟨2, 6, b__law_wrong⟩ from rfl) (n + 2) _ _ rfl]
  obtain ⟨r, t1, l1, e1, r0, r1, q1, q2⟩ := draw_R (n + 1) m k rs c t l 3 hk (by decide) (by decide) ht (by omega)
  have hp := fun m c t l xs h0 h1 ht ht2 => pick_R n m k rs c t l xs hk h0 h1 ht ht2
  show ∃ w m' t' l', resOf _ (b__law_wrong (evCall T (n + 2)) [some (.mrf 0), some (.int many), none, none, none, none] (RS m k rs c t l)) = _ ∧ _
  generalize evCall T (n + 2) = call at e1 hp ⊢
  have hr : r = 0 ∨ r = 1 ∨ r = 2 := by omega
  rcases hr with rfl | rfl | rfl
  · obtain ⟨w, t2, l2, e2, w1, q3, q4⟩ := hp m c t1 l1 wrongs0 (by decide) (by decide) (by omega) (by omega)
    refine ⟨w, m, t2, l2, ?_, Nat.le_refl _, .inl w1, by omega, by omega⟩
    unfold wrongs0 at e2
    clear hp w1 ht ht2 q1 q2 q3 q4 r0 r1 hm hk hkm
    unfold b__law_wrong
    walk_at "qv"
  · obtain ⟨a, t2, l2, e2, w1, q3, q4⟩ := hp m c t1 l1 badActs (by decide) (by decide) (by omega) (by omega)
    obtain ⟨w, t3, l3, e3, w2, q5, q6⟩ := hp m c t2 l2 (wrongs1 many a) (by simp [wrongs1]) (by simp [wrongs1]) (by omega) (by omega)
    refine ⟨w, m, t3, l3, ?_, Nat.le_refl _, .inr (.inl ⟨a, w1, w2⟩), by omega, by omega⟩
    unfold badActs at e2
    unfold wrongs1 at e3
    clear hp w1 w2 ht ht2 q1 q2 q3 q4 q5 q6 r0 r1 hm hk hkm
    unfold b__law_wrong
    walk_at "qv"
  · obtain ⟨y, t2, l2, e2, w1, q3, q4⟩ := hp (m + 1) c t1 l1 (badWays many) (by simp [badWays]) (by simp [badWays]) (by omega) (by omega)
    obtain ⟨w, t3, l3, e3, w2, q5, q6⟩ := hp (m + 1) c t2 l2 (wrongs2 y) (by simp [wrongs2]) (by simp [wrongs2]) (by omega) (by omega)
    refine ⟨w, m + 1, t3, l3, ?_, Nat.le_succ _, .inr (.inr ⟨y, w1, w2⟩), by omega, by omega⟩
    obtain ⟨base, hbase⟩ : ∃ base : List D, base = [.non, .int 5, .tup [], .dct [] [], .tup [.tup [.str "no", .int many]], .tup [.tup [.str "no", .int (-1)]], .tup [.tup [.str "no", .non]], .tup [.tup [.str "No", .int 0]], .tup [.tup [.int 5, .int 0]], .tup [.tup [.str "no", .int 0], .tup [.str "no", .int 0]], .tup [.tup [.str "no"]], .tup [.str "no", .int 0], .tup [.tup [.non, .int 0], .tup [.non, .int 0]]] := ⟨_, rfl⟩
    obtain ⟨ten, hten⟩ : ∃ ten : D, ten = .tup [.tup [.str "ma", .int 0], .tup [.str "mb", .int 0], .tup [.str "mc", .int 0], .tup [.str "md", .int 0], .tup [.str "me", .int 0], .tup [.str "mf", .int 0], .tup [.str "mg", .int 0], .tup [.str "mh", .int 0], .tup [.str "mi", .int 0], .tup [.str "mj", .int 0]] := ⟨_, rfl⟩
    have hbw : badWays many = base ++ [ten] := by rw [hbase, hten]; rfl
    have hbl : base.length = 13 := by rw [hbase]; rfl
    have tail : ∀ st, xFn fTuple (xComp [5] (.nm 5) (xLit (.str "abcdefghij")) qNil (xTup (xCons (x2 bAdd (xLit (.str "m")) (xVar 5)) (xCons (xLit (.int 0)) (xNil))))) [some (.mrf 0), some (.int many), some (.int 2), none, some (.mrf m), none] st = .ok ten st := by
      intro st
      rw [hten]
      kernel_rfl
    have g1 : ((RS m k rs c t1 l1).new (.lst base)).get m = some (.lst base) := Sto.get_new
    have fr : Fresh (RS m k rs c t1 l1) := rs_fresh (Nat.zero_lt_of_lt hkm) hkm
    have happ : xApp (xVar 4) (xFn fTuple (xComp [5] (.nm 5) (xLit (.str "abcdefghij")) qNil (xTup (xCons (x2 bAdd (xLit (.str "m")) (xVar 5)) (xCons (xLit (.int 0)) (xNil)))))) [some (.mrf 0), some (.int many), some (.int 2), none, some (.mrf m), none] ((RS m k rs c t1 l1).new (.lst base)) = .ok .non ((RS m k rs c t1 l1).new (.lst (badWays many))) := by
      rw [ap_app]
      show must (liveM _ (.mrf m) = true) _ = _
      rw [must_pos (live_mrf _ g1), tail, R.bind_ok, app_mrf _ _ g1 (by rw [hbl]; decide), may_some, hbw]
      have := set_new_same (u := .lst base) (m := .lst (base ++ [ten])) (st := RS m k rs c t1 l1) fr
      exact congrArg (R.ok D.non) this
    have hfz : frzD [some (.mrf 0), some (.int many), some (.int 2), none, some (.mrf m), none] ((RS m k rs c t1 l1).new (.lst (badWays many))) 4 = some ([some (.mrf 0), some (.int many), some (.int 2), none, some (.lst (badWays many)), none], RS (m + 1) k rs c t1 l1) := by
      show (stillD ((RS m k rs c t1 l1).new (.lst (badWays many))) m).map _ = _
      unfold stillD
      have g2 : ((RS m k rs c t1 l1).new (.lst (badWays many))).get m = some (.lst (badWays many)) := Sto.get_new
      rw [g2]
      show some (_, ((RS m k rs c t1 l1).new (.lst (badWays many))).del m) = _
      have := Sto.del_new (u := .lst (badWays many)) fr
      exact congrArg (fun z => some (([some (.mrf 0), some (.int many), some (.int 2), none, some (.lst (badWays many)), none] : En), z)) this
    unfold wrongs2 at e3
    generalize hst1 : (RS m k rs c t1 l1).new (.lst base) = st1 at happ g1
    rw [hbase] at hst1
    clear hp w1 w2 ht ht2 q1 q2 q3 q4 q5 q6 r0 r1 hm tail fr hbw hbl g1 hk hkm hten hbase
    generalize (RS m k rs c t1 l1).new (.lst (badWays many)) = st2 at *
    generalize badWays many = bw at *
    have hn : (RS m k rs c t1 l1).n = m := rfl
    unfold b__law_wrong
    walk_at "qv"
end Law
end
section
set_option Elab.async false
set_option autoImplicit false
set_option linter.all false
set_option maxRecDepth 100000
set_option maxHeartbeats 4000000
/-! k51: a turn of the law: what is asked of the made code. -/
namespace Law
open PySem L2 Qv
theorem set_nm {e : Ev D} {env : En} {st st' : Sto} {d : D} (i : Nat) (h : e env st = .ok d st') : sSet (.nm i) e env st = .ok (.next (env.set i (some d))) st' := by
  rw [ap_set, h]; rfl
theorem if_no {c : Ev D} {a : Ex} {env : En} {st st' : Sto} (h : c env st = .ok (.bl false) st') : sIf c a sNil env st = .ok (.next env) st' := by
  rw [ap_if, h]; rfl
theorem or_no {a b : Ev D} {env : En} {st st1 : Sto} {r : R D} (h : a env st = .ok (.bl false) st1) (h2 : b env st1 = r) : xOr a b env st = r := by
  rw [ap_or, h]; exact h2
theorem and_no {a b : Ev D} {env : En} {st st1 : Sto} (h : a env st = .ok (.bl false) st1) : xAnd a b env st = .ok (.bl false) st1 := by
  rw [ap_and, h]; rfl
theorem and_yes {a b : Ev D} {env : En} {st st1 : Sto} {r : R D} (h : a env st = .ok (.bl true) st1) (h2 : b env st1 = r) : xAnd a b env st = r := by
  rw [ap_and, h]; exact h2
theorem var_of {i : Nat} {env : En} {d : D} (h : env[i]? = some (some d)) (st : Sto) : xVar i env st = .ok d st := by
  unfold xVar
  rw [h]
theorem sh_eq_str {z : Str} (h : PyData.strOk z = true) : eqD (.str z) (.str z) = some true := by
  have l : PyData.canLay0 (.str z) = true := by simp only [PyData.canLay0, h]
  have s : SeqAt.shaped (.str z) = true := by
    unfold SeqAt.shaped
    rw [l]; rfl
  show (if SeqAt.shaped (.str z) = true ∧ SeqAt.shaped (.str z) = true then some (PyData.eqv (.str z) (.str z)) else none) = _
  rw [if_pos ⟨s, s⟩, SeqAt.eqv_refl _ l]
/-! ### == of right codes -/
theorem insC_known (st : Sto) (r : List Ins) (s : Int) : (instOf kn ki st (insC r s)).isSome = true := by
  show (if ("Code" : Str) ∈ ki then some ("Code" : Str) else none).isSome = true
  rw [if_pos (by decide +kernel)]; rfl
theorem code_eq (n : Nat) (st : Sto) (neg : Bool) {r r' : List Ins} {s s' : Int} {b : Bool} (he : eqD (rowsD true true r) (rowsD true true r') = some b) : oEq (evCall T (n + 1)) neg tEq kn ki st (insC r s) (insC r' s') = .ok (.bl (if neg then !(b && decide (s = s')) else (b && decide (s = s')))) st :=
  own_eq_v st neg (.inr (insC_known st r' s')) (eq_rows n st r r' s s' b he)
theorem code_tup (n : Nat) (st : Sto) {r : List Ins} {s : Int} (xs : List D) : oEq (evCall T (n + 1)) false tEq kn ki st (insC r s) (.tup xs) = .ok (.bl false) st :=
  own_eq_v st false (.inl rfl) (eq_tup n st r s xs)
theorem rows_eq {rows : List Ins} (h : RowsOk rows) (hl : rows.length ≤ 300) : eqD (rowsD true true rows) (rowsD true true rows) = some true := sh_eq (sh_rowsD h hl) (by decide)
theorem rows_ne {r r' : List Ins} (h : RowsOk r) (h' : RowsOk r') (hl : r.length ≤ 300) (hl' : r'.length ≤ 300) (hn : r.length ≠ r'.length) : eqD (rowsD true true r) (rowsD true true r') = some false :=
  sh_ne (xs := r.map (Ins.d true)) (ys := r'.map (Ins.d true)) (sh_rowsD h hl) (sh_rowsD h' hl') (by decide) (by decide) (by rw [List.length_map, List.length_map]; exact hn)
theorem Ins.Ok.mono {x : Ins} {m m' : Int} (h : x.Ok m) (hm : m ≤ m') : x.Ok m' := by
  cases x with
  | set a p => exact ⟨h.1, fun k hk => ⟨(h.2 k hk).1, Int.lt_of_lt_of_le (h.2 k hk).2 hm⟩⟩
  | ask i ps => exact ⟨h.1, h.2.1, ⟨h.2.2.l1, h.2.2.l9, fun q hq => ⟨(h.2.2.each q hq).1, (h.2.2.each q hq).2.1, Int.lt_of_lt_of_le (h.2.2.each q hq).2.2 hm⟩, h.2.2.nd⟩⟩
/-- one more -/
def more1 (rows : List Ins) : List Ins := rows ++ [.set [] none]
theorem more_ok {rows : List Ins} (h : RowsOk rows) (hl : rows.length ≤ 7) : RowsOk (more1 rows) := by
  refine ⟨by simp [more1], by simp [more1]; omega, fun x hx => ?_⟩
  rcases List.mem_append.mp hx with z | z
  · exact (h.each x z).mono (by simp [more1]; omega)
  · rw [List.mem_singleton.mp z]
    exact ⟨by simp [acts], fun k hk => by cases hk⟩
theorem more_d (rows : List Ins) : rowsD true true (more1 rows) = .tup (rows.map (Ins.d true) ++ [.tup [.str "set", .tup [], .non]]) := by
  unfold rowsD more1
  rw [List.map_append]
  rfl
/-! ### what is asked -/
section
variable (n : Nat) (y0 y2 y6 y7 y8 y9 y10 y11 y12 y13 : Option D) (m : Nat) (c : List Int) (t l : Int)
abbrev env5 (r s : D) (v : Option D) : En := [y0, some (.mrf 0), y2, some r, some s, v, y6, y7, y8, y9, y10, y11, y12, y13]
theorem ps_fresh {m : Nat} (hm : m ≠ 0) (c : List Int) (t l : Int) : Fresh (PS m c t l) := fun p hp => by
  rw [List.mem_singleton.mp hp]
  exact fun z => hm z.symm
theorem mk2 {rows : List Ins} (h : RowsOk rows) {s : Int} (h0 : 0 ≤ s) (h1 : s < rows.length) (hm : m ≠ 0) {a b : Ev D} {env : En} (ha : a env (PS m c t l) = .ok (rowsD true true rows) (PS m c t l)) (hb : b env (PS m c t l) = .ok (.int s) (PS m c t l)) :
    xMk (evCall T (n + 7)) "Code" 9 [0, 1, 2] (xCons a (xCons b xNil)) env (PS m c t l) = .ok (insC rows s) (PS (m + 1) c t l) := by
  refine mk_v n (st1 := PS m c t l) (ds := [rowsD true true rows, .int s]) true true h s h0 h1 (ps_fresh hm c t l) ?_ rfl
  rw [ap_cons, ha, R.bind_ok, ap_cons, hb, R.bind_ok, ap_nil]; rfl
/-- the first test -/
def cond1 (call : Ca) : Ev D := xOr (xCmp cNe (xFn fRepr (xTup (xCons (xFn (fFld kn ki "instructions") (xVar 5)) (xCons (xFn (fFld kn ki "start") (xVar 5)) (xCons (x1R (oLen call tLen) (xVar 5)) (xNil)))))) (xFn fRepr (xTup (xCons (xVar 3) (xCons (xVar 4) (xCons (xFn fLen (xVar 3)) (xNil)))))))
  (xOr (x2R (oEq call true tEq kn ki) (xVar 5) (xMk call "Code" 9 [0, 1, 2] (xCons (xVar 3) (xCons (xVar 4) (xNil))))) (x2R (oEq call false tEq kn ki) (xVar 5) (xVar 3)))
theorem cond1_v {rows : List Ins} (h : RowsOk rows) (hl : rows.length ≤ 7) {s : Int} (h0 : 0 ≤ s) (h1 : s < rows.length) (hm : m ≠ 0) :
    cond1 (evCall T (n + 7)) (env5 y0 y2 y6 y7 y8 y9 y10 y11 y12 y13 (rowsD true true rows) (.int s) (some (insC rows s))) (PS m c t l) = .ok (.bl false) (PS (m + 1) c t l) := by
  have hv3 := fun st => var_of (i := 3) (env := env5 y0 y2 y6 y7 y8 y9 y10 y11 y12 y13 (rowsD true true rows) (.int s) (some (insC rows s))) rfl st
  have hv4 := fun st => var_of (i := 4) (env := env5 y0 y2 y6 y7 y8 y9 y10 y11 y12 y13 (rowsD true true rows) (.int s) (some (insC rows s))) rfl st
  have hv5 := fun st => var_of (i := 5) (env := env5 y0 y2 y6 y7 y8 y9 y10 y11 y12 y13 (rowsD true true rows) (.int s) (some (insC rows s))) rfl st
  generalize env5 y0 y2 y6 y7 y8 y9 y10 y11 y12 y13 (rowsD true true rows) (.int s) (some (insC rows s)) = E at *
  have sh : Sh 5 (180702 * 3 + 3) (.tup [rowsD true true rows, .int s, .int rows.length]) := sh_tup (dep := 4) (k := 180700) (fun x hx => by
    simp only [List.mem_cons, List.mem_nil_iff, or_false] at hx
    rcases hx with rfl | rfl | rfl
    · exact sh_rowsD h (by omega)
    · exact (sh_int h0 (by omega)).le (by decide) (by decide)
    · exact (sh_int (by omega) (by omega)).le (by decide) (by decide)) (Nat.le_refl _)
  obtain ⟨z, hz, hz2⟩ := sh_repr sh (by decide) (by decide) (PS m c t l)
  have hlen : fLen (PS m c t l) (rowsD true true rows) = some (.int rows.length) := by unfold rowsD; rw [len_sq, List.length_map]
  have f1 : fFld kn ki "instructions" (PS m c t l) (insC rows s) = some (rowsD true true rows) := rfl
  have f2 : fFld kn ki "start" (PS m c t l) (insC rows s) = some (.int s) := rfl
  have hol := own_len_v (PS m c t l) (call := evCall T (n + 7)) rows s (by omega) (len_code (n + 6) (PS m c t l) rows s)
  have a1 : xFn fRepr (xTup (xCons (xFn (fFld kn ki "instructions") (xVar 5)) (xCons (xFn (fFld kn ki "start") (xVar 5)) (xCons (x1R (oLen (evCall T (n + 7)) tLen) (xVar 5)) (xNil))))) E (PS m c t l) = .ok (.str z) (PS m c t l) := by
    rw [ap_fn, ap_tup, ap_cons, ap_fn, hv5, R.bind_ok, f1, may_some, R.bind_ok, ap_cons, ap_fn, hv5, R.bind_ok, f2, may_some, R.bind_ok, ap_cons, ap_1R, hv5, R.bind_ok, hol]
    show (must ([rowsD true true rows, D.int s, D.int rows.length].length ≤ sizeLine) _).bind _ = _
    rw [must_pos (show [rowsD true true rows, D.int s, D.int rows.length].length ≤ sizeLine from sl3), R.bind_ok, hz]; rfl
  have a2 : xFn fRepr (xTup (xCons (xVar 3) (xCons (xVar 4) (xCons (xFn fLen (xVar 3)) (xNil))))) E (PS m c t l) = .ok (.str z) (PS m c t l) := by
    rw [ap_fn, ap_tup, ap_cons, hv3, R.bind_ok, ap_cons, hv4, R.bind_ok, ap_cons, ap_fn, hv3, R.bind_ok, hlen]
    show (must ([rowsD true true rows, D.int s, D.int rows.length].length ≤ sizeLine) _).bind _ = _
    rw [must_pos (show [rowsD true true rows, D.int s, D.int rows.length].length ≤ sizeLine from sl3), R.bind_ok, hz]; rfl
  have e0 : eqD (.str z) (.str z) = some true := sh_eq_str hz2
  refine or_no (st1 := PS m c t l) ?_ (or_no (st1 := PS (m + 1) c t l) ?_ ?_)
  · rw [ap_cmp, a1, R.bind_ok, a2, R.bind_ok, c_ne, e0]; rfl
  · rw [ap_2R, hv5, R.bind_ok, mk2 n m c t l h h0 h1 hm (hv3 _) (hv4 _), R.bind_ok, code_eq (n + 6) (PS (m + 1) c t l) true (rows_eq h (by omega)), decide_eq_true rfl]; rfl
  · rw [ap_2R, hv5, R.bind_ok, hv3, R.bind_ok]
    exact congrArg R.calm (code_tup (n + 6) (PS (m + 1) c t l) (rows.map (Ins.d true)))
/-- the second -/
def cond2 (call : Ca) : Ev D := xOr (xAnd (xCmp cGt (xFn fLen (xVar 3)) (xLit (.int 1))) (x2R (oEq call false tEq kn ki) (xVar 5) (xMk call "Code" 9 [0, 1, 2] (xCons (xVar 3) (xCons (x2 bMod (xFn fInt (x2 bAdd (xVar 4) (xLit (.int 1)))) (xFn fLen (xVar 3))) (xNil))))))
  (x2R (oEq call false tEq kn ki) (xVar 5) (xMk call "Code" 9 [0, 1, 2] (xCons (x2 bAdd (xVar 3) (xTup (xCons (xTup (xCons (xLit (.str "set")) (xCons (xTup (xNil)) (xCons (xLit .non) (xNil))))) (xNil)))) (xCons (xVar 4) (xNil)))))
theorem cond2_v {rows : List Ins} (h : RowsOk rows) (hl : rows.length ≤ 7) {s : Int} (h0 : 0 ≤ s) (h1 : s < rows.length) (hm : m ≠ 0) :
    ∃ m', m ≤ m' ∧ cond2 (evCall T (n + 7)) (env5 y0 y2 y6 y7 y8 y9 y10 y11 y12 y13 (rowsD true true rows) (.int s) (some (insC rows s))) (PS m c t l) = .ok (.bl false) (PS m' c t l) := by
  have hv3 := fun st => var_of (i := 3) (env := env5 y0 y2 y6 y7 y8 y9 y10 y11 y12 y13 (rowsD true true rows) (.int s) (some (insC rows s))) rfl st
  have hv4 := fun st => var_of (i := 4) (env := env5 y0 y2 y6 y7 y8 y9 y10 y11 y12 y13 (rowsD true true rows) (.int s) (some (insC rows s))) rfl st
  have hv5 := fun st => var_of (i := 5) (env := env5 y0 y2 y6 y7 y8 y9 y10 y11 y12 y13 (rowsD true true rows) (.int s) (some (insC rows s))) rfl st
  generalize env5 y0 y2 y6 y7 y8 y9 y10 y11 y12 y13 (rowsD true true rows) (.int s) (some (insC rows s)) = E at *
  have hlen : ∀ st, fLen st (rowsD true true rows) = some (.int rows.length) := fun st => by unfold rowsD; rw [len_sq, List.length_map]
  have hl1 : ∀ st, xFn fLen (xVar 3) E st = .ok (.int rows.length) st := fun st => by rw [ap_fn, hv3, R.bind_ok, hlen]; rfl
  have hgt : ∀ st, xCmp cGt (xFn fLen (xVar 3)) (xLit (.int 1)) E st = .ok (.bl (decide ((1 : Int) < rows.length))) st := fun st => by rw [ap_cmp, hl1, R.bind_ok, ap_lit, R.bind_ok, gt_int]; rfl
  have last : ∀ m, m ≠ 0 → x2R (oEq (evCall T (n + 7)) false tEq kn ki) (xVar 5) (xMk (evCall T (n + 7)) "Code" 9 [0, 1, 2] (xCons (x2 bAdd (xVar 3) (xTup (xCons (xTup (xCons (xLit (.str "set")) (xCons (xTup (xNil)) (xCons (xLit .non) (xNil))))) (xNil)))) (xCons (xVar 4) (xNil)))) E (PS m c t l) = .ok (.bl false) (PS (m + 1) c t l) := fun m hm => by
    have hadd : x2 bAdd (xVar 3) (xTup (xCons (xTup (xCons (xLit (.str "set")) (xCons (xTup (xNil)) (xCons (xLit .non) (xNil))))) (xNil))) E (PS m c t l) = .ok (rowsD true true (more1 rows)) (PS m c t l) := by
      have ht : xTup (xCons (xTup (xCons (xLit (.str "set")) (xCons (xTup (xNil)) (xCons (xLit .non) (xNil))))) (xNil)) E (PS m c t l) = .ok (.tup [.tup [.str "set", .tup [], .non]]) (PS m c t l) := by
        have i1 : xTup xNil E (PS m c t l) = .ok (.tup []) (PS m c t l) := by
          rw [ap_tup, ap_nil, R.bind_ok, must_pos (show ([] : List D).length ≤ sizeLine from Nat.zero_le _)]
        have i2 : xTup (xCons (xLit (.str "set")) (xCons (xTup (xNil)) (xCons (xLit .non) (xNil)))) E (PS m c t l) = .ok (.tup [.str "set", .tup [], .non]) (PS m c t l) := by
          rw [ap_tup, ap_cons, ap_lit, R.bind_ok, ap_cons, i1, R.bind_ok, ap_cons, ap_lit, R.bind_ok, ap_nil, R.bind_ok, R.bind_ok, R.bind_ok, R.bind_ok, must_pos (show [D.str "set", D.tup [], D.non].length ≤ sizeLine from sl3)]
        rw [ap_tup, ap_cons, i2, R.bind_ok, ap_nil, R.bind_ok, R.bind_ok, must_pos (show [D.tup [D.str "set", D.tup [], D.non]].length ≤ sizeLine from sl1)]
      have hb : bAdd (PS m c t l) (rowsD true true rows) (.tup [.tup [.str "set", .tup [], .non]]) = some (rowsD true true (more1 rows)) := by
        rw [more_d]
        show omust ((rows.map (Ins.d true)).length + [D.tup [D.str "set", D.tup [], D.non]].length ≤ sizeLine) _ = _
        refine omust_pos ?_ _
        rw [List.length_map, List.length_singleton]
        exact Nat.le_trans (Nat.add_le_add_right hl 1) sl8
      rw [ap_2, hv3, R.bind_ok, ht, R.bind_ok, hb]; rfl
    have hlm : (more1 rows).length = rows.length + 1 := by simp [more1]
    rw [ap_2R, hv5, R.bind_ok, mk2 n m c t l (more_ok h hl) h0 (by rw [hlm]; omega) hm hadd (hv4 _), R.bind_ok, code_eq (n + 6) (PS (m + 1) c t l) false (rows_ne h (more_ok h hl) (by omega) (by rw [hlm]; omega) (by rw [hlm]; omega))]; rfl
  by_cases h2 : (1 : Int) < rows.length
  · refine ⟨m + 2, by omega, or_no (st1 := PS (m + 1) c t l) (and_yes (st1 := PS m c t l) (by rw [hgt, decide_eq_true h2]) ?_) (last (m + 1) (by omega))⟩
    have hmod : x2 bMod (xFn fInt (x2 bAdd (xVar 4) (xLit (.int 1)))) (xFn fLen (xVar 3)) E (PS m c t l) = .ok (.int ((s + 1) % rows.length)) (PS m c t l) := by
      rw [ap_2, ap_fn, ap_2, hv4, R.bind_ok, ap_lit, R.bind_ok, add_int, may_some, R.bind_ok, int_int, may_some, R.bind_ok, hl1, R.bind_ok, mod_int, omust_pos (by omega)]; rfl
    have hne : s ≠ (s + 1) % rows.length := by
      by_cases z : s + 1 < rows.length
      · rw [Int.emod_eq_of_lt (by omega) z]; omega
      · rw [show s + 1 = rows.length by omega, Int.emod_self]; omega
    rw [ap_2R, hv5, R.bind_ok, mk2 n m c t l h (Int.emod_nonneg _ (by omega)) (Int.emod_lt_of_pos _ (by omega)) hm (hv3 _) hmod, R.bind_ok, code_eq (n + 6) (PS (m + 1) c t l) false (rows_eq h (by omega)), decide_eq_false hne]; rfl
  · exact ⟨m + 1, by omega, or_no (st1 := PS m c t l) (and_no (by rw [hgt, decide_eq_false h2])) (last m hm)⟩
end
end Law
end
section
set_option Elab.async false
set_option autoImplicit false
set_option linter.all false
set_option maxRecDepth 100000
set_option maxHeartbeats 4000000
/-! k51: a turn of the law: what is refused. -/
namespace Law
open PySem L2 Qv
theorem good_or (many : Int) : ∃ p : D → Bool, (∀ d, Wrong many d → p d = false) ∧ ∀ d, ¬ Wrong many d → p d = true := by
  refine ⟨fun d => @decide (¬ Wrong many d) (Classical.propDecidable _), fun d h => ?_, fun d h => ?_⟩
  · exact @decide_eq_false _ (Classical.propDecidable _) fun z => z h
  · exact @decide_eq_true _ (Classical.propDecidable _) h
theorem bad_wrong (n : Nat) (k : Nat) {rows : List Ins} (h : RowsOk rows) (hl : rows.length ≤ 7) {w : D} (hw : Wrong rows.length w) {j : Nat} (hj : j < rows.length) (s : D) (st : Sto) :
    evCall T (n + 7) 9 [.mrf k, .lst ((rows.map (Ins.d true)).set j w), s] st = .exc "BadMachine" ["part"] [.str "instructions"] st := by
  have hb : (1 : Int) ≤ (rows.length : Int) ∧ (rows.length : Int) ≤ 7 := ⟨by have := h.l1; omega, by omega⟩
  have hlen : ((rows.map (Ins.d true)).set j w).length = rows.length := by rw [List.length_set, List.length_map]
  obtain ⟨p, p0, p1⟩ := good_or rows.length
  have hmem : w ∈ (rows.map (Ins.d true)).set j w := List.mem_of_getElem? (i := j) (by rw [List.getElem?_set_self (by rw [List.length_map]; exact hj)])
  have := init_bad2 n k false ((rows.map (Ins.d true)).set j w) s p (by rw [hlen]; exact h.l1) (by rw [hlen]; exact h.l2) (fun st d hd => by
    rw [hlen]
    by_cases hwr : Wrong rows.length d
    · rw [wrong_no n st rows.length hb d hwr, p0 d hwr]
    · rcases List.mem_or_eq_of_mem_set hd with z | z
      · obtain ⟨y, hy, rfl⟩ := List.mem_map.mp z
        rw [p1 _ hwr]
        exact ins_v (n + 1) st true y rows.length (h.each y hy)
      · rw [z] at hwr; exact absurd hw hwr) (List.all_eq_false.mpr ⟨w, hmem, by rw [p0 w hw]; exact Bool.false_ne_true⟩) st
  exact this
section
variable (n : Nat) (m : Nat) (c : List Int) (t l : Int)
theorem mkbad2 {cl : Str} {ns : List Str} {xs : List D} {v s : D} (e : ∀ st, evCall T (n + 7) 9 [.mrf m, v, s] st = .exc cl ns xs st) {a b : Ev D} {env : En} (ha : a env (PS m c t l) = .ok v (PS m c t l)) (hb : b env (PS m c t l) = .ok s (PS m c t l)) :
    xMk (evCall T (n + 7)) "Code" 9 [0, 1, 2] (xCons a (xCons b xNil)) env (PS m c t l) = .exc cl ns xs (PS (m + 1) c t l) := by
  refine mkbad_v n (st1 := PS m c t l) (ds := [v, s]) e ?_ rfl
  rw [ap_cons, ha, R.bind_ok, ap_cons, hb, R.bind_ok, ap_nil]; rfl
theorem hear {e : Ev D} {env : En} {cl : Str} {ns : List Str} {xs : List D} {d : D} (h : e env (PS m c t l) = .exc cl ns xs (PS (m + 1) c t l)) (h2 : heardR hdv (.exc cl ns xs (PS (m + 1) c t l)) = .ok (.ret d) (PS (m + 1) c t l)) :
    xHeard lamT hdv e env (PS m c t l) = .ok d (PS (m + 1) c t l) := by
  rw [ap_heard, h, h2, res_ret]
  exact must_pos rfl _
/-- what a code may be made of wrongly -/
def bads (wr : D) : List D := [.non, .int 5, .tup [], .lst [], .dct [] [], .str "code", wr, wr, wr, .lst (List.replicate (2001 : Int).toNat [.tup [.str "set", .lst [], .non]]).flatten]
theorem flat_rep {α : Type} (a : α) : ∀ n : Nat, (List.replicate n [a]).flatten = List.replicate n a
  | 0 => rfl
  | n + 1 => by rw [List.replicate_succ, List.flatten_cons, flat_rep a n]; rfl
theorem bads_of {wr d : D} (h : d ∈ bads wr) : d ∈ badRows ∨ d = wr := by
  unfold bads at h
  rw [flat_rep] at h
  simp only [List.mem_cons, List.mem_nil_iff, or_false] at h
  have e : (2001 : Int).toNat = 2001 := rfl
  rw [e] at h
  simp only [badRows, List.mem_cons, List.mem_nil_iff, or_false]
  rcases h with h | h | h | h | h | h | h | h | h | h
  all_goals first | exact .inr h | (left; simp only [h, true_or, or_true])
theorem bad_of {rows : List Ins} (h : RowsOk rows) (hl : rows.length ≤ 7) {w : D} (hw : Wrong rows.length w) {j : Nat} (hj : j < rows.length) (s : D) {d : D} (hd : d ∈ bads (.lst ((rows.map (Ins.d true)).set j w))) (k : Nat) (st : Sto) :
    evCall T (n + 7) 9 [.mrf k, d, s] st = .exc "BadMachine" ["part"] [.str "instructions"] st := by
  rcases bads_of hd with z | z
  · exact init_bad1 n k d s (fun st => bad_no n st d z) st
  · rw [z]; exact bad_wrong n k h hl hw hj s st
/-- the third test -/
def cond3 (call : Ca) : Ev D := xCmp cNe (xLst (xCons (xHeard lamT hdv (xMk call "Code" 9 [0, 1, 2] (xCons (xVar 9) (xCons (xVar 10) (xNil))))) (xCons (xHeard lamT hdv (xMk call "Code" 9 [0, 1, 2] (xCons (xVar 3) (xCons (xVar 10) (xNil))))) (xNil)))) (xLst (xCons (xTup (xCons (xLit (.str "machine")) (xCons (xLit (.str "instructions")) (xNil)))) (xCons (xTup (xCons (xLit (.str "number")) (xCons (xFn fRepr (xVar 10)) (xNil)))) (xNil))))
theorem pair_eq (z : Str) (hz : PyData.strOk z = true) : eqD (.lst [.tup [.str "machine", .str "instructions"], .tup [.str "number", .str z]]) (.lst [.tup [.str "machine", .str "instructions"], .tup [.str "number", .str z]]) = some true := by
  have s1 : PyData.strOk ("machine" : Str) = true := by decide +kernel
  have s2 : PyData.strOk ("instructions" : Str) = true := by decide +kernel
  have s3 : PyData.strOk ("number" : Str) = true := by decide +kernel
  have l : PyData.canLay0 (.list [.tuple [.str "machine", .str "instructions"], .tuple [.str "number", .str z]]) = true := by simp [PyData.canLay0, PyData.canLayAll0, hz, s1, s2, s3]
  have s : SeqAt.shaped (.list [.tuple [.str "machine", .str "instructions"], .tuple [.str "number", .str z]]) = true := by
    unfold SeqAt.shaped
    rw [l]; simp [PyData.depth, PyData.depthAll]
  show (if SeqAt.shaped _ = true ∧ SeqAt.shaped _ = true then some (PyData.eqv _ _) else none) = _
  rw [if_pos ⟨s, s⟩, SeqAt.eqv_refl _ l]
theorem cond3_v {rows : List Ins} (h : RowsOk rows) (hl : rows.length ≤ 7) {w : D} (hw : Wrong rows.length w) {j : Nat} (hj : j < rows.length) {bad low : D} (hd : bad ∈ bads (.lst ((rows.map (Ins.d true)).set j w))) (hlow : low ∈ lows rows.length) {E : En} (h3 : E[3]? = some (some (rowsD true true rows))) (h9 : E[9]? = some (some bad)) (h10 : E[10]? = some (some low)) :
    cond3 (evCall T (n + 7)) E (PS m c t l) = .ok (.bl false) (PS (m + 2) c t l) := by
  have hb : (1 : Int) ≤ (rows.length : Int) ∧ (rows.length : Int) ≤ 7 := ⟨by have := h.l1; omega, by omega⟩
  have a1 := hear m c t l (mkbad2 n m c t l (fun st => bad_of n h hl hw hj low hd m st) (var_of h9 _) (var_of h10 _)) (heard_machine _)
  have hn := heard_number (PS (m + 2) c t l) rows.length hb low hlow
  have a2 := hear (m + 1) c t l (mkbad2 n (m + 1) c t l (fun st => init_bad3 n (m + 1) true true h low (fun st => low_no n st rows.length hb low hlow) st) (var_of h3 _) (var_of h10 _)) hn.1
  have b1 : xLst (xCons (xTup (xCons (xLit (.str "machine")) (xCons (xLit (.str "instructions")) (xNil)))) (xCons (xTup (xCons (xLit (.str "number")) (xCons (xFn fRepr (xVar 10)) (xNil)))) (xNil))) E (PS (m + 2) c t l) = .ok (.lst [.tup [.str "machine", .str "instructions"], .tup [.str "number", .str (shownOf low)]]) (PS (m + 2) c t l) := by
    have i1 : xTup (xCons (xLit (.str "machine")) (xCons (xLit (.str "instructions")) (xNil))) E (PS (m + 2) c t l) = .ok (.tup [.str "machine", .str "instructions"]) (PS (m + 2) c t l) := by
      rw [ap_tup, ap_cons, ap_lit, R.bind_ok, ap_cons, ap_lit, R.bind_ok, ap_nil, R.bind_ok, R.bind_ok, R.bind_ok, must_pos (show [D.str "machine", D.str "instructions"].length ≤ sizeLine from sl2)]
    have i2 : xTup (xCons (xLit (.str "number")) (xCons (xFn fRepr (xVar 10)) (xNil))) E (PS (m + 2) c t l) = .ok (.tup [.str "number", .str (shownOf low)]) (PS (m + 2) c t l) := by
      rw [ap_tup, ap_cons, ap_lit, R.bind_ok, ap_cons, ap_fn, var_of h10, R.bind_ok, hn.2.1, may_some, R.bind_ok, ap_nil, R.bind_ok, R.bind_ok, R.bind_ok, must_pos (show [D.str "number", D.str (shownOf low)].length ≤ sizeLine from sl2)]
    rw [ap_lst, ap_cons, i1, R.bind_ok, ap_cons, i2, R.bind_ok, ap_nil, R.bind_ok, R.bind_ok, R.bind_ok]
    exact must_pos sl2 _
  have b0 : xLst (xCons (xHeard lamT hdv (xMk (evCall T (n + 7)) "Code" 9 [0, 1, 2] (xCons (xVar 9) (xCons (xVar 10) (xNil))))) (xCons (xHeard lamT hdv (xMk (evCall T (n + 7)) "Code" 9 [0, 1, 2] (xCons (xVar 3) (xCons (xVar 10) (xNil))))) (xNil))) E (PS m c t l) = .ok (.lst [.tup [.str "machine", .str "instructions"], .tup [.str "number", .str (shownOf low)]]) (PS (m + 2) c t l) := by
    rw [ap_lst, ap_cons, a1, R.bind_ok, ap_cons, a2, R.bind_ok, ap_nil, R.bind_ok, R.bind_ok, R.bind_ok]
    exact must_pos sl2 _
  unfold cond3
  rw [ap_cmp, b0, R.bind_ok, b1, R.bind_ok, c_ne, pair_eq _ hn.2.2]; rfl
end
end Law
end
section
set_option Elab.async false
set_option autoImplicit false
set_option linter.all false
set_option maxRecDepth 100000
set_option maxHeartbeats 4000000
/-! k51: a whole turn of the law, all turns. -/
namespace Law
open PySem L2 Qv
def badsX : Ev (List D) := xCons (xLit .non) (xCons (xLit (.int 5)) (xCons (xTup (xNil)) (xCons (xLst (xNil)) (xCons (xLit (.dct [] [])) (xCons (xLit (.str "code")) (xCons (xVar 8) (xCons (xVar 8) (xCons (xVar 8) (xCons (x2 bMul (xLst (xCons (xTup (xCons (xLit (.str "set")) (xCons (xLst (xNil)) (xCons (xLit .non) (xNil))))) (xNil))) (xLit (.int 2001))) (xNil))))))))))
def lowsX : Ev (List D) := xCons (xLit .non) (xCons (xNeg (xLit (.int 1))) (xCons (xVar 7) (xCons (xLit (.bl true)) (xCons (xLit (.str "0")) (xCons (xTup (xCons (xLit (.int 0)) (xNil))) (xCons (x2 bPow (xLit (.int 10)) (xLit (.int 20))) (xNil)))))))
def pickX (call : Ca) (xs : Ev (List D)) : Ev D := xCall call 14 (xCons (xVar 1) (xCons (xLst xs) (xNil)))
def turnB (call : Ca) : Ex := sCons (sSet (.tup [.nm 3, .nm 4]) (xCall call 17 (xCons (xVar 1) (xNil)))) (sCons (sSet (.nm 5) (xMk call "Code" 9 [0, 2, 1] (xCons (xVar 4) (xCons (xCall call 16 (xCons (xVar 3) (xNil))) (xNil)))))
  (sCons (sIf (cond1 call) (sCons (sRet (xLit (.bl false))) (sNil)) (sNil)) (sCons (sIf (cond2 call) (sCons (sRet (xLit (.bl false))) (sNil)) (sNil))
  (sCons (sPar 6 7 (xCall call 13 (xCons (xVar 1) (xCons (xFn fLen (xVar 3)) (xNil)))) (xFn fLen (xVar 3))) (sCons (sSet (.nm 8) (xMcopy (xVar 3))) (sCons (sPut (xVar 8) (xVar 6) (xCall call 18 (xCons (xVar 1) (xCons (xVar 7) (xNil))))) (sCons (sFrz 8)
  (sCons (sSet (.nm 9) (pickX call badsX)) (sCons (sSet (.nm 10) (pickX call lowsX)) (sCons (sIf (cond3 call) (sCons (sRet (xLit (.bl false))) (sNil)) (sNil)) (sNil)))))))))))
theorem pick_at {call : Ca} {xs : Ev (List D)} {env : En} {st st' : Sto} {ds : List D} {d : D} (h1 : env[1]? = some (some (.mrf 0))) (hx : xs env st = .ok ds st) (hl : ds.length ≤ sizeLine) (h : call 14 [.mrf 0, .lst ds] st = .ok d st') : pickX call xs env st = .ok d st' := by
  unfold pickX
  rw [ap_call, ap_cons, var_of h1, R.bind_ok, ap_cons, ap_lst, hx, R.bind_ok, must_pos hl, R.bind_ok, ap_nil]
  exact h
theorem bads_x {env : En} {wr : D} (h : env[8]? = some (some wr)) (st : Sto) : badsX env st = .ok (bads wr) st := by
  have e1 : xTup xNil env st = .ok (.tup []) st := by rw [ap_tup, ap_nil, R.bind_ok]; exact must_pos (Nat.zero_le _) _
  have e2 : xLst xNil env st = .ok (.lst []) st := by rw [ap_lst, ap_nil, R.bind_ok]; exact must_pos (Nat.zero_le _) _
  have e3 : x2 bMul (xLst (xCons (xTup (xCons (xLit (.str "set")) (xCons (xLst (xNil)) (xCons (xLit .non) (xNil))))) (xNil))) (xLit (.int 2001)) env st = .ok (.lst (List.replicate (2001 : Int).toNat [.tup [.str "set", .lst [], .non]]).flatten) st := by
    have i1 : xTup (xCons (xLit (.str "set")) (xCons (xLst (xNil)) (xCons (xLit .non) (xNil)))) env st = .ok (.tup [.str "set", .lst [], .non]) st := by
      rw [ap_tup, ap_cons, ap_lit, R.bind_ok, ap_cons, e2, R.bind_ok, ap_cons, ap_lit, R.bind_ok, ap_nil, R.bind_ok, R.bind_ok, R.bind_ok, R.bind_ok, must_pos (show [D.str "set", D.lst [], D.non].length ≤ sizeLine from sl3)]
    rw [ap_2, ap_lst, ap_cons, i1, R.bind_ok, ap_nil, R.bind_ok, R.bind_ok, must_pos (show [D.tup [D.str "set", D.lst [], D.non]].length ≤ sizeLine from sl1), R.bind_ok, ap_lit, R.bind_ok, mul_lst, omust_pos (by decide)]; rfl
  have hv := var_of h st
  unfold badsX
  rw [ap_cons, ap_lit, R.bind_ok, ap_cons, ap_lit, R.bind_ok, ap_cons, e1, R.bind_ok, ap_cons, e2, R.bind_ok, ap_cons, ap_lit, R.bind_ok, ap_cons, ap_lit, R.bind_ok, ap_cons, hv, R.bind_ok, ap_cons, hv, R.bind_ok, ap_cons, hv, R.bind_ok, ap_cons, e3, R.bind_ok, ap_nil]
  rfl
theorem lows_x {env : En} {many : Int} (h : env[7]? = some (some (.int many))) (st : Sto) : lowsX env st = .ok (lows many) st := by
  have e1 : xTup (xCons (xLit (.int 0)) xNil) env st = .ok (.tup [.int 0]) st := by rw [ap_tup, ap_cons, ap_lit, R.bind_ok, ap_nil, R.bind_ok, R.bind_ok]; exact must_pos sl1 _
  have e2 : xNeg (xLit (.int 1)) env st = .ok (.int (-1)) st := rfl
  have e3 : x2 bPow (xLit (.int 10)) (xLit (.int 20)) env st = .ok (.int (10 ^ 20)) st := by
    rw [ap_2, ap_lit, R.bind_ok, ap_lit, R.bind_ok, pow_int, omust_pos (by decide)]; rfl
  have hv := var_of h st
  unfold lowsX
  rw [ap_cons, ap_lit, R.bind_ok, ap_cons, e2, R.bind_ok, ap_cons, hv, R.bind_ok, ap_cons, ap_lit, R.bind_ok, ap_cons, ap_lit, R.bind_ok, ap_cons, e1, R.bind_ok, ap_cons, e3, R.bind_ok, ap_nil]
  rfl
theorem turn_v (n m : Nat) (c : List Int) (t l : Int) (y0 y2 y3 y4 y5 y6 y7 y8 y9 y10 y11 y12 y13 : Option D) (hm : m ≠ 0) (ht : 0 ≤ t) (ht2 : t < 4000000) :
    ∃ m' t' l' z3 z4 z5 z6 z7 z8 z9 z10, turnB (evCall T (n + 7)) [y0, some (.mrf 0), y2, y3, y4, y5, y6, y7, y8, y9, y10, y11, y12, y13] (PS m c t l) = .ok (.next [y0, some (.mrf 0), y2, z3, z4, z5, z6, z7, z8, z9, z10, y11, y12, y13]) (PS m' c t' l') ∧ m ≤ m' ∧ t ≤ t' ∧ t' ≤ t + 100 := by
  obtain ⟨rows, start, m1, t1, l1, e1, ok, hl, s0, s1, a1, a2, a3⟩ := any_code_v (n + 4) m c t l hm ht (by omega)
  have hr1 := ok.l1
  -- the code made
  have k1 : sSet (.tup [.nm 3, .nm 4]) (xCall (evCall T (n + 7)) 17 (xCons (xVar 1) (xNil))) [y0, some (.mrf 0), y2, y3, y4, y5, y6, y7, y8, y9, y10, y11, y12, y13] (PS m c t l) = .ok (.next [y0, some (.mrf 0), y2, some (rowsD true true rows), some (.int start), y5, y6, y7, y8, y9, y10, y11, y12, y13]) (PS m1 c t1 l1) := by
    have hc : xCall (evCall T (n + 7)) 17 (xCons (xVar 1) (xNil)) [y0, some (.mrf 0), y2, y3, y4, y5, y6, y7, y8, y9, y10, y11, y12, y13] (PS m c t l) = .ok (.tup [rowsD true true rows, .int start]) (PS m1 c t1 l1) := e1
    rw [ap_set, hc]; rfl
  have k2 : sSet (.nm 5) (xMk (evCall T (n + 7)) "Code" 9 [0, 2, 1] (xCons (xVar 4) (xCons (xCall (evCall T (n + 7)) 16 (xCons (xVar 3) (xNil))) (xNil)))) [y0, some (.mrf 0), y2, some (rowsD true true rows), some (.int start), y5, y6, y7, y8, y9, y10, y11, y12, y13] (PS m1 c t1 l1) = .ok (.next (env5 y0 y2 y6 y7 y8 y9 y10 y11 y12 y13 (rowsD true true rows) (.int start) (some (insC rows start)))) (PS (m1 + 1) c t1 l1) := by
    refine set_nm 5 (mk_v n (st1 := PS m1 c t1 l1) (ds := [.int start, rowsD false false rows]) false false ok start s0 s1 (ps_fresh (by omega) c t1 l1) ?_ rfl)
    have hx : xCall (evCall T (n + 7)) 16 (xCons (xVar 3) (xNil)) [y0, some (.mrf 0), y2, some (rowsD true true rows), some (.int start), y5, y6, y7, y8, y9, y10, y11, y12, y13] (PS m1 c t1 l1) = .ok (rowsD false false rows) (PS m1 c t1 l1) := listed_rows (n + 2) (PS m1 c t1 l1) true true ok
    have h4 : xVar 4 [y0, some (.mrf 0), y2, some (rowsD true true rows), some (.int start), y5, y6, y7, y8, y9, y10, y11, y12, y13] (PS m1 c t1 l1) = .ok (.int start) (PS m1 c t1 l1) := rfl
    rw [ap_cons, h4, R.bind_ok, ap_cons, hx, R.bind_ok, ap_nil]; rfl
  have k3 := if_no (a := sCons (sRet (xLit (.bl false))) (sNil)) (cond1_v n y0 y2 y6 y7 y8 y9 y10 y11 y12 y13 (m1 + 1) c t1 l1 ok hl s0 s1 (by omega))
  obtain ⟨m2, hm2, k4⟩ := cond2_v n y0 y2 y6 y7 y8 y9 y10 y11 y12 y13 (m1 + 1 + 1) c t1 l1 ok hl s0 s1 (by omega)
  have k4 := if_no (a := sCons (sRet (xLit (.bl false))) (sNil)) k4
  obtain ⟨q, t2, l2, e5, q0, q1, b2, b3⟩ := draw_P (n + 6) m2 c t1 l1 rows.length (by omega) (by omega) (by omega) (by omega)
  obtain ⟨j, rfl⟩ := Int.eq_ofNat_of_zero_le q0
  have hj : j < rows.length := by omega
  have k5 : sPar 6 7 (xCall (evCall T (n + 7)) 13 (xCons (xVar 1) (xCons (xFn fLen (xVar 3)) (xNil)))) (xFn fLen (xVar 3)) (env5 y0 y2 y6 y7 y8 y9 y10 y11 y12 y13 (rowsD true true rows) (.int start) (some (insC rows start))) (PS m2 c t1 l1) = .ok (.next [y0, some (.mrf 0), y2, some (rowsD true true rows), some (.int start), some (insC rows start), some (.int (j : Int)), some (.int rows.length), y8, y9, y10, y11, y12, y13]) (PS m2 c t2 l2) := by
    have hf : ∀ st, xFn fLen (xVar 3) (env5 y0 y2 y6 y7 y8 y9 y10 y11 y12 y13 (rowsD true true rows) (.int start) (some (insC rows start))) st = .ok (.int rows.length) st := fun st => by
      have : fLen st (rowsD true true rows) = some (.int rows.length) := by unfold rowsD; rw [len_sq, List.length_map]
      rw [ap_fn, var_of (d := rowsD true true rows) rfl, R.bind_ok, this]; rfl
    rw [ap_par, ap_call, ap_cons, var_of (d := .mrf 0) rfl, R.bind_ok, ap_cons, hf, R.bind_ok, ap_nil, R.bind_ok, R.bind_ok, R.bind_ok, e5, R.bind_ok, hf, R.bind_ok]; rfl
  have k6 : sSet (.nm 8) (xMcopy (xVar 3)) [y0, some (.mrf 0), y2, some (rowsD true true rows), some (.int start), some (insC rows start), some (.int (j : Int)), some (.int rows.length), y8, y9, y10, y11, y12, y13] (PS m2 c t2 l2) = .ok (.next [y0, some (.mrf 0), y2, some (rowsD true true rows), some (.int start), some (insC rows start), some (.int (j : Int)), some (.int rows.length), some (.mrf m2), y9, y10, y11, y12, y13]) (RS (m2 + 1) m2 (rows.map (Ins.d true)) c t2 l2) := rfl
  obtain ⟨w, m3, t3, l3, e7, c1, hw, c2, c3⟩ := wrong_R (n + 4) (m2 + 1) m2 (rows.map (Ins.d true)) c t2 l2 rows.length ⟨by omega, by omega⟩ (by omega) (by omega) (by omega) (by omega)
  have k7 : sPut (xVar 8) (xVar 6) (xCall (evCall T (n + 7)) 18 (xCons (xVar 1) (xCons (xVar 7) (xNil)))) [y0, some (.mrf 0), y2, some (rowsD true true rows), some (.int start), some (insC rows start), some (.int (j : Int)), some (.int rows.length), some (.mrf m2), y9, y10, y11, y12, y13] (RS (m2 + 1) m2 (rows.map (Ins.d true)) c t2 l2) = .ok (.next [y0, some (.mrf 0), y2, some (rowsD true true rows), some (.int start), some (insC rows start), some (.int (j : Int)), some (.int rows.length), some (.mrf m2), y9, y10, y11, y12, y13]) (RS m3 m2 ((rows.map (Ins.d true)).set j w) c t3 l3) := by
    have hp : putD (RS m3 m2 (rows.map (Ins.d true)) c t3 l3) (.mrf m2) (.int (j : Int)) w = some (RS m3 m2 ((rows.map (Ins.d true)).set j w) c t3 l3) := by
      rw [put_mrf _ _ _ rs_rows]
      have hi : ixN (rows.map (Ins.d true)).length (j : Int) = some j := by
        unfold ixN
        rw [if_pos (by omega), if_pos (by rw [List.length_map]; omega)]; rfl
      rw [hi, Option.map_some, rs_put (by omega)]
    rw [ap_put, ap_call, ap_cons, var_of (d := .mrf 0) rfl, R.bind_ok, ap_cons, var_of (d := .int rows.length) rfl, R.bind_ok, ap_nil, R.bind_ok, R.bind_ok, R.bind_ok, e7, R.bind_ok, var_of (d := .mrf m2) rfl, R.bind_ok, var_of (d := .int (j : Int)) rfl, R.bind_ok, hp]; rfl
  have k8 : sFrz 8 [y0, some (.mrf 0), y2, some (rowsD true true rows), some (.int start), some (insC rows start), some (.int (j : Int)), some (.int rows.length), some (.mrf m2), y9, y10, y11, y12, y13] (RS m3 m2 ((rows.map (Ins.d true)).set j w) c t3 l3) = .ok (.next [y0, some (.mrf 0), y2, some (rowsD true true rows), some (.int start), some (insC rows start), some (.int (j : Int)), some (.int rows.length), some (.lst ((rows.map (Ins.d true)).set j w)), y9, y10, y11, y12, y13]) (PS m3 c t3 l3) := by
    have hs : stillD (RS m3 m2 ((rows.map (Ins.d true)).set j w) c t3 l3) m2 = some (.lst ((rows.map (Ins.d true)).set j w)) := by
      unfold stillD
      rw [rs_rows]
    have hd : (RS m3 m2 ((rows.map (Ins.d true)).set j w) c t3 l3).del m2 = PS m3 c t3 l3 := by
      show (⟨m3, Sto.rm m2 [(m2, .lst _), (0, penM c t3 l3)], ["law"]⟩ : Sto) = _
      simp [Sto.rm, show ¬ (0 = m2) by omega]
    show may ((stillD (RS m3 m2 ((rows.map (Ins.d true)).set j w) c t3 l3) m2).map _) _ = _
    rw [hs, Option.map_some, may_some, hd]; rfl
  have hbl : ∀ wr, (bads wr).length = 10 := fun wr => rfl
  obtain ⟨bad, t4, l4, e9, hbad, d2, d3⟩ := pick_P (n + 5) m3 c t3 l3 (bads (.lst ((rows.map (Ins.d true)).set j w))) (by intro z; have := hbl (.lst ((rows.map (Ins.d true)).set j w)); rw [z] at this; cases this) (by rw [hbl]; decide) (by omega) (by omega)
  have k9 := set_nm 9 (pick_at (env := [y0, some (.mrf 0), y2, some (rowsD true true rows), some (.int start), some (insC rows start), some (.int (j : Int)), some (.int rows.length), some (.lst ((rows.map (Ins.d true)).set j w)), y9, y10, y11, y12, y13]) rfl (bads_x rfl _) (by rw [hbl]; exact sl10) e9)
  have hll : ∀ k, (lows k).length = 7 := fun k => rfl
  obtain ⟨low, t5, l5, e10, hlow, g2, g3⟩ := pick_P (n + 5) m3 c t4 l4 (lows rows.length) (by intro z; have := hll rows.length; rw [z] at this; cases this) (by rw [hll]; decide) (by omega) (by omega)
  have k10 := set_nm 10 (pick_at (env := [y0, some (.mrf 0), y2, some (rowsD true true rows), some (.int start), some (insC rows start), some (.int (j : Int)), some (.int rows.length), some (.lst ((rows.map (Ins.d true)).set j w)), some bad, y10, y11, y12, y13]) rfl (lows_x rfl _) (by rw [hll]; exact sl7) e10)
  have k11 := if_no (a := sCons (sRet (xLit (.bl false))) (sNil)) (cond3_v n m3 c t5 l5 ok hl hw hj hbad hlow (E := [y0, some (.mrf 0), y2, some (rowsD true true rows), some (.int start), some (insC rows start), some (.int (j : Int)), some (.int rows.length), some (.lst ((rows.map (Ins.d true)).set j w)), some bad, some low, y11, y12, y13]) rfl rfl rfl)
  refine ⟨m3 + 2, t5, l5, some (rowsD true true rows), some (.int start), some (insC rows start), some (.int (j : Int)), some (.int rows.length), some (.lst ((rows.map (Ins.d true)).set j w)), some bad, some low, ?_, by omega, by omega, by omega⟩
  unfold turnB
  rw [seq_next k1, seq_next k2, seq_next k3, seq_next k4, seq_next k5, seq_next k6, seq_next k7, seq_next k8, seq_next k9]
  exact (seq_next k10).trans (seq_next k11)
theorem turns_v (n : Nat) (c : List Int) (y0 y11 y12 y13 : Option D) : ∀ (len a m : Nat) (t l : Int) (y2 y3 y4 y5 y6 y7 y8 y9 y10 : Option D), m ≠ 0 → 0 ≤ t → t + 100 * len < 4000000 →
    ∃ m' t' l' z2 z3 z4 z5 z6 z7 z8 z9 z10, forR (.nm 2) (turnB (evCall T (n + 7))) [y0, some (.mrf 0), y2, y3, y4, y5, y6, y7, y8, y9, y10, y11, y12, y13] ((List.range' a len).map fun i => D.int (i : Nat)) (PS m c t l) = .ok (.next [y0, some (.mrf 0), z2, z3, z4, z5, z6, z7, z8, z9, z10, y11, y12, y13]) (PS m' c t' l') ∧ m ≤ m'
  | 0, a, m, t, l, y2, y3, y4, y5, y6, y7, y8, y9, y10, hm, ht, ht2 => ⟨m, t, l, _, _, _, _, _, _, _, _, _, forR_nil _ _ _ _, Nat.le_refl _⟩
  | len + 1, a, m, t, l, y2, y3, y4, y5, y6, y7, y8, y9, y10, hm, ht, ht2 => by
    obtain ⟨m1, t1, l1, z3, z4, z5, z6, z7, z8, z9, z10, e1, a1, a2, a3⟩ := turn_v n m c t l y0 (some (.int (a : Int))) y3 y4 y5 y6 y7 y8 y9 y10 y11 y12 y13 hm ht (by omega)
    obtain ⟨m2, t2, l2, w2, w3, w4, w5, w6, w7, w8, w9, w10, e2, b1⟩ := turns_v n c y0 y11 y12 y13 len (a + 1) m1 t1 l1 (some (.int (a : Int))) z3 z4 z5 z6 z7 z8 z9 z10 (by omega) (by omega) (by omega)
    refine ⟨m2, t2, l2, w2, w3, w4, w5, w6, w7, w8, w9, w10, ?_, by omega⟩
    rw [List.range'_succ, List.map_cons, forR_cons]
    show (turnB (evCall T (n + 7)) [y0, some (.mrf 0), some (.int (a : Int)), y3, y4, y5, y6, y7, y8, y9, y10, y11, y12, y13] (PS m c t l)).bind _ = _
    rw [e1, R.bind_ok]
    exact e2
end Law
end
section
set_option Elab.async false
set_option autoImplicit false
set_option linter.all false
set_option maxRecDepth 100000
set_option maxHeartbeats 4000000
/-! k51: the two written codes. -/
namespace Law
open PySem L2 Qv
local macro_rules | `(tactic| walk_at "qv") => `(tactic| simp [ap_var, ap_lit, ap_2, ap_cmp, ap_chain, ap_and, ap_or, ap_not, ap_neg, ap_ife, ap_nil, ap_cons, ap_ap, ap_sel, ap_tup, ap_lst, ap_mlst, ap_mcopy, ap_ix, ap_onone, ap_osome, ap_sl, ap_call, ap_fn, ap_qnil, ap_qcons, ap_snil, ap_scons, ap_set, ap_par, ap_if, ap_ret, ap_retN, ap_exp, ap_put, ap_frz, ap_drop, ap_fset, ap_raise, go_next, go_ret, go_brk, go_cont, res_next, res_ret, startE, bindT, bindTs,
  add_int, add_str, add_tup, add_lst, sub_int, mul_int, mul_lst, mul_tup, fdiv_int, mod_int, pow_int, len_str, len_tup, len_lst, int_int, int_bl, abs_int, list_lst, list_tup, tuple_lst, tuple_tup, lt_int, le_int, gt_int, ge_int, c_eq, c_ne, c_is, c_nis, c_in, c_nin, eqD_int, eqS_int, ixd_tup, ixd_lst, ixd_rol, ixd_mrf, put_mrf, len_mrf, sl_tup', sl_lst', sl_rol', tr_bl, tr_int, tr_non, asI_int, it_str, it_lst, it_tup, atI_0, atI_1, atI_2, ixN, must, omust, wipeE, sl1, sl2, sl3, sl4, sl5, sl6, sl7, sl8, sl9, sl10, sl11, sl12, sl13, sl14, sl15, sl16, *])

def codeM (v : D) (s : Int) : MO := .obj "Code" ["instructions", "start"] [v, .int s]
def insM (v : D) (s : Int) : D := .ins "Code" ["instructions", "start"] [v, .int s]
theorem init_gen (n : Nat) (st : Sto) (k : Nat) (b : Bool) (xs : List D) (v' : D) (start : Int) (hl1 : 1 ≤ xs.length) (hl2 : xs.length ≤ 2000) (hins : ∀ d ∈ xs, evCall T (n + 6) 8 [d, .int xs.length] st = .ok (.bl true) st) (hfix : evCall T (n + 6) 5 [sq b xs] st = .ok v' st)
    (h0 : 0 ≤ start) (h1 : start < xs.length) (hk : st.get k = some (.obj "Code" [] [])) : evCall T (n + 7) 9 [.mrf k, sq b xs, .int start] st = .ok .non (st.set k (codeM v' start)) := by
  rw [call_of (show T[9]? = some ⟨3, 4, b_Code___init__⟩ from rfl) (n + 6) _ _ rfl]
  have hrow := row_v (n + 4) st b xs 1 2000
  rw [decide_eq_true (show (1 : Int) ≤ xs.length ∧ (xs.length : Int) ≤ 2000 by omega)] at hrow
  have hbt := between_v (n + 4) st start 0 ((xs.length : Int) - 1)
  rw [decide_eq_true (show (0 : Int) ≤ start ∧ start ≤ (xs.length : Int) - 1 by omega)] at hbt
  have hlen : fLen st (sq b xs) = some (.int xs.length) := len_sq b xs st
  show resOf _ (b_Code___init__ (evCall T (n + 6)) [some (.mrf k), some (sq b xs), some (.int start), none] st) = _
  generalize evCall T (n + 6) = call at hrow hbt hfix hins ⊢
  have c1 : xComp [3] (.nm 3) (xVar 1) qNil (xCall call 8 (xCons (xVar 3) (xCons (xFn fLen (xVar 1)) (xNil)))) [some (.mrf k), some (sq b xs), some (.int start), none] st = .ok (.lst (xs.map fun _ => .bl true)) st := by
    refine comp_map (fun _ => .bl true) (x := sq b xs) (ds := xs) rfl (it_sq b _ st) (fun d hd => ?_) (Nat.le_trans hl2 sl2000)
    have := hins d hd
    refine ⟨_, rfl, ?_⟩
    clear hins hfix hbt hrow hk hd
    walk_at "qv"
  have f1 := fall_map (fun _ => true) st xs
  have f2 : xs.all (fun _ => true) = true := by simp
  rw [f2] at f1
  have s1 := fset_mrf (f := "instructions") (d := v') (kk := ki) hk (by decide +kernel)
  have g1 : (st.set k (.obj "Code" (addN "instructions" []) (putL "instructions" v' [] []))).get k = some (.obj "Code" (addN "instructions" []) (putL "instructions" v' [] [])) := Sto.get_set hk
  have s2 := fset_mrf (f := "start") (d := .int start) (kk := ki) g1 (by decide +kernel)
  have s3 : (st.set k (.obj "Code" (addN "instructions" []) (putL "instructions" v' [] []))).set k (.obj "Code" (addN "start" (addN "instructions" [])) (putL "start" (.int start) (addN "instructions" []) (putL "instructions" v' [] []))) = st.set k (codeM v' start) := by
    rw [Sto.set_set]
    rfl
  generalize st.set k (.obj "Code" (addN "instructions" []) (putL "instructions" v' [] [])) = st1 at s1 s2 s3 g1
  generalize st.set k (codeM v' start) = st2 at s3 ⊢
  rw [s3] at s2
  generalize hL : (xs.map fun _ => (D.bl true)) = L at c1 f1
  generalize sq b xs = v at *
  clear hl2 hl1 h0 h1 hins hk f2 s3 g1 hL
  unfold b_Code___init__
  walk_at "qv"
theorem mk_gen (n : Nat) {st1 : Sto} {env : En} {es : Ev (List D)} (b : Bool) (xs : List D) (v' : D) (start : Int) (hl1 : 1 ≤ xs.length) (hl2 : xs.length ≤ 2000) (hins : ∀ st, ∀ d ∈ xs, evCall T (n + 6) 8 [d, .int xs.length] st = .ok (.bl true) st) (hfix : ∀ st, evCall T (n + 6) 5 [sq b xs] st = .ok v' st)
    (h0 : 0 ≤ start) (h1 : start < xs.length) (fr : Fresh st1) (hes : es env st1 = .ok [sq b xs, .int start] st1) : xMk (evCall T (n + 7)) "Code" 9 [0, 1, 2] es env st1 = .ok (insM v' start) (up st1) := by
  have e := init_gen n (st1.new (.obj "Code" [] [])) st1.n b xs v' start hl1 hl2 (hins _) (hfix _) h0 h1 Sto.get_new
  rw [set_new_same fr] at e
  have hm : madeD (st1.new (codeM v' start)) st1.n = some (insM v' start, up st1) := by
    unfold madeD
    rw [Sto.get_new]
    show some (insM v' start, (st1.new (codeM v' start)).del st1.n) = _
    rw [Sto.del_new fr]; rfl
  rw [ap_mk, hes, R.bind_ok]
  have e2 : mkR (evCall T (n + 7)) "Code" 9 [0, 1, 2] [sq b xs, .int start] st1 = .ok (.mrf st1.n) (st1.new (codeM v' start)) := by
    unfold mkR
    show (match evCall T (n + 7) 9 [.mrf st1.n, sq b xs, .int start] _ with | .ok .non st' => _ | .exc c ns xs st' => _ | _ => _) = _
    rw [e]
  rw [e2, R.bind_ok]
  show may (madeD _ _) _ = _
  rw [hm]; rfl
/-! ### nine -/
def nineA : D := .tup [.str "ask", .int 2, .lst [.tup [.str "ma", .int 1], .tup [.str "mb", .int 1], .tup [.str "mc", .int 1], .tup [.str "md", .int 1], .tup [.str "me", .int 1], .tup [.str "mf", .int 1], .tup [.str "mg", .int 1], .tup [.str "mh", .int 1], .tup [.non, .int 0]]]
def nineB : D := .tup [.str "set", .lst [.str "a", .str "b", .str "c", .str "d"], .non]
def nineV : D := .tup [.tup [.str "ask", .int 2, .tup [.tup [.str "ma", .int 1], .tup [.str "mb", .int 1], .tup [.str "mc", .int 1], .tup [.str "md", .int 1], .tup [.str "me", .int 1], .tup [.str "mf", .int 1], .tup [.str "mg", .int 1], .tup [.str "mh", .int 1], .tup [.non, .int 0]]], .tup [.str "set", .tup [.str "a", .str "b", .str "c", .str "d"], .non]]
def nineX : Ev (List D) := xCons (xLst (xCons (xTup (xCons (xLit (.str "ask")) (xCons (xLit (.int 2)) (xCons (x2 bAdd (xComp [12] (.nm 12) (xLit (.str "abcdefgh")) qNil (xTup (xCons (x2 bAdd (xLit (.str "m")) (xVar 12)) (xCons (xLit (.int 1)) (xNil))))) (xLst (xCons (xTup (xCons (xLit .non) (xCons (xLit (.int 0)) (xNil)))) (xNil)))) (xNil))))) (xCons (xTup (xCons (xLit (.str "set")) (xCons (xLst (xCons (xLit (.str "a")) (xCons (xLit (.str "b")) (xCons (xLit (.str "c")) (xCons (xLit (.str "d")) (xNil)))))) (xCons (xLit .non) (xNil))))) (xNil)))) (xCons (xLit (.int 0)) (xNil))
section
variable (n : Nat) (st : Sto)
theorem nine_x (y0 y1 y2 y3 y4 y5 y6 y7 y8 y9 y10 y11 y12 y13 : Option D) : nineX [y0, y1, y2, y3, y4, y5, y6, y7, y8, y9, y10, y11, y12, y13] st = .ok [.lst [nineA, nineB], .int 0] st := by kernel_rfl
theorem nine_a : evCall T (n + 6) 8 [nineA, .int 2] st = .ok (.bl true) st := by kernel_rfl
theorem nine_b : evCall T (n + 6) 8 [nineB, .int 2] st = .ok (.bl true) st := by kernel_rfl
theorem nine_f : evCall T (n + 6) 5 [.lst [nineA, nineB]] st = .ok nineV st := by kernel_rfl
end
theorem nine_mk (n m : Nat) (c : List Int) (t l : Int) (hm : m ≠ 0) (y0 y1 y2 y3 y4 y5 y6 y7 y8 y9 y10 y11 y12 y13 : Option D) : xMk (evCall T (n + 7)) "Code" 9 [0, 1, 2] nineX [y0, y1, y2, y3, y4, y5, y6, y7, y8, y9, y10, y11, y12, y13] (PS m c t l) = .ok (insM nineV 0) (PS (m + 1) c t l) :=
  mk_gen n (st1 := PS m c t l) false [nineA, nineB] nineV 0 (by decide) (by decide) (fun st d hd => by
    simp only [List.mem_cons, List.mem_nil_iff, or_false] at hd
    rcases hd with rfl | rfl
    · exact nine_a n st
    · exact nine_b n st) (fun st => nine_f n st) (by decide) (by decide) (ps_fresh hm c t l) (nine_x _ y0 y1 y2 y3 y4 y5 y6 y7 y8 y9 y10 y11 y12 y13)
/-! ### great -/
def gt (k : Int) : D := .tup [.str "set", .lst [], .int k]
def gtOf : D → D
  | .int i => gt ((i + 1) % 2000)
  | _ => .non
theorem gt_v (n : Nat) (st : Sto) (k : Int) (k1 : 0 ≤ k) (k2 : k < 2000) : evCall T (n + 6) 8 [gt k, .int 2000] st = .ok (.bl true) st := by
  rw [call_of (show T[8]? = some ⟨2, 2, b_is_instruction⟩ from rfl) (n + 5) _ _ rfl]
  have hrow : evCall T (n + 5) 4 [.tup [.str "set", .lst [], .int k], .int 3, .int 3] st = .ok (.bl true) st := row_v (n + 3) st true [.str "set", .lst [], .int k] 3 3
  have hrow2 : evCall T (n + 5) 4 [.lst [], .int 0, .int 4] st = .ok (.bl true) st := row_v (n + 3) st false [] 0 4
  have hact : evCall T (n + 5) 6 [.lst [], .int 0] st = .ok (.bl true) st := act_v (n + 2) st false [] (by simp [acts])
  have hi : fIsi kn ki [.str] st (.str "set") = some (.bl true) := rfl
  have he := e_sa st
  have hn := n_ss
  have b1 := between_v (n + 3) st k 0 (2000 - 1)
  rw [decide_eq_true (show (0 : Int) ≤ k ∧ k ≤ 2000 - 1 by omega), show (2000 : Int) - 1 = 1999 from rfl] at b1
  have hla : fLen st (.lst []) = some (.int 0) := rfl
  have z : isD (.int k) .non = some false := rfl
  have x0 := ixd_tup st [.str "set", .lst [], .int k] 0
  have x1 := ixd_tup st [.str "set", .lst [], .int k] 1
  have x2 := ixd_tup st [.str "set", .lst [], .int k] 2
  show resOf _ (b_is_instruction (evCall T (n + 5)) [some (.tup [.str "set", .lst [], .int k]), some (.int 2000)] _) = _
  generalize evCall T (n + 5) = call at hrow hrow2 hact b1 ⊢
  generalize D.lst [] = av at *
  generalize D.tup [.str "set", av, .int k] = v at *
  clear k1 k2
  unfold b_is_instruction
  walk_at "qv"
def greatX : Ev (List D) := xCons (xRcomp [6] (.nm 6) (xLit (.int 2000)) qNil (xTup (xCons (xLit (.str "set")) (xCons (xLst (xNil)) (xCons (x2 bMod (xFn fInt (x2 bAdd (xVar 6) (xLit (.int 1)))) (xLit (.int 2000))) (xNil)))))) (xCons (xLit (.int 1999)) (xNil))
def greatL : List D := (rangeD 2000).map gtOf
theorem great_len : greatL.length = 2000 := by unfold greatL rangeD; rw [List.length_map, List.length_map, List.length_range]
theorem great_mem {d : D} (h : d ∈ greatL) : ∃ k : Int, 0 ≤ k ∧ k < 2000 ∧ d = gt k := by
  unfold greatL rangeD at h
  obtain ⟨x, hx, rfl⟩ := List.mem_map.mp h
  obtain ⟨i, hi, rfl⟩ := List.mem_map.mp hx
  exact ⟨((i : Int) + 1) % 2000, Int.emod_nonneg _ (by decide), Int.emod_lt_of_pos _ (by decide), rfl⟩
theorem great_x (st : Sto) (y0 y1 y2 y3 y4 y5 y6 y7 y8 y9 y10 y11 y12 y13 : Option D) : greatX [y0, y1, y2, y3, y4, y5, y6, y7, y8, y9, y10, y11, y12, y13] st = .ok [.lst greatL, .int 1999] st := by
  have e : xRcomp [6] (.nm 6) (xLit (.int 2000)) qNil (xTup (xCons (xLit (.str "set")) (xCons (xLst (xNil)) (xCons (x2 bMod (xFn fInt (x2 bAdd (xVar 6) (xLit (.int 1)))) (xLit (.int 2000))) (xNil))))) [y0, y1, y2, y3, y4, y5, y6, y7, y8, y9, y10, y11, y12, y13] st = .ok (.lst greatL) st := by
    refine rcomp_map (j := 2000) gtOf (ap_lit _ _ _) (by decide) (fun d hd => ?_) (by decide)
    unfold rangeD at hd
    obtain ⟨i, hi, rfl⟩ := List.mem_map.mp hd
    refine ⟨[y0, y1, y2, y3, y4, y5, some (.int (i : Int)), y7, y8, y9, y10, y11, y12, y13], rfl, ?_⟩
    show _ = R.ok (gt (((i : Int) + 1) % 2000)) st
    unfold gt
    clear hd hi
    walk_at "qv"
  unfold greatX
  rw [ap_cons, e, R.bind_ok, ap_cons, ap_lit, R.bind_ok, ap_nil]; rfl
theorem fixed_lst (n : Nat) (st : Sto) (xs : List D) (hl : xs.length ≤ sizeLine) (hx : ∀ x ∈ xs, deepB 2 x = true) : evCall T (n + 6) 5 [.lst xs] st = .ok (.tup (xs.map (allD true 2))) st := by
  have hd : deepB 3 (.lst xs) = true := deep_sq false 2 xs hl hx
  have e := fixed_v st 3 (n + 2) _ hd
  rw [show 3 + (n + 2) + 1 = n + 6 by omega] at e
  exact e
def greatV : D := .tup (greatL.map (allD true 2))
theorem great_f (n : Nat) (st : Sto) : evCall T (n + 6) 5 [.lst greatL] st = .ok greatV st := fixed_lst n st greatL (by rw [great_len]; exact sl2000) fun x hx => by
  obtain ⟨k, _, _, rfl⟩ := great_mem hx
  rfl
theorem great_mk (n m : Nat) (c : List Int) (t l : Int) (hm : m ≠ 0) (y0 y1 y2 y3 y4 y5 y6 y7 y8 y9 y10 y11 y12 y13 : Option D) : xMk (evCall T (n + 7)) "Code" 9 [0, 1, 2] greatX [y0, y1, y2, y3, y4, y5, y6, y7, y8, y9, y10, y11, y12, y13] (PS m c t l) = .ok (insM greatV 1999) (PS (m + 1) c t l) :=
  mk_gen n (st1 := PS m c t l) false greatL greatV 1999 (by rw [great_len]; decide) (by rw [great_len]; exact Nat.le_refl _) (fun st d hd => by
    obtain ⟨k, k1, k2, rfl⟩ := great_mem hd
    rw [great_len]
    exact gt_v n st k k1 k2) (fun st => great_f n st) (by decide) (by rw [great_len]; decide) (ps_fresh hm c t l) (great_x _ y0 y1 y2 y3 y4 y5 y6 y7 y8 y9 y10 y11 y12 y13)
theorem len_gen (n : Nat) (st : Sto) (xs : List D) (s : Int) : evCall T (n + 1) 11 [insM (.tup xs) s] st = .ok (.int xs.length) st := by
  rw [call_of (show T[11]? = some ⟨1, 1, b_Code___len__⟩ from rfl) n _ _ rfl]
  have f1 : fFld kn ki "instructions" st (insM (.tup xs) s) = some (.tup xs) := rfl
  have f2 : fLen st (.tup xs) = some (.int xs.length) := rfl
  show resOf _ (b_Code___len__ (evCall T n) [some (insM (.tup xs) s)] st) = _
  obtain ⟨x, hx⟩ : ∃ x, insM (.tup xs) s = x := ⟨_, rfl⟩
  obtain ⟨p, hp⟩ : ∃ p, D.tup xs = p := ⟨_, rfl⟩
  rw [hx] at f1 ⊢
  rw [hp] at f1 f2
  clear hx hp
  unfold b_Code___len__
  walk_at "qv"
theorem own_len_gen {call : Ca} (st : Sto) (v : D) (s : Int) (k : Nat) (hl : k ≤ 2000) (e : call 11 [insM v s] st = .ok (.int k) st) : oLen call tLen st (insM v s) = .ok (.int k) st := by
  have h : lkM "Code" tLen = some (11, [0]) := by decide +kernel
  have hc : clsD st (insM v s) = some (("Code" : Str), (["instructions", "start"] : List Str)) := rfl
  have key : ∀ (f : D → Sto → R D), (∀ i : Int, ∀ st, f (.int i) st = must (0 ≤ i ∧ i < 2 ^ 63) (.ok (.int i) st)) → (may (lkM "Code" tLen) fun p => (call p.1 (pickN [insM v s] p.2) st).bind f) = .ok (.int k) st := by
    intro f hf
    rw [h, may_some]
    have e' : call (10 + 1) (pickN [insM v s] [0]) st = .ok (.int k) st := e
    rw [show ((11, [0]) : Nat × List Nat).1 = 10 + 1 from rfl, show ((11, [0]) : Nat × List Nat).2 = [0] from rfl, e', R.bind_ok, hf]
    exact must_pos ⟨Int.natCast_nonneg _, lt63 hl⟩ _
  unfold oLen
  rw [hc]
  exact key _ fun i st => rfl
end Law
end
section
set_option Elab.async false
set_option autoImplicit false
set_option linter.all false
set_option maxRecDepth 100000
set_option maxHeartbeats 4000000
/-! k51: the law. -/
namespace Law
open PySem L2 Qv
theorem cut_map (ns : List Int) (lo hi : Option Int) : cutD (ns.map D.int) lo hi = (cutD ns lo hi).map D.int := by
  unfold cutD
  rw [List.length_map, List.map_take, List.map_drop]
theorem pen_v (n : Nat) (ns : List Int) (h : ns.length ≤ 63) : ∃ c, evCall T (n + 1) 12 [.rol (ns.map D.int)] ⟨0, [], ["law"]⟩ = .ok (.mrf 0) (PS 1 c 0 0) := by
  refine ⟨cutD ns none (some 63), ?_⟩
  rw [call_of (show T[12]? = some ⟨1, 2, b__law_pen⟩ from rfl) n _ _ rfl]
  have hl : (cutD ns none (some 63)).length ≤ 63 := by
    unfold cutD
    rw [List.length_take, List.length_drop]
    omega
  have c1 : xComp [1] (.nm 1) (xSl (xVar 0) xONone (xOSome (xLit (.int 63)))) qNil (xFn fInt (xVar 1)) [some (.rol (ns.map D.int)), none] ⟨0, [], ["law"]⟩ = .ok (.lst (((cutD ns none (some 63)).map D.int).map id)) ⟨0, [], ["law"]⟩ := by
    refine comp_map (x := .lst ((cutD ns none (some 63)).map D.int)) (ds := (cutD ns none (some 63)).map D.int) id ?_ rfl (fun d hd => ?_) (by rw [List.length_map]; exact Nat.le_trans hl (by decide))
    · rw [ap_sl, var_of (d := .rol (ns.map D.int)) rfl, R.bind_ok, ap_onone, R.bind_ok, ap_osome, ap_lit, R.bind_ok, asI_int, may_some, R.bind_ok, sl_rol', cut_map]; rfl
    · obtain ⟨i, _, rfl⟩ := List.mem_map.mp hd
      exact ⟨_, rfl, rfl⟩
  rw [List.map_id] at c1
  show resOf _ (b__law_pen (evCall T n) [some (.rol (ns.map D.int)), none] ⟨0, [], ["law"]⟩) = _
  unfold b__law_pen
  have e : xMlst (xCons (xComp [1] (.nm 1) (xSl (xVar 0) (xONone) (xOSome (xLit (.int 63)))) (qNil) (xFn fInt (xVar 1))) (xCons (xLit (.int 0)) (xCons (xLit (.int 0)) (xNil)))) [some (.rol (ns.map D.int)), none] ⟨0, [], ["law"]⟩ = .ok (.mrf 0) (PS 1 (cutD ns none (some 63)) 0 0) := by
    rw [ap_mlst, ap_cons, c1, R.bind_ok, ap_cons, ap_lit, R.bind_ok, ap_cons, ap_lit, R.bind_ok, ap_nil, R.bind_ok, R.bind_ok, R.bind_ok, R.bind_ok]
    exact must_pos sl3 _
  rw [seq_ret (d := .mrf 0) (st' := PS 1 (cutD ns none (some 63)) 0 0) (by rw [ap_ret, e]; rfl), res_ret]
def endX (call : Ca) : Ev D := xAnd (xCmp cEq (x1R (oLen call tLen) (xVar 13)) (xLit (.int 2000))) (xCmp cEq (xFn fLen (xIx (xIx (xFn (fFld kn ki "instructions") (xVar 11)) (xLit (.int 0))) (xLit (.int 2)))) (xLit (.int 9)))
theorem end_v (n : Nat) (st : Sto) {E : En} (h11 : E[11]? = some (some (insM nineV 0))) (h13 : E[13]? = some (some (insM greatV 1999))) : endX (evCall T (n + 7)) E st = .ok (.bl true) st := by
  have hol := own_len_gen (call := evCall T (n + 7)) st greatV 1999 2000 (Nat.le_refl _) (by
    have e := len_gen (n + 6) st (greatL.map (allD true 2)) 1999
    rw [List.length_map, great_len] at e
    exact e)
  unfold endX
  refine and_yes (st1 := st) ?_ ?_
  · rw [ap_cmp, ap_1R, var_of h13, R.bind_ok, hol]; rfl
  · have f1 : fFld kn ki "instructions" st (insM nineV 0) = some nineV := rfl
    rw [ap_cmp, ap_fn, ap_ix, ap_ix, ap_fn, var_of h11, R.bind_ok, f1, may_some, R.bind_ok, ap_lit, R.bind_ok]; rfl
theorem law_v (n : Nat) (ns : List Int) (h : ns.length ≤ 63) : ∃ st, evCall T (n + 8) 19 [.rol (ns.map D.int)] ⟨0, [], ["law"]⟩ = .ok (.bl true) st := by
  obtain ⟨c, e1⟩ := pen_v (n + 6) ns h
  obtain ⟨m, t, l, z2, z3, z4, z5, z6, z7, z8, z9, z10, e2, hm⟩ := turns_v n c (some (.rol (ns.map D.int))) none none none 8 0 1 0 0 none none none none none none none none none (by decide) (by decide) (by decide)
  refine ⟨PS (m + 1 + 1) c t l, ?_⟩
  rw [call_of (show T[19]? = some ⟨1, 14, b_law⟩ from rfl) (n + 7) _ _ rfl]
  have body : b_law (evCall T (n + 7)) = sCons (sSet (.nm 1) (xCall (evCall T (n + 7)) 12 (xCons (xVar 0) (xNil)))) (sCons (sRange (.nm 2) (xLit (.int 8)) (turnB (evCall T (n + 7)))) (sCons (sSet (.nm 11) (xMk (evCall T (n + 7)) "Code" 9 [0, 1, 2] nineX)) (sCons (sSet (.nm 13) (xMk (evCall T (n + 7)) "Code" 9 [0, 1, 2] greatX)) (sCons (sRet (endX (evCall T (n + 7)))) (sNil))))) := by
    generalize evCall T (n + 7) = call
    rfl
  have h0 : startE 14 [.rol (ns.map D.int)] = [some (.rol (ns.map D.int)), none, none, none, none, none, none, none, none, none, none, none, none, none] := rfl
  dsimp only
  rw [h0, body]
  have k1 : sSet (.nm 1) (xCall (evCall T (n + 7)) 12 (xCons (xVar 0) (xNil))) [some (.rol (ns.map D.int)), none, none, none, none, none, none, none, none, none, none, none, none, none] ⟨0, [], ["law"]⟩ = .ok (.next [some (.rol (ns.map D.int)), some (.mrf 0), none, none, none, none, none, none, none, none, none, none, none, none]) (PS 1 c 0 0) := by
    refine set_nm 1 ?_
    rw [ap_call, ap_cons, var_of (d := .rol (ns.map D.int)) rfl, R.bind_ok, ap_nil, R.bind_ok, R.bind_ok]
    exact e1
  have k2 : sRange (.nm 2) (xLit (.int 8)) (turnB (evCall T (n + 7))) [some (.rol (ns.map D.int)), some (.mrf 0), none, none, none, none, none, none, none, none, none, none, none, none] (PS 1 c 0 0) = .ok (.next [some (.rol (ns.map D.int)), some (.mrf 0), z2, z3, z4, z5, z6, z7, z8, z9, z10, none, none, none]) (PS m c t l) := by
    rw [ap_range, ap_lit, R.bind_ok, asI_int, may_some, must_pos (by decide)]
    unfold rangeD
    rw [List.range_eq_range']
    exact e2
  have k3 := set_nm 11 (nine_mk n m c t l (by omega) (some (.rol (ns.map D.int))) (some (.mrf 0)) z2 z3 z4 z5 z6 z7 z8 z9 z10 none none none)
  have k4 := set_nm 13 (great_mk n (m + 1) c t l (by omega) (some (.rol (ns.map D.int))) (some (.mrf 0)) z2 z3 z4 z5 z6 z7 z8 z9 z10 (some (insM nineV 0)) none none)
  rw [seq_next k1, seq_next k2, seq_next k3]
  refine congrArg (resOf _) ((seq_next k4).trans (seq_ret ?_))
  rw [ap_ret, end_v n _ rfl rfl]; rfl
end Law
end
section
set_option Elab.async false
set_option linter.all false
set_option maxRecDepth 100000
set_option maxHeartbeats 0
open PySem PySem.W PySem.Calls PyProof.Rows
theorem PySem.Challenge.cw_ownhearing_k51_codes_made_and_refused_holds : PySem.Challenge.rw_ownhearing_k51_codes_made_and_refused.Holds := by
  w_on; o_law
  refine HandSHeadRun.head_any (r := OpenLaw.row PySem.Challenge.rw_ownhearing_k51_codes_made_and_refused) (q := view (OpenLaw.row PySem.Challenge.rw_ownhearing_k51_codes_made_and_refused).prog [48]) (H := Law.hk) (ob := Law.ob) (M := 9000) (loose := Law.loose) (d := HandSHeadRun.topDef (OpenLaw.row PySem.Challenge.rw_ownhearing_k51_codes_made_and_refused).prog 48) (kwd := []) Law.ob_eq
    (by kernel_rfl) (fun s => by kernel_rfl) Law.run (by kernel_rfl) (by kernel_rfl) (by kernel_rfl) (by rfl) (by first | assumption | decide +kernel) (by decide +kernel) ⟨rfl, rfl, rfl, rfl, rfl, by decide +kernel⟩ ?hw ?hc
  case hw => w_witness2
  case hc =>
    refine Qv.walk_Q (l := PySem.Challenge.rw_ownhearing_k51_codes_made_and_refused) (n := 63) (k := 32) (x := "script") (tn := ["law"]) rfl (by decide) (by kernel_rfl) ⟨rfl, by decide, by decide⟩ ?F
    intro w mg fa h Y G hmg0
    obtain ⟨K, KX, c⟩ := Y
    have hmg : mg ("law" : PySem.Str) = some (.ref fa) := by
      have e : (HandSHeadRun.topDef (OpenLaw.row PySem.Challenge.rw_ownhearing_k51_codes_made_and_refused).prog 48).name = ("law" : PySem.Str) := by kernel_rfl
      rw [← e]
      exact hmg0
    have gf := Law.facts KX G c
    have ga := gf.g_law
    obtain ⟨fd, F⟩ := gf.p_law
    have e := hmg.symm.trans ga
    cases e
    have tab : ∀ y, y ∈ (["law"] : List PySem.Str) → codeHdIn K (Qv.ca K y) (Qv.pa K y) = true ∧ K.lookup (Qv.pa K y) = none ∧ h.get? (Qv.pa K y) = some { cls := .none, data := .fields #[] } := fun y hy => by
      rw [List.mem_singleton.mp hy]
      exact c.tab ("law", none) (List.mem_singleton.mpr rfl)
    refine ⟨K, fd, Qv.evCall Law.T 8 19, KX, fun y hy => (tab y hy).2.2, fun y hy => (tab y hy).2.1, fun y hy => (tab y hy).1, fun s u => L2.FunD.bindsA (ps := ["script"]) F (fun _ _ _ _ _ _ us hl => match us, hl with | [_], _ => rfl) s [u] rfl, fun ns hl _ => Law.law_v 0 ns hl, fun base _ _ tb => Qv.FnX.succ F Law.sc_law rfl (Law.dv_law gf (Law.all_ok gf (tb "law" (List.mem_singleton.mpr rfl)) 7) (tb "law" (List.mem_singleton.mpr rfl)))⟩
end

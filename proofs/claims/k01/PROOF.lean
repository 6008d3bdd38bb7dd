import PyProof.Rows.All
import Wide.All
import OpenK.AllK
import HandS.ForMost
import HandS.ForExc
import HandS.Flow
import HandS.IsInst
import HandS.More
import HandS.Deep
import HandS.TupAny
import HandS.TupMul
import HandS.Style
import HandS.Wide
import HandS.WideBits
import HandS.TupLe
import HandS.RaiseMore
import HandS.Defaults
import HandS.EndBits
import HandS.HeadHook2
import HandS.HeadEnd
import HandS.Head0
import HandS.Head1
import HandS.Head2
import PySem.Challenge.RW_ownhearing_k01_forms_of_conditions
section
set_option Elab.async false
set_option linter.all false
set_option maxRecDepth 100000
set_option maxHeartbeats 2000000
/-! Pv: values without a heap, a small language of them, its evaluator. -/
namespace Pv
open PySem L2

/-- a value: what is frozen stands inline; mrf k is the k-th thing of the store, which may change -/
inductive D where
  | non | bl (b : Bool) | int (i : Int) | str (x : Str) | tup (xs : List D) | lst (xs : List D) | dct (kvs : List (D × D)) | mrf (k : Nat) | rol (xs : List D)

/-- a thing of the store -/
inductive MO where
  | lst (xs : List D) | gone
abbrev Sto := List MO

/-- an outcome -/
inductive R (α : Type) where
  | stuck | ok (a : α) (st : Sto)
namespace R
variable {α β : Type}
def bind : R α → (α → Sto → R β) → R β
  | .stuck, _ => .stuck
  | .ok a st, f => f a st
@[simp] theorem bind_ok (a : α) (st : Sto) (f : α → Sto → R β) : (R.ok a st).bind f = f a st := rfl
@[simp] theorem bind_stuck (f : α → Sto → R β) : (R.stuck : R α).bind f = .stuck := rfl
/-- what holds of the outcome -/
def wp (r : R α) (Q : α → Sto → Prop) : Prop := match r with
  | .stuck => False
  | .ok a st => Q a st
theorem wp_bind {r : R α} {f : α → Sto → R β} {Q : β → Sto → Prop} : (r.bind f).wp Q ↔ r.wp fun a st => (f a st).wp Q := by
  cases r <;> exact Iff.rfl
theorem wp_mono {r : R α} {Q Q' : α → Sto → Prop} (h : r.wp Q) (k : ∀ a st, Q a st → Q' a st) : r.wp Q' := by
  cases r with
  | stuck => exact h
  | ok a st => exact k a st h
end R
def opt {α : Type} (o : Option α) (st : Sto) : R α := match o with
  | some a => .ok a st
  | none => .stuck
@[simp] theorem opt_some {α : Type} (a : α) (st : Sto) : opt (some a) st = .ok a st := rfl
def must {α : Type} (p : Prop) [Decidable p] (r : R α) : R α := if p then r else .stuck
theorem must_pos {α : Type} {p : Prop} [Decidable p] (h : p) (r : R α) : must p r = r := if_pos h

/-! ### data -/
mutual
def toP : D → Option PyData
  | .non => some .none
  | .bl b => some (.bool b)
  | .int i => some (.int i)
  | .str x => some (.str x)
  | .tup xs => (toPs xs).map .tuple
  | .lst xs => (toPs xs).map .list
  | .dct _ => none
  | .mrf _ => none
  | .rol _ => none
def toPs : List D → Option (List PyData)
  | [] => some []
  | x :: xs => match toP x, toPs xs with
    | some p, some ps => some (p :: ps)
    | _, _ => none
end
/-- a list's items (a frozen one, or one of the store) -/
def asLst (st : Sto) : D → Option (List D)
  | .lst xs => some xs
  | .mrf k => match st[k]? with
    | some (.lst xs) => some xs
    | _ => none
  | _ => none
def asTup : D → Option (List D)
  | .tup xs => some xs
  | _ => none
def asSeq (st : Sto) : D → Option (List D)
  | .tup xs => some xs
  | .rol xs => some xs
  | d => asLst st d
def asI : D → Option Int
  | .int i => some i
  | _ => none
def truth (st : Sto) : D → Option Bool
  | .non => some false
  | .bl b => some b
  | .int i => some (i != 0)
  | .str x => if x.length ≤ sizeLine then some ((x.length : Int) != 0) else none
  | .tup xs => some (!xs.isEmpty)
  | .rol xs => some (!xs.isEmpty)
  | .dct xs => some (!xs.isEmpty)
  | d => (asLst st d).map fun xs => !xs.isEmpty
def flat? : D → Option V
  | .non => some .non
  | .bl b => some (.bl b)
  | .int i => some (.int i)
  | .str x => some (.str x)
  | _ => none

/-! ### operators -/
inductive O2 where
  | add | sub | mul | fdiv | mod | pow
inductive OC where
  | eq | ne | lt | le | gt | ge | is | nis | isin | nin

def lenOk (n : Nat) : Bool := decide (n ≤ sizeLine)
def bin (st : Sto) : O2 → D → D → R D
  | .add, .int i, .int j => .ok (.int (i + j)) st
  | .add, .str x, .str y => must (x.length + y.length ≤ sizeLine) (.ok (.str (x ++ y)) st)
  | .add, .tup xs, .tup ys => must (xs.length + ys.length ≤ sizeLine) (.ok (.tup (xs ++ ys)) st)
  | .add, a, b => match asLst st a, asLst st b with
    | some xs, some ys => must (xs.length + ys.length ≤ sizeLine) (.ok (.lst (xs ++ ys)) st)
    | _, _ => .stuck
  | .sub, .int i, .int j => .ok (.int (i - j)) st
  | .mul, .int i, .int j => must ((-(2 ^ 64) < i ∧ i < 2 ^ 64) ∨ (-(2 ^ 64) < j ∧ j < 2 ^ 64)) (.ok (.int (i * j)) st)
  | .mul, a, .int k => match asLst st a with
    | some xs => must (-(2 ^ 63) ≤ k ∧ k < 2 ^ 63 ∧ xs.length * k.toNat ≤ sizeLine) (.ok (.lst (List.replicate k.toNat xs).flatten) st)
    | none => .stuck
  | .fdiv, .int i, .int j => must (0 < j ∧ j < 1073741824) (.ok (.int (i / j)) st)
  | .mod, .int i, .int j => must (0 < j) (.ok (.int (i % j)) st)
  | .pow, .int i, .int j => must (0 ≤ j ∧ j ≤ 1000000 ∧ i.natAbs < 2 ^ 64) (.ok (.int (i ^ j.toNat)) st)
  | _, _, _ => .stuck
def eqD (a b : D) : Option Bool := match toP a, toP b with
  | some p, some q => if SeqAt.shaped p = true ∧ SeqAt.shaped q = true then some (PyData.eqv p q) else none
  | _, _ => none
/-- lists of unlike lengths are unlike, whatever stands in them -/
def eqS (st : Sto) (a b : D) : Option Bool := match eqD a b with
  | some r => some r
  | none => match asLst st a, asLst st b with
    | some xs, some ys => if xs.length ≠ ys.length then some false else if xs.isEmpty then some true else none
    | _, _ => none
def inS (a z : Str) : Option Bool := match a.cps.toList with
  | [c] => some (decide (c ∈ z.cps.toList))
  | _ => none
def inD (st : Sto) (x y : D) : Option Bool := match y with
  | .str z => match x with
    | .str a => inS a z
    | _ => none
  | .tup ys => match flat? x, ys.mapM flat? with
    | some v, some vs => some (inV v vs)
    | _, _ => none
  | .lst ys => match toP x, toPs ys with
    | some p, some qs => if SeqAt.shaped p = true ∧ SeqAt.shaped (.list qs) = true then some (qs.any fun z => PyData.eqv z p) else none
    | _, _ => none
  | _ => none
def isD (a b : D) : Option Bool := match a, b with
  | .non, .non => some true
  | .bl _, .non => some false
  | .int _, .non => some false
  | .str _, .non => some false
  | .tup _, .non => some false
  | .lst _, .non => some false
  | .dct _, .non => some false
  | .mrf _, .non => some false
  | .rol _, .non => some false
  | .bl a, .bl b => some (decide (a = b))
  | _, _ => none
def cmpD (st : Sto) : OC → D → D → Option Bool
  | .eq, a, b => eqS st a b
  | .ne, a, b => (eqD a b).map (!·)
  | .lt, .int i, .int j => some (decide (i < j))
  | .le, .int i, .int j => some (decide (i ≤ j))
  | .gt, .int i, .int j => some (decide (j < i))
  | .ge, .int i, .int j => some (decide (j ≤ i))
  | .is, a, b => isD a b
  | .nis, a, b => (isD a b).map (!·)
  | .isin, a, b => inD st a b
  | .nin, a, b => (inD st a b).map (!·)
  | _, _, _ => none
def ixD (st : Sto) (a b : D) : Option D := match a, b with
  | .str x, .int i => if x.length ≤ sizeLine then (atI x.cps.toList i).map fun c => .str ⟨#[c]⟩ else none
  | a, .int i => (asSeq st a).bind fun xs => atI xs i
  | _, _ => none
def cutD {α : Type} (xs : List α) (lo hi : Option Int) : List α := (xs.drop (HT.sIx xs.length 0 lo)).take (HT.sIx xs.length xs.length hi - HT.sIx xs.length 0 lo)
def slD (st : Sto) (a : D) (lo hi : Option Int) : Option D := match a with
  | .tup xs => some (.tup (cutD xs lo hi))
  | .rol xs => some (.lst (cutD xs lo hi))
  | a => (asLst st a).map fun xs => .lst (cutD xs lo hi)
def ints? : List D → Option (List Int)
  | [] => some []
  | .int i :: r => (ints? r).map (i :: ·)
  | _ :: _ => none
def bools? : List D → Option (List Bool)
  | [] => some []
  | .bl b :: r => (bools? r).map (b :: ·)
  | _ :: _ => none
def maxL : List Int → Option Int
  | [] => none
  | i :: r => some (r.foldl max i)
inductive F1 where
  | len | int | abs | all | any | sum | max | list | tuple | repr
def ofB (st : Sto) : F1 → D → R D
  | .len, .str x => must (x.length ≤ sizeLine) (.ok (.int x.length) st)
  | .len, a => (opt (asSeq st a) st).bind fun xs st => .ok (.int xs.length) st
  | .int, .int i => .ok (.int i) st
  | .int, .bl b => .ok (.int (if b then 1 else 0)) st
  | .abs, .int i => .ok (.int (if i < 0 then -i else i)) st
  | .all, a => (opt ((asLst st a).bind bools?) st).bind fun bs st => .ok (.bl (bs.all id)) st
  | .any, a => (opt ((asLst st a).bind bools?) st).bind fun bs st => .ok (.bl (bs.any id)) st
  | .sum, a => (opt ((asLst st a).bind ints?) st).bind fun bs st => .ok (.int bs.sum) st
  | .max, a => (opt (((asLst st a).bind ints?).bind maxL) st).bind fun i st => .ok (.int i) st
  | .list, a => (opt (asSeq st a) st).bind fun xs st => .ok (.lst xs) st
  | .tuple, a => (opt (asSeq st a) st).bind fun xs st => .ok (.tup xs) st
  | .repr, a => match toP a with
    | some p => must (p.showable = true ∧ p.shown.length ≤ sizeLine ∧ p.depth ≤ 60) (.ok (.str p.shown) st)
    | none => .stuck
  | _, _ => .stuck

/-- a class that is asked for -/
inductive Cl where
  | int | bool | str | list | tuple | dict
/-- a value's kind -/
inductive Kd where
  | non | bl | int | str | tup | lst | dct
def kdOf : D → Kd
  | .non => .non | .bl _ => .bl | .int _ => .int | .str _ => .str | .tup _ => .tup | .lst _ => .lst | .rol _ => .lst | .mrf _ => .lst | .dct _ => .dct
def isiK : Cl → Kd → Bool
  | .int, .int => true
  | .int, .bl => true
  | .bool, .bl => true
  | .str, .str => true
  | .list, .lst => true
  | .tuple, .tup => true
  | .dict, .dct => true
  | _, _ => false
def isiOne (c : Cl) (d : D) : Bool := isiK c (kdOf d)
/-- the value whose class is asked is no dead handle -/
def live (st : Sto) : D → Bool
  | .mrf k => match st[k]? with
    | some (.lst _) => true
    | _ => false
  | _ => true

/-! ### the language -/
inductive Tg where
  | nm (i : Nat) | tup (ts : List Tg)
inductive Xp where
  | var (i : Nat) | lit (d : D) | bin (o : O2) (a b : Xp) | cmp (o : OC) (a b : Xp) | chain (o o' : OC) (a b c : Xp)
  | and (a b : Xp) | or (a b : Xp) | not (a : Xp) | neg (a : Xp) | ife (c a b : Xp)
  | tup (es : List Xp) | lst (es : List Xp) | mlst (es : List Xp) | dnew
  | ix (a b : Xp) | sl (a : Xp) (lo hi : Option Xp) | call (f : Nat) (es : List Xp) | fn (f : F1) (a : Xp) | isi (a : Xp) (cs : List Cl)
  | comp (own : List Nat) (tg : Tg) (it : Xp) (cs : List Xp) (e : Xp)
  | rcomp (own : List Nat) (tg : Tg) (n : Xp) (cs : List Xp) (e : Xp)

/-- what the slots hold -/
abbrev En := List (Option D)
def wipeE (env : En) : List Nat → En
  | [] => env
  | v :: vs => (wipeE env vs).set v none
mutual
def bindT : Tg → D → En → Option En
  | .nm i, d, env => some (env.set i (some d))
  | .tup ts, .tup ds, env => bindTs ts ds env
  | .tup _, _, _ => none
def bindTs : List Tg → List D → En → Option En
  | [], [], env => some env
  | t :: ts, d :: ds, env => (bindT t d env).bind fun env => bindTs ts ds env
  | _, _, _ => none
end
/-- what is walked -/
def itemsOf (st : Sto) : D → Option (List D)
  | .lst xs => some xs
  | .tup xs => some xs
  | .rol xs => some xs
  | .str x => some (x.cps.toList.map fun c => .str ⟨#[c]⟩)
  | _ => none
def rangeD (n : Nat) : List D := (List.range n).map fun i => .int (i : Nat)
/-- one comprehension's turns: acc holds what is made so far -/
def compR (tg : Tg) (env : En) (tests : En → Sto → R Bool) (elt : En → Sto → R D) : List D → List D → Sto → R (List D)
  | acc, [], st => .ok acc st
  | acc, d :: ds, st => (opt (bindT tg d env) st).bind fun env' st => (tests env' st).bind fun c st =>
      if c then (elt env' st).bind fun y st => must (acc.length < sizeLine) (compR tg env tests elt (acc ++ [y]) ds st) else compR tg env tests elt acc ds st

section
variable (call : Nat → List D → Sto → R D)
mutual
def evX : Xp → En → Sto → R D
  | .var i, env, st => match env[i]? with
    | some (some d) => .ok d st
    | _ => .stuck
  | .lit d, _, st => .ok d st
  | .bin o a b, env, st => (evX a env st).bind fun x st => (evX b env st).bind fun y st => bin st o x y
  | .cmp o a b, env, st => (evX a env st).bind fun x st => (evX b env st).bind fun y st => (opt (cmpD st o x y) st).bind fun r st => .ok (.bl r) st
  | .chain o o' a b c, env, st => (evX a env st).bind fun x st => (evX b env st).bind fun y st => (opt (cmpD st o x y) st).bind fun r st =>
      if r then (evX c env st).bind fun z st => (opt (cmpD st o' y z) st).bind fun r st => .ok (.bl r) st else .ok (.bl false) st
  | .and a b, env, st => (evX a env st).bind fun x st => (opt (truth st x) st).bind fun r st => if r then evX b env st else .ok x st
  | .or a b, env, st => (evX a env st).bind fun x st => (opt (truth st x) st).bind fun r st => if r then .ok x st else evX b env st
  | .not a, env, st => (evX a env st).bind fun x st => (opt (truth st x) st).bind fun r st => .ok (.bl (!r)) st
  | .neg a, env, st => (evX a env st).bind fun x st => (opt (asI x) st).bind fun i st => .ok (.int (-i)) st
  | .ife c a b, env, st => (evX c env st).bind fun x st => (opt (truth st x) st).bind fun r st => if r then evX a env st else evX b env st
  | .tup es, env, st => (evXs es env st).bind fun ds st => must (ds.length ≤ sizeLine) (.ok (.tup ds) st)
  | .lst es, env, st => (evXs es env st).bind fun ds st => must (ds.length ≤ sizeLine) (.ok (.lst ds) st)
  | .mlst es, env, st => (evXs es env st).bind fun ds st => must (ds.length ≤ sizeLine) (.ok (.mrf st.length) (st ++ [.lst ds]))
  | .dnew, _, st => .ok (.dct []) st
  | .ix a b, env, st => (evX a env st).bind fun x st => (evX b env st).bind fun y st => opt (ixD st x y) st
  | .sl a lo hi, env, st => (evX a env st).bind fun x st => (evO lo env st).bind fun l st => (evO hi env st).bind fun h st => opt (slD st x l h) st
  | .call f es, env, st => (evXs es env st).bind fun ds st => call f ds st
  | .fn f a, env, st => (evX a env st).bind fun x st => ofB st f x
  | .isi a cs, env, st => (evX a env st).bind fun x st => must (live st x = true) (.ok (.bl (cs.any fun c => isiOne c x)) st)
  | .comp own tg it cs e, env, st => (evX it env st).bind fun x st => (opt (itemsOf st x) st).bind fun ds st =>
      (compR tg (wipeE env own) (fun env st => evC cs env st) (fun env st => evX e env st) [] ds st).bind fun ys st => .ok (.lst ys) st
  | .rcomp own tg n cs e, env, st => (evX n env st).bind fun x st => (opt (asI x) st).bind fun j st => must (-(2 ^ 62) ≤ j ∧ j < 2 ^ 62) ((compR tg (wipeE env own) (fun env st => evC cs env st) (fun env st => evX e env st) [] (rangeD j.toNat) st).bind fun ys st => .ok (.lst ys) st)
def evO : Option Xp → En → Sto → R (Option Int)
  | none, _, st => .ok none st
  | some e, env, st => (evX e env st).bind fun x st => (opt (asI x) st).bind fun i st => .ok (some i) st
def evXs : List Xp → En → Sto → R (List D)
  | [], _, st => .ok [] st
  | x :: xs, env, st => (evX x env st).bind fun d st => (evXs xs env st).bind fun ds st => .ok (d :: ds) st
/-- tests, all of them -/
def evC : List Xp → En → Sto → R Bool
  | [], _, st => .ok true st
  | x :: xs, env, st => (evX x env st).bind fun d st => (opt (truth st d) st).bind fun r st => if r then evC xs env st else .ok false st
end

/-- o[i] = v -/
def putD (st : Sto) (o i v : D) : Option Sto := match o, i with
  | .mrf k, .int j => match st[k]? with
    | some (.lst xs) => (ixN xs.length j).map fun n => st.set k (.lst (xs.set n v))
    | _ => none
  | _, _ => none
/-- a statement -/
inductive S where
  | set (t : Tg) (e : Xp) | par (i j : Nat) (a b : Xp) | if (c : Xp) (a b : List S) | ret (e : Xp) | retN | for (t : Tg) (it : Xp) (b : List S) | range (t : Tg) (n : Xp) (b : List S)
  | exp (e : Xp) | pass | brk | cont | put (o i e : Xp)
inductive Fl where
  | next (env : En) | ret (d : D) | brk (env : En) | cont (env : En)

def forR (tg : Tg) (body : En → Sto → R Fl) : En → List D → Sto → R Fl
  | env, [], st => .ok (.next env) st
  | env, d :: ds, st => (opt (bindT tg d env) st).bind fun env st => (body env st).bind fun f st => match f with
    | .next env => forR tg body env ds st
    | .cont env => forR tg body env ds st
    | .brk env => .ok (.next env) st
    | .ret d => .ok (.ret d) st
mutual
def evS : S → En → Sto → R Fl
  | .set t e, env, st => (evX call e env st).bind fun d st => (opt (bindT t d env) st).bind fun env st => .ok (.next env) st
  | .par i j a b, env, st => (evX call a env st).bind fun x st => (evX call b env st).bind fun y st => .ok (.next ((env.set i (some x)).set j (some y))) st
  | .if c a b, env, st => (evX call c env st).bind fun x st => (opt (truth st x) st).bind fun r st => if r then evSs a env st else evSs b env st
  | .ret e, env, st => (evX call e env st).bind fun d st => .ok (.ret d) st
  | .retN, _, st => .ok (.ret .non) st
  | .for t it b, env, st => (evX call it env st).bind fun x st => (opt (itemsOf st x) st).bind fun ds st => forR t (fun env st => evSs b env st) env ds st
  | .range t n b, env, st => (evX call n env st).bind fun x st => (opt (asI x) st).bind fun j st => must (-(2 ^ 62) ≤ j ∧ j < 2 ^ 62) (forR t (fun env st => evSs b env st) env (rangeD j.toNat) st)
  | .exp e, env, st => (evX call e env st).bind fun _ st => .ok (.next env) st
  | .pass, env, st => .ok (.next env) st
  | .brk, env, st => .ok (.brk env) st
  | .cont, env, st => .ok (.cont env) st
  | .put o i e, env, st => (evX call e env st).bind fun v st => (evX call o env st).bind fun o st => (evX call i env st).bind fun i st => (opt (putD st o i v) st).bind fun st' _ => .ok (.next env) st'
def evSs : List S → En → Sto → R Fl
  | [], env, st => .ok (.next env) st
  | s :: ss, env, st => (evS s env st).bind fun f st => match f with
    | .next env => evSs ss env st
    | f => .ok f st
end
end

/-- a def: how many parameters, how many slots, its body -/
structure Df where
  ps : Nat
  ns : Nat
  body : List S
def resOf (r : R Fl) : R D := r.bind fun f st => match f with
  | .next _ => .ok .non st
  | .ret d => .ok d st
  | _ => .stuck
def startE (n : Nat) (ds : List D) : En := ds.map some ++ List.replicate (n - ds.length) none
def evCall (T : List Df) : Nat → Nat → List D → Sto → R D
  | 0, _, _, _ => .stuck
  | n + 1, f, ds, st => match T[f]? with
    | some d => if ds.length = d.ps then resOf (evSs (evCall T n) d.body (startE d.ns ds) st) else .stuck
    | none => .stuck
end Pv
end
section
set_option Elab.async false
set_option autoImplicit false
set_option linter.all false
set_option maxRecDepth 100000
set_option maxHeartbeats 2000000
/-! Pv: how values stand in the heap. -/
namespace Pv
open PySem L2

/-- where the store's things stand; what is frozen -/
structure Wd where
  th : List Addr
  fz : Addr → Prop

theorem nef {w : Wd} {a b : Addr} (h : ¬ w.fz a) (f : w.fz b) : b ≠ a := fun z => h (by rw [← z]; exact f)
theorem net {w : Wd} {a b : Addr} (h : a ∉ w.th) (f : b ∈ w.th) : b ≠ a := fun z => h (by rw [← z]; exact f)
/-- a sequence of the written part -/
def KL (K : PySem.W.Frag) (a : Addr) (vs : List V) : Prop := SqL K (fun _ => none) a vs
def KT (K : PySem.W.Frag) (a : Addr) (vs : List V) : Prop := SqT K (fun _ => none) a vs
theorem KL.sq {K : PySem.W.Frag} {a : Addr} {vs : List V} {H : Hp} (h : KL K a vs) : SqL K H a vs := by
  rcases h with (h | ⟨o, h⟩) | h
  · cases h
  · cases h
  · exact .inr h
theorem KT.sq {K : PySem.W.Frag} {a : Addr} {vs : List V} {H : Hp} (h : KT K a vs) : SqT K H a vs := by
  rcases h with (h | ⟨o, h⟩) | h
  · cases h
  · cases h
  · exact .inr h

mutual
inductive Dv (K : PySem.W.Frag) (w : Wd) (H : Hp) : V → D → Prop where
  | non : Dv K w H .non .non
  | bl (b : Bool) : Dv K w H (.bl b) (.bl b)
  | int (i : Int) : Dv K w H (.int i) (.int i)
  | str (x : Str) : Dv K w H (.str x) (.str x)
  | tup {a : Addr} {vs : List V} {ds : List D} : w.fz a → H a = some (.tup vs) → Dvs K w H vs ds → Dv K w H (.ref a) (.tup ds)
  | ktup {a : Addr} {vs : List V} {ds : List D} : KT K a vs → Dvs K w H vs ds → Dv K w H (.ref a) (.tup ds)
  | lst {a : Addr} {vs : List V} {ds : List D} : w.fz a → H a = some (.lst vs) → Dvs K w H vs ds → Dv K w H (.ref a) (.lst ds)
  | rol {a : Addr} {vs : List V} {ds : List D} {o : Obj} : w.fz a → H a = some (.frz o (.lst vs)) → Dvs K w H vs ds → Dv K w H (.ref a) (.rol ds)
  | krol {a : Addr} {vs : List V} {ds : List D} : KL K a vs → Dvs K w H vs ds → Dv K w H (.ref a) (.rol ds)
  | dct {a : Addr} : w.fz a → H a = some (.dK []) → Dv K w H (.ref a) (.dct [])
  | mrf {k : Nat} {a : Addr} : w.th[k]? = some a → Dv K w H (.ref a) (.mrf k)
inductive Dvs (K : PySem.W.Frag) (w : Wd) (H : Hp) : List V → List D → Prop where
  | nil : Dvs K w H [] []
  | cons {v : V} {vs : List V} {d : D} {ds : List D} : Dv K w H v d → Dvs K w H vs ds → Dvs K w H (v :: vs) (d :: ds)
end

/-- what was there is there -/
structure Le (w : Wd) (H : Hp) (w' : Wd) (H' : Hp) : Prop where
  th : ∀ (k : Nat) (a : Addr), w.th[k]? = some a → w'.th[k]? = some a
  fz : ∀ a, w.fz a → w'.fz a
  ob : ∀ a o, w.fz a → H a = some o → H' a = some o
/-- a run from here to there -/
structure Ext (w : Wd) (H : Hp) (w' : Wd) (H' : Hp) : Prop extends Le w H w' H' where
  keep : ∀ a o, H a = some o → a ∉ w.th → H' a = some o
  newF : ∀ a, w'.fz a → w.fz a ∨ a ∈ w.th ∨ H a = none
  newT : ∀ a, a ∈ w'.th → a ∈ w.th ∨ H a = none
theorem Le.refl (w : Wd) (H : Hp) : Le w H w H := ⟨fun _ _ h => h, fun _ h => h, fun _ _ _ h => h⟩
theorem Le.trans {w w1 w2 : Wd} {H H1 H2 : Hp} (a : Le w H w1 H1) (b : Le w1 H1 w2 H2) : Le w H w2 H2 :=
  ⟨fun k x h => b.th k x (a.th k x h), fun x h => b.fz x (a.fz x h), fun x o h e => b.ob x o (a.fz x h) (a.ob x o h e)⟩
theorem Ext.refl (w : Wd) (H : Hp) : Ext w H w H := ⟨Le.refl w H, fun _ _ h _ => h, fun _ h => .inl h, fun _ h => .inl h⟩
theorem mem_th {w w' : Wd} {H H' : Hp} (e : Le w H w' H') {a : Addr} (h : a ∈ w.th) : a ∈ w'.th := by
  obtain ⟨k, hk⟩ := List.getElem?_of_mem h
  exact List.mem_of_getElem? (e.th k a hk)
theorem Ext.trans {w w1 w2 : Wd} {H H1 H2 : Hp} (a : Ext w H w1 H1) (b : Ext w1 H1 w2 H2) : Ext w H w2 H2 := by
  refine ⟨a.toLe.trans b.toLe, fun x o h n => ?_, fun x h => ?_, fun x h => ?_⟩
  · have h1 := a.keep x o h n
    refine b.keep x o h1 fun m => ?_
    rcases a.newT x m with m | m
    · exact n m
    · rw [m] at h; cases h
  · rcases b.newF x h with h | h | h
    · exact a.newF x h
    · rcases a.newT x h with h | h
      · exact .inr (.inl h)
      · exact .inr (.inr h)
    · cases e : H x with
      | none => exact .inr (.inr rfl)
      | some o =>
        by_cases m : x ∈ w.th
        · exact .inr (.inl m)
        · rw [a.keep x o e m] at h; cases h
  · rcases b.newT x h with h | h
    · exact a.newT x h
    · cases e : H x with
      | none => exact .inr rfl
      | some o =>
        by_cases m : x ∈ w.th
        · exact .inl m
        · rw [a.keep x o e m] at h; cases h
mutual
theorem Dv.mono {K : PySem.W.Frag} {w w' : Wd} {H H' : Hp} (e : Le w H w' H') : ∀ (d : D) (v : V), Dv K w H v d → Dv K w' H' v d
  | .non, _, h => by cases h; exact .non
  | .bl _, _, h => by cases h; exact .bl _
  | .int _, _, h => by cases h; exact .int _
  | .str _, _, h => by cases h; exact .str _
  | .tup ds, _, h => by
    cases h with
    | tup f o r => exact .tup (e.fz _ f) (e.ob _ _ f o) (Dvs.mono e ds _ r)
    | ktup k r => exact .ktup k (Dvs.mono e ds _ r)
  | .lst ds, _, h => by
    cases h with
    | lst f o r => exact .lst (e.fz _ f) (e.ob _ _ f o) (Dvs.mono e ds _ r)
  | .rol ds, _, h => by
    cases h with
    | rol f o r => exact .rol (e.fz _ f) (e.ob _ _ f o) (Dvs.mono e ds _ r)
    | krol k r => exact .krol k (Dvs.mono e ds _ r)
  | .dct ds, _, h => by
    cases h with
    | dct f o => exact .dct (e.fz _ f) (e.ob _ _ f o)
  | .mrf k, _, h => by
    cases h with
    | mrf o => exact .mrf (e.th _ _ o)
theorem Dvs.mono {K : PySem.W.Frag} {w w' : Wd} {H H' : Hp} (e : Le w H w' H') : ∀ (ds : List D) (vs : List V), Dvs K w H vs ds → Dvs K w' H' vs ds
  | [], _, h => by cases h; exact .nil
  | d :: ds, _, h => by
    cases h with
    | cons a b => exact .cons (Dv.mono e d _ a) (Dvs.mono e ds _ b)
end
theorem Dv.le {K : PySem.W.Frag} {w w' : Wd} {H H' : Hp} {v : V} {d : D} (h : Dv K w H v d) (e : Le w H w' H') : Dv K w' H' v d := Dv.mono e d v h
theorem Dvs.le {K : PySem.W.Frag} {w w' : Wd} {H H' : Hp} {v : List V} {d : List D} (h : Dvs K w H v d) (e : Le w H w' H') : Dvs K w' H' v d := Dvs.mono e d v h
theorem Dvs.length {K : PySem.W.Frag} {w : Wd} {H : Hp} : ∀ {vs : List V} {ds : List D}, Dvs K w H vs ds → vs.length = ds.length
  | _, _, .nil => rfl
  | _, _, .cons _ r => congrArg (· + 1) (Dvs.length r)
theorem Dvs.get {K : PySem.W.Frag} {w : Wd} {H : Hp} : ∀ {vs : List V} {ds : List D} {i : Nat} {d : D}, Dvs K w H vs ds → ds[i]? = some d → ∃ v, vs[i]? = some v ∧ Dv K w H v d
  | _, _, i, d, .nil, e => by simp at e
  | _, _, 0, d, .cons a r, e => ⟨_, rfl, by simp at e; subst e; exact a⟩
  | _, _, i + 1, d, .cons a r, e => by
    obtain ⟨v, h1, h2⟩ := Dvs.get (i := i) r (by simpa using e)
    exact ⟨v, by simpa using h1, h2⟩
theorem Dvs.append {K : PySem.W.Frag} {w : Wd} {H : Hp} : ∀ {vs us : List V} {ds es : List D}, Dvs K w H vs ds → Dvs K w H us es → Dvs K w H (vs ++ us) (ds ++ es)
  | _, _, _, _, .nil, s => s
  | _, _, _, _, .cons a r, s => .cons a (r.append s)
theorem Dvs.take {K : PySem.W.Frag} {w : Wd} {H : Hp} : ∀ {vs : List V} {ds : List D} (n : Nat), Dvs K w H vs ds → Dvs K w H (vs.take n) (ds.take n)
  | _, _, 0, _ => by simp; exact .nil
  | _, _, n + 1, .nil => .nil
  | _, _, n + 1, .cons a r => .cons a (r.take n)
theorem Dvs.drop {K : PySem.W.Frag} {w : Wd} {H : Hp} : ∀ {vs : List V} {ds : List D} (n : Nat), Dvs K w H vs ds → Dvs K w H (vs.drop n) (ds.drop n)
  | _, _, 0, h => h
  | _, _, n + 1, .nil => .nil
  | _, _, n + 1, .cons a r => Dvs.drop n r
theorem Dvs.set {K : PySem.W.Frag} {w : Wd} {H : Hp} {v : V} {d : D} (h : Dv K w H v d) : ∀ {vs : List V} {ds : List D} (n : Nat), Dvs K w H vs ds → Dvs K w H (vs.set n v) (ds.set n d)
  | _, _, _, .nil => .nil
  | _, _, 0, .cons a r => .cons h r
  | _, _, n + 1, .cons a r => .cons a (Dvs.set h n r)
theorem Dvs.flat {K : PySem.W.Frag} {w : Wd} {H : Hp} {vs : List V} {ds : List D} (h : Dvs K w H vs ds) : ∀ n : Nat, Dvs K w H (List.replicate n vs).flatten (List.replicate n ds).flatten
  | 0 => .nil
  | n + 1 => by
    rw [List.replicate_succ, List.replicate_succ, List.flatten_cons, List.flatten_cons]
    exact h.append (h.flat n)

/-- the store stands in the heap -/
structure Good (K : PySem.W.Frag) (w : Wd) (H : Hp) (st : Sto) : Prop where
  len : st.length = w.th.length
  nd : w.th.Nodup
  thIn : ∀ a, a ∈ w.th → H a ≠ none
  fzIn : ∀ a, w.fz a → H a ≠ none
  lst : ∀ (k : Nat) (ds : List D), st[k]? = some (.lst ds) → ∃ a vs, w.th[k]? = some a ∧ ¬ w.fz a ∧ H a = some (.lst vs) ∧ Dvs K w H vs ds
section
variable {K : PySem.W.Frag} {w : Wd} {H : Hp} {st : Sto}
/-- a thing beside is changed -/
theorem Le.upd {a : Addr} {o : HO} (h : ¬ w.fz a) : Le w H w (upd H a o) := ⟨fun _ _ h => h, fun _ h => h, fun b u f e => by
  rw [upd_ne (nef h f)]
  exact e⟩
theorem Good.upd (g : Good K w H st) {a : Addr} {o : HO} (h : ¬ w.fz a) (t : a ∉ w.th) : Good K w (upd H a o) st := by
  refine ⟨g.len, g.nd, fun b m => ?_, fun b m => ?_, fun k ds e => ?_⟩
  · rw [upd_ne (net t m)]; exact g.thIn b m
  · rw [upd_ne (nef h m)]; exact g.fzIn b m
  · obtain ⟨b, vs, h1, h2, h3, h4⟩ := g.lst k ds e
    exact ⟨b, vs, h1, h2, by rw [upd_ne (net t (List.mem_of_getElem? h1))]; exact h3, h4.le (Le.upd h)⟩
/-- a new thing, frozen -/
def Wd.frz (w : Wd) (p : Addr) : Wd := ⟨w.th, fun a => w.fz a ∨ a = p⟩
theorem Good.no_fz (g : Good K w H st) {p : Addr} (h : H p = none) : ¬ w.fz p := fun z => g.fzIn p z h
theorem Good.no_th (g : Good K w H st) {p : Addr} (h : H p = none) : p ∉ w.th := fun z => g.thIn p z h
theorem Ext.frz (g : Good K w H st) {p : Addr} {o : HO} (h : H p = none) : Ext w H (w.frz p) (L2.upd H p o) := by
  refine ⟨⟨fun _ _ e => e, fun _ e => .inl e, fun a u f e => ?_⟩, fun a u e _ => ?_, fun a f => ?_, fun a f => .inl f⟩
  · rw [upd_ne (ne_of_none e h)]; exact e
  · rw [upd_ne (ne_of_none e h)]; exact e
  · rcases f with f | f
    · exact .inl f
    · subst f; exact .inr (.inr h)
theorem Good.frz (g : Good K w H st) {p : Addr} {o : HO} (h : H p = none) : Good K (w.frz p) (L2.upd H p o) st := by
  have e : Ext w H (w.frz p) (L2.upd H p o) := Ext.frz g h
  refine ⟨g.len, g.nd, fun b m => ?_, fun b m => ?_, fun k ds q => ?_⟩
  · rw [upd_ne (net (g.no_th h) m)]; exact g.thIn b m
  · rcases m with m | m
    · rw [upd_ne (nef (g.no_fz h) m)]; exact g.fzIn b m
    · subst m; rw [upd_same]; intro z; cases z
  · obtain ⟨b, vs, h1, h2, h3, h4⟩ := g.lst k ds q
    refine ⟨b, vs, h1, fun z => ?_, by rw [upd_ne (net (g.no_th h) (List.mem_of_getElem? h1))]; exact h3, h4.le e.toLe⟩
    rcases z with z | z
    · exact h2 z
    · subst z; exact g.no_th h (List.mem_of_getElem? h1)
/-- a new thing of the store -/
def Wd.more (w : Wd) (p : Addr) : Wd := ⟨w.th ++ [p], w.fz⟩
theorem Ext.more (g : Good K w H st) {p : Addr} {o : HO} (h : H p = none) : Ext w H (w.more p) (L2.upd H p o) := by
  refine ⟨⟨fun k a e => ?_, fun _ e => e, fun a u f e => ?_⟩, fun a u e _ => ?_, fun a f => .inl f, fun a f => ?_⟩
  · show (w.th ++ [p])[k]? = some a
    rw [List.getElem?_append_left (List.getElem?_eq_some_iff.mp e).1]; exact e
  · rw [upd_ne (ne_of_none e h)]; exact e
  · rw [upd_ne (ne_of_none e h)]; exact e
  · rcases List.mem_append.mp f with f | f
    · exact .inl f
    · rw [List.mem_singleton.mp f]; exact .inr h
theorem Good.more (g : Good K w H st) {p : Addr} {vs : List V} {ds : List D} (h : H p = none) (r : Dvs K w H vs ds) : Good K (w.more p) (L2.upd H p (.lst vs)) (st ++ [.lst ds]) := by
  have e : Ext w H (w.more p) (L2.upd H p (.lst vs)) := Ext.more g h
  refine ⟨?_, ?_, fun b m => ?_, fun b m => ?_, fun k es q => ?_⟩
  · show _ = (w.th ++ [p]).length
    rw [List.length_append, List.length_append, g.len]; rfl
  · show (w.th ++ [p]).Nodup
    refine List.nodup_append.mpr ⟨g.nd, by simp, fun a m b n => ?_⟩
    rw [List.mem_singleton.mp n]
    exact net (g.no_th h) m
  · rcases List.mem_append.mp m with m | m
    · rw [upd_ne (net (g.no_th h) m)]; exact g.thIn b m
    · rw [List.mem_singleton.mp m, upd_same]; intro z; cases z
  · have m : w.fz b := m
    rw [upd_ne (nef (g.no_fz h) m)]; exact g.fzIn b m
  · by_cases hk : k < st.length
    · rw [List.getElem?_append_left hk] at q
      obtain ⟨b, us, h1, h2, h3, h4⟩ := g.lst k es q
      exact ⟨b, us, e.th _ _ h1, h2, by rw [upd_ne (net (g.no_th h) (List.mem_of_getElem? h1))]; exact h3, h4.le e.toLe⟩
    · rw [List.getElem?_append_right (by omega)] at q
      have hk' : k - st.length = 0 := by
        have := (List.getElem?_eq_some_iff.mp q).1
        simp at this; omega
      rw [hk'] at q
      have q : es = ds := by simpa using q.symm
      subst q
      refine ⟨p, vs, ?_, g.no_fz h, upd_same, r.le e.toLe⟩
      show (w.th ++ [p])[k]? = some p
      rw [List.getElem?_append_right (by rw [← g.len]; omega), ← g.len, hk']; rfl
/-- a thing of the store is changed -/
theorem Good.put (g : Good K w H st) {k : Nat} {a : Addr} {vs : List V} {ds : List D} (ha : w.th[k]? = some a) (hf : ¬ w.fz a) (r : Dvs K w H vs ds) : Good K w (L2.upd H a (.lst vs)) (st.set k (.lst ds)) := by
  have e : Le w H w (L2.upd H a (.lst vs)) := Le.upd hf
  refine ⟨by rw [List.length_set]; exact g.len, g.nd, fun b m => ?_, fun b m => ?_, fun j es q => ?_⟩
  · by_cases z : b = a
    · subst z; rw [upd_same]; intro z; cases z
    · rw [upd_ne z]; exact g.thIn b m
  · rw [upd_ne (nef hf m)]; exact g.fzIn b m
  · by_cases hj : j = k
    · subst hj
      have hl := (List.getElem?_eq_some_iff.mp q).1
      rw [List.getElem?_set_self (by simpa using hl)] at q
      cases q
      exact ⟨a, vs, ha, hf, upd_same, r.le e⟩
    · rw [List.getElem?_set_ne (Ne.symm hj)] at q
      obtain ⟨b, us, h1, h2, h3, h4⟩ := g.lst j es q
      refine ⟨b, us, h1, h2, ?_, h4.le e⟩
      rw [upd_ne fun z => ?_]
      · exact h3
      · subst z
        have i1 := (List.getElem?_eq_some_iff.mp h1)
        have i2 := (List.getElem?_eq_some_iff.mp ha)
        exact hj ((List.getElem_inj g.nd).mp (i1.2.trans i2.2.symm))
theorem Ext.put {a : Addr} {o : HO} (ha : a ∈ w.th) (hf : ¬ w.fz a) : Ext w H w (L2.upd H a o) := by
  refine ⟨Le.upd hf, fun b u e n => ?_, fun _ f => .inl f, fun _ f => .inl f⟩
  rw [upd_ne (Ne.symm (net n ha))]; exact e

/-! ### what the slots hold -/
structure EnvR (K : PySem.W.Frag) (w : Wd) (H : Hp) (σ : St) (env : En) : Prop where
  len : env.length = σ.length
  get : ∀ (i : Nat) (d : D), env[i]? = some (some d) → ∃ v, σ[i]? = some (some v) ∧ Dv K w H v d
variable {σ : St} {env : En}
theorem EnvR.le {w' : Wd} {H' : Hp} (r : EnvR K w H σ env) (e : Le w H w' H') : EnvR K w' H' σ env := ⟨r.len, fun i d h => let ⟨v, a, b⟩ := r.get i d h; ⟨v, a, b.le e⟩⟩
theorem EnvR.set (r : EnvR K w H σ env) {i : Nat} {v : V} {d : D} (h : Dv K w H v d) : EnvR K w H (σ.set i (some v)) (env.set i (some d)) := by
  refine ⟨by rw [List.length_set, List.length_set]; exact r.len, fun j e q => ?_⟩
  by_cases hj : i = j
  · subst hj
    have hl := (List.getElem?_eq_some_iff.mp q).1
    rw [List.length_set] at hl
    rw [List.getElem?_set_self hl] at q
    cases q
    exact ⟨v, by rw [List.getElem?_set_self (by rw [← r.len]; exact hl)], h⟩
  · rw [List.getElem?_set_ne hj] at q
    rw [List.getElem?_set_ne hj]
    exact r.get j e q
theorem EnvR.unset (r : EnvR K w H σ env) (i : Nat) : EnvR K w H (σ.set i none) (env.set i none) := by
  refine ⟨by rw [List.length_set, List.length_set]; exact r.len, fun j e q => ?_⟩
  by_cases hj : i = j
  · subst hj
    have hl := (List.getElem?_eq_some_iff.mp q).1
    rw [List.length_set] at hl
    rw [List.getElem?_set_self hl] at q
    cases q
  · rw [List.getElem?_set_ne hj] at q
    rw [List.getElem?_set_ne hj]
    exact r.get j e q
theorem EnvR.wipe (r : EnvR K w H σ env) : ∀ vs : List Nat, EnvR K w H (L2.wipe σ vs) (wipeE env vs)
  | [] => r
  | v :: vs => (r.wipe vs).unset v
theorem EnvR.start {vs : List V} {ds : List D} (h : Dvs K w H vs ds) (n : Nat) (N : List Str) (hn : n = N.length) : EnvR K w H (L2.start N vs) (startE n ds) := by
  subst hn
  refine ⟨by unfold L2.start startE; simp [h.length], fun i d q => ?_⟩
  unfold startE at q
  unfold L2.start
  by_cases hi : i < ds.length
  · rw [List.getElem?_append_left (by simpa using hi), List.getElem?_map] at q
    cases e : ds[i]? with
    | none => rw [e] at q; cases q
    | some x =>
      rw [e] at q
      cases q
      obtain ⟨v, h1, h2⟩ := h.get e
      exact ⟨v, by rw [List.getElem?_append_left (by simpa [h.length] using hi), List.getElem?_map, h1]; rfl, h2⟩
  · rw [List.getElem?_append_right (by simpa using hi), List.getElem?_replicate] at q
    split at q <;> cases q

/-! ### what may be read -/
theorem as_lst (g : Good K w H st) {v : V} {d : D} {ds : List D} (h : Dv K w H v d) (e : asLst st d = some ds) : ∃ a vs, v = .ref a ∧ H a = some (.lst vs) ∧ Dvs K w H vs ds := by
  cases h with
  | lst f o r => cases e; exact ⟨_, _, rfl, o, r⟩
  | @mrf k a o =>
    have e : (match st[k]? with | some (MO.lst xs) => some xs | _ => none) = some ds := e
    cases q : st[k]? with
    | none => rw [q] at e; cases e
    | some m =>
      rw [q] at e
      cases m with
      | gone => cases e
      | lst xs =>
        cases e
        obtain ⟨b, vs, h1, _, h3, h4⟩ := g.lst _ _ q
        rw [o] at h1; cases h1
        exact ⟨_, vs, rfl, h3, h4⟩
  | _ => cases e
theorem as_seq (g : Good K w H st) {v : V} {d : D} {ds : List D} (h : Dv K w H v d) (e : asSeq st d = some ds) : ∃ a vs, v = .ref a ∧ (SqL K H a vs ∨ SqT K H a vs) ∧ Dvs K w H vs ds := by
  cases h with
  | tup f o r => cases e; exact ⟨_, _, rfl, .inr (.inl (.inl o)), r⟩
  | ktup k r => cases e; exact ⟨_, _, rfl, .inr k.sq, r⟩
  | rol f o r => cases e; exact ⟨_, _, rfl, .inl (.inl (.inr ⟨_, o⟩)), r⟩
  | krol k r => cases e; exact ⟨_, _, rfl, .inl k.sq, r⟩
  | lst f o r => cases e; exact ⟨_, _, rfl, .inl (.inl (.inl o)), r⟩
  | mrf o =>
    obtain ⟨a, vs, h1, h2, h3⟩ := as_lst g (.mrf o) (show asLst st (.mrf _) = some ds from e)
    exact ⟨a, vs, h1, .inl (.inl (.inl h2)), h3⟩
  | _ => cases e
theorem tup_sq {v : V} {ds : List D} (h : Dv K w H v (.tup ds)) : ∃ a vs, v = .ref a ∧ SqT K H a vs ∧ Dvs K w H vs ds := by
  cases h with
  | tup f o r => exact ⟨_, _, rfl, .inl (.inl o), r⟩
  | ktup k r => exact ⟨_, _, rfl, k.sq, r⟩
theorem rol_sq {v : V} {ds : List D} (h : Dv K w H v (.rol ds)) : ∃ a vs, v = .ref a ∧ SqL K H a vs ∧ Dvs K w H vs ds := by
  cases h with
  | rol f o r => exact ⟨_, _, rfl, .inl (.inr ⟨_, o⟩), r⟩
  | krol k r => exact ⟨_, _, rfl, k.sq, r⟩
mutual
theorem Dv.p : ∀ (d : D) (v : V) (p : PyData), Dv K w H v d → toP d = some p → Dp K H v p
  | .non, _, _, h, e => by cases h; cases e; exact .non
  | .bl _, _, _, h, e => by cases h; cases e; exact .bl _
  | .int _, _, _, h, e => by cases h; cases e; exact .int _
  | .str _, _, _, h, e => by cases h; cases e; exact .str _
  | .tup ds, _, _, h, e => by
    obtain ⟨a, vs, rfl, hs, r⟩ := tup_sq h
    unfold toP at e
    cases q : toPs ds with
    | none => rw [q] at e; cases e
    | some ps =>
      rw [q] at e; cases e
      exact .tup hs (Dvs.p ds vs ps r q)
  | .lst ds, _, _, h, e => by
    unfold toP at e
    cases q : toPs ds with
    | none => rw [q] at e; cases e
    | some ps =>
      rw [q] at e; cases e
      cases h with
      | lst f o r => exact .lst (.inl (.inl o)) (Dvs.p ds _ ps r q)
  | .rol _, _, _, _, e => by unfold toP at e; cases e
  | .dct _, _, _, _, e => by unfold toP at e; cases e
  | .mrf _, _, _, _, e => by unfold toP at e; cases e
theorem Dvs.p : ∀ (ds : List D) (vs : List V) (ps : List PyData), Dvs K w H vs ds → toPs ds = some ps → DpAll K H vs ps
  | [], _, _, h, e => by cases h; cases e; exact .nil
  | d :: ds, _, _, h, e => by
    cases h with
    | cons a b =>
      unfold toPs at e
      split at e
      · rename_i p ps h1 h2
        cases e
        exact .cons (Dv.p d _ p a h1) (Dvs.p ds _ ps b h2)
      · cases e
end
end
end Pv
end
section
set_option Elab.async false
set_option autoImplicit false
set_option linter.all false
set_option maxRecDepth 100000
set_option maxHeartbeats 2000000
/-! Pv: one rule a construct. -/
namespace Pv
open PySem L2

/-- what is wanted of a value, wherever it stands -/
def Fin (K : PySem.W.Frag) (w : Wd) (H : Hp) (Q : VK) : D → Sto → Prop := fun d st => ∀ v w' H', Ext w H w' H' → Good K w' H' st → Dv K w' H' v d → Q v H'
section
variable {K : PySem.W.Frag} {w w' : Wd} {H H' : Hp} {Q : VK} {d : D} {st : Sto}
theorem Fin.ext (e : Ext w H w' H') (h : Fin K w H Q d st) : Fin K w' H' Q d st := fun v w2 H2 e2 g r => h v w2 H2 (e.trans e2) g r
theorem Fin.here (g : Good K w H st) {v : V} (r : Dv K w H v d) (h : Fin K w H Q d st) : Q v H := h v w H (Ext.refl w H) g r
theorem Fin.newL (g : Good K w H st) {vs : List V} {ds : List D} (r : Dvs K w H vs ds) (h : Fin K w H Q (.lst ds) st) : ∀ p, H p = none → Q (.ref p) (upd H p (.lst vs)) := fun p hp =>
  h _ (w.frz p) _ (Ext.frz g hp) (g.frz hp) (.lst (.inr rfl) upd_same (r.le (Ext.frz g hp).toLe))
theorem Fin.newT (g : Good K w H st) {vs : List V} {ds : List D} (r : Dvs K w H vs ds) (h : Fin K w H Q (.tup ds) st) : ∀ p, H p = none → Q (.ref p) (upd H p (.tup vs)) := fun p hp =>
  h _ (w.frz p) _ (Ext.frz g hp) (g.frz hp) (.tup (.inr rfl) upd_same (r.le (Ext.frz g hp).toLe))
end
theorem must_wp {α : Type} {p : Prop} [Decidable p] {r : R α} {Q : α → Sto → Prop} (h : (must p r).wp Q) : p ∧ r.wp Q := by
  unfold must at h
  split at h
  · rename_i hp; exact ⟨hp, h⟩
  · exact h.elim
theorem opt_wp {α : Type} {o : Option α} {st : Sto} {Q : α → Sto → Prop} (h : (opt o st).wp Q) : ∃ a, o = some a ∧ Q a st := by
  cases o with
  | none => exact h.elim
  | some a => exact ⟨a, rfl, h⟩
theorem obind_wp {α β : Type} {o : Option α} {st : Sto} {f : α → Sto → R β} {Q : β → Sto → Prop} (h : ((opt o st).bind f).wp Q) : ∃ a, o = some a ∧ (f a st).wp Q := by
  cases o with
  | none => exact h.elim
  | some a => exact ⟨a, rfl, h⟩

section
variable (call : Nat → List D → Sto → R D) (env : En) (st : Sto) (a b c e : Xp) (es cs : List Xp) (o o' : OC)
theorem ev_lit (d : D) : evX call (.lit d) env st = .ok d st := by rw [evX]
theorem ev_bin (o : O2) : evX call (.bin o a b) env st = (evX call a env st).bind fun x st => (evX call b env st).bind fun y st => bin st o x y := by rw [evX]
theorem ev_cmp : evX call (.cmp o a b) env st = (evX call a env st).bind fun x st => (evX call b env st).bind fun y st => (opt (cmpD st o x y) st).bind fun r st => .ok (.bl r) st := by rw [evX]
theorem ev_chain : evX call (.chain o o' a b c) env st = (evX call a env st).bind fun x st => (evX call b env st).bind fun y st => (opt (cmpD st o x y) st).bind fun r st =>
      if r then (evX call c env st).bind fun z st => (opt (cmpD st o' y z) st).bind fun r st => .ok (.bl r) st else .ok (.bl false) st := by rw [evX]
theorem ev_and : evX call (.and a b) env st = (evX call a env st).bind fun x st => (opt (truth st x) st).bind fun r st => if r then evX call b env st else .ok x st := by rw [evX]
theorem ev_or : evX call (.or a b) env st = (evX call a env st).bind fun x st => (opt (truth st x) st).bind fun r st => if r then .ok x st else evX call b env st := by rw [evX]
theorem ev_not : evX call (.not a) env st = (evX call a env st).bind fun x st => (opt (truth st x) st).bind fun r st => .ok (.bl (!r)) st := by rw [evX]
theorem ev_neg : evX call (.neg a) env st = (evX call a env st).bind fun x st => (opt (asI x) st).bind fun i st => .ok (.int (-i)) st := by rw [evX]
theorem ev_ife : evX call (.ife c a b) env st = (evX call c env st).bind fun x st => (opt (truth st x) st).bind fun r st => if r then evX call a env st else evX call b env st := by rw [evX]
theorem ev_tup : evX call (.tup es) env st = (evXs call es env st).bind fun ds st => must (ds.length ≤ sizeLine) (.ok (.tup ds) st) := by rw [evX]
theorem ev_lst : evX call (.lst es) env st = (evXs call es env st).bind fun ds st => must (ds.length ≤ sizeLine) (.ok (.lst ds) st) := by rw [evX]
theorem ev_mlst : evX call (.mlst es) env st = (evXs call es env st).bind fun ds st => must (ds.length ≤ sizeLine) (.ok (.mrf (List.length st)) (st ++ [.lst ds])) := by rw [evX]
theorem ev_dnew : evX call .dnew env st = .ok (.dct []) st := by rw [evX]
theorem ev_ix : evX call (.ix a b) env st = (evX call a env st).bind fun x st => (evX call b env st).bind fun y st => opt (ixD st x y) st := by rw [evX]
theorem ev_sl (lo hi : Option Xp) : evX call (.sl a lo hi) env st = (evX call a env st).bind fun x st => (evO call lo env st).bind fun l st => (evO call hi env st).bind fun h st => opt (slD st x l h) st := by rw [evX]
theorem ev_call (f : Nat) : evX call (.call f es) env st = (evXs call es env st).bind fun ds st => call f ds st := by rw [evX]
theorem ev_fn (f : F1) : evX call (.fn f a) env st = (evX call a env st).bind fun x st => ofB st f x := by rw [evX]
theorem ev_isi (cl : List Cl) : evX call (.isi a cl) env st = (evX call a env st).bind fun x st => must (live st x = true) (.ok (.bl (cl.any fun c => isiOne c x)) st) := by rw [evX]
theorem ev_comp (own : List Nat) (tg : Tg) : evX call (.comp own tg a cs e) env st = (evX call a env st).bind fun x st => (opt (itemsOf st x) st).bind fun ds st =>
      (compR tg (wipeE env own) (fun env st => evC call cs env st) (fun env st => evX call e env st) [] ds st).bind fun ys st => .ok (.lst ys) st := by rw [evX]
theorem ev_rcomp (own : List Nat) (tg : Tg) : evX call (.rcomp own tg a cs e) env st = (evX call a env st).bind fun x st => (opt (asI x) st).bind fun j st => must (-(2 ^ 62) ≤ j ∧ j < 2 ^ 62) ((compR tg (wipeE env own) (fun env st => evC call cs env st) (fun env st => evX call e env st) [] (rangeD j.toNat) st).bind fun ys st => .ok (.lst ys) st) := by rw [evX]
theorem evs_nil : evXs call [] env st = .ok [] st := by rw [evXs]
theorem evs_cons : evXs call (a :: es) env st = (evX call a env st).bind fun d st => (evXs call es env st).bind fun ds st => .ok (d :: ds) st := by rw [evXs]
theorem evc_nil : evC call [] env st = .ok true st := by rw [evC]
theorem evc_cons : evC call (a :: es) env st = (evX call a env st).bind fun d st => (opt (truth st d) st).bind fun r st => if r then evC call es env st else .ok false st := by rw [evC]
theorem evo_none : evO call none env st = .ok none st := by rw [evO]
theorem evo_some : evO call (some a) env st = (evX call a env st).bind fun x st => (opt (asI x) st).bind fun i st => .ok (some i) st := by rw [evO]
end

section
variable (K : PySem.W.Frag) (call : Nat → List D → Sto → R D)
def tEv (x : Xp) : TE := fun σ H Q => ∃ w env st, Good K w H st ∧ EnvR K w H σ env ∧ (evX call x env st).wp (Fin K w H Q)
def tEvs (xs : List Xp) : TA := fun σ H Q => ∃ w env st, Good K w H st ∧ EnvR K w H σ env ∧ (evXs call xs env st).wp fun ds st' => ∀ vs w' H', Ext w H w' H' → Good K w' H' st' → Dvs K w' H' vs ds → Q vs H'
/-- a test -/
def evT (x : Xp) (env : En) (st : Sto) : R Bool := (evX call x env st).bind fun d st => opt (truth st d) st
def tTv (x : Xp) : TT := fun σ H Q => ∃ w env st, Good K w H st ∧ EnvR K w H σ env ∧ (evT call x env st).wp fun b st' => ∀ w' H', Ext w H w' H' → Good K w' H' st' → Q b H'
end
section
abbrev PEv (X : Cx) (call : Nat → List D → Sto → R D) (e : Expr) (x : Xp) : Prop := PE X e (tEv X.K call x)
abbrev PAv (X : Cx) (call : Nat → List D → Sto → R D) (es : List Expr) (xs : List Xp) : Prop := PA X es (tEvs X.K call xs)
abbrev PTv (X : Cx) (call : Nat → List D → Sto → R D) (e : Expr) (x : Xp) : Prop := PT X e (tTv X.K call x)
abbrev PWv (X : Cx) (call : Nat → List D → Sto → R D) (e : Expr) (x : Xp) : Prop := PW X e (tTv X.K call x)
end
theorem pe_weak {X : Cx} {e : Expr} {t t' : TE} (h : PE X e t) (k : ∀ σ H Q, t' σ H Q → t σ H Q) : PE X e t' := ⟨fun pins s σ H Q I q => h.run pins s σ H Q I (k σ H Q q)⟩
theorem pa_weak {X : Cx} {e : List Expr} {t t' : TA} (h : PA X e t) (k : ∀ σ H Q, t' σ H Q → t σ H Q) : PA X e t' := ⟨fun pos pins s σ H Q I q => h.run pos pins s σ H Q I (k σ H Q q)⟩
theorem pt_weak {X : Cx} {e : Expr} {t t' : TT} (h : PT X e t) (k : ∀ σ H Q, t' σ H Q → t σ H Q) : PT X e t' := ⟨fun pins s σ H Q I q => h.run pins s σ H Q I (k σ H Q q)⟩
theorem pw_weak {X : Cx} {e : Expr} {t t' : TT} (h : PW X e t) (k : ∀ σ H Q, t' σ H Q → t σ H Q) : PW X e t' := ⟨fun wh pins s σ H Q I q => h.run wh pins s σ H Q I (k σ H Q q)⟩
theorem ps_weak {X : Cx} {e : Stmt} {t t' : TS} (h : PS X e t) (k : ∀ D σ H, t' D σ H → t D σ H) : PS X e t' := ⟨fun pins s σ H D I q => h.run pins s σ H D I (k D σ H q)⟩
theorem pss_weak {X : Cx} {e : List Stmt} {t t' : TS} (h : PSs X e t) (k : ∀ D σ H, t' D σ H → t D σ H) : PSs X e t' := ⟨fun pins s σ H D I q => h.run pins s σ H D I (k D σ H q)⟩
theorem pg_weak {X : Cx} {e : Expr} {t t' : TG} (h : PG X e t) (k : ∀ v σ H Q, t' v σ H Q → t v σ H Q) : PG X e t' := ⟨fun pins s σ H v u Q I r q => h.run pins s σ H v u Q I r (k v σ H Q q)⟩

/-! ### names, constants -/
section
variable {X : Cx} {call : Nat → List D → Sto → R D} {pos p : Pos} {x : Str} {e a b c : Expr} {xa xb xc : Xp}
theorem pev_var (i : Nat) (hN : X.N[i]? = some x := by rfl) (hv : Vis X.env.scope x := by first | exact Or.inl rfl | exact Or.inr (Or.inl rfl) | exact Or.inr (Or.inr rfl)) (hd : (x == ("__debug__" : Str)) = false := by decide)
    (hcd : (x == ("__classdict__" : Str)) = false := by decide) : PEv X call (.Name x pos) (.var i) := pe_weak (pe_var hN hv hd hcd) fun σ H Q ⟨w, env, st, g, r, h⟩ => by
  unfold evX at h
  split at h
  · rename_i d q
    obtain ⟨v, h1, h2⟩ := r.get _ _ q
    exact ⟨v, h1, Fin.here g h2 h⟩
  · exact h.elim
/-- what a written constant is -/
def Lit (v : V) (d : D) : Prop := ∀ K w H, Dv K w H v d
theorem pev_lit {v : V} {d : D} (h : PE X e (tC v)) (l : Lit v d) : PEv X call e (.lit d) := pe_weak h fun σ H Q ⟨w, env, st, g, r, q⟩ => Fin.here g (l _ _ _) q
theorem pev_int {i : Int} {j : Nat} : PEv X call (.Constant (.int i) j pos) (.lit (.int i)) := pev_lit pe_int fun _ _ _ => .int i
theorem pev_bl {i : Bool} {j : Nat} : PEv X call (.Constant (.bool i) j pos) (.lit (.bl i)) := pev_lit pe_bl fun _ _ _ => .bl i
theorem pev_non {j : Nat} : PEv X call (.Constant .none j pos) (.lit .non) := pev_lit pe_non fun _ _ _ => .non
theorem pev_str {i : Str} {j : Nat} : PEv X call (.Constant (.str i) j pos) (.lit (.str i)) := pev_lit pe_str fun _ _ _ => .str i
theorem pev_gstr {i : Str} {t : Tok} (hm : X.mg x = some (.str i t)) (hg : Gl X x := by rfl) (hd : (x == ("__debug__" : Str)) = false := by decide) : PEv X call (.Name x pos) (.lit (.str i)) := pev_lit (v := .str i) (pe_glob hg hm ⟨t, rfl⟩ hd) fun _ _ _ => .str i
theorem pev_gint {i : Int} {t : Tok} (hm : X.mg x = some (.int i t)) (hg : Gl X x := by rfl) (hd : (x == ("__debug__" : Str)) = false := by decide) : PEv X call (.Name x pos) (.lit (.int i)) := pev_lit (v := .int i) (pe_glob hg hm ⟨t, rfl⟩ hd) fun _ _ _ => .int i

/-! ### operators -/
def rOf (K : PySem.W.Frag) (f : D → D → Sto → R D) : R2 := fun x y H Q => ∃ w st da db, Good K w H st ∧ Dv K w H x da ∧ Dv K w H y db ∧ (f da db st).wp (Fin K w H Q)
theorem two {K : PySem.W.Frag} {f : D → D → Sto → R D} {x : Xp} (hx : ∀ env st, evX call x env st = (evX call xa env st).bind fun d st => (evX call xb env st).bind fun e st => f d e st) :
    ∀ σ H Q, tEv K call x σ H Q → tOp (rOf K f) (tEv K call xa) (tEv K call xb) σ H Q := fun σ H Q ⟨w, env, st, g, r, h⟩ => by
  rw [hx, R.wp_bind] at h
  refine ⟨w, env, st, g, r, R.wp_mono h fun da s1 h1 v1 w1 H1 e1 g1 d1 => ?_⟩
  rw [R.wp_bind] at h1
  refine ⟨w1, env, s1, g1, r.le e1.toLe, R.wp_mono h1 fun db s2 h2 v2 w2 H2 e2 g2 d2 => ?_⟩
  exact ⟨w2, s2, da, db, g2, d1.le e2.toLe, d2, R.wp_mono h2 fun d s3 h3 => Fin.ext (e1.trans e2) h3⟩
def fBin (o : O2) (x y : D) (st : Sto) : R D := bin st o x y
def fCmp (o : OC) (x y : D) (st : Sto) : R D := (opt (cmpD st o x y) st).bind fun r st => .ok (.bl r) st
theorem pev_bin {op : Operator} {o : O2} (ho : OpR X (binaryOp op) (rOf X.K (fBin o))) (ha : PEv X call a xa) (hb : PEv X call b xb) : PEv X call (.BinOp a op b pos) (.bin o xa xb) :=
  pe_weak (pe_op ho ha hb) (two (x := .bin o xa xb) fun env st => ev_bin call env st xa xb o)
theorem pev_cmp {op : CmpOp} {o : OC} (ho : OpR X (compareOp op) (rOf X.K (fCmp o))) (ha : PEv X call a xa) (hb : PEv X call b xb) (hm : behindInMarks op b = false := by rfl) : PEv X call (.Compare a [op] [b] pos) (.cmp o xa xb) :=
  pe_weak (pe_cmpR ho ha hb hm) (two (x := .cmp o xa xb) fun env st => ev_cmp call env st xa xb o)
/-- a comparison as a test -/
theorem ptv_cmp {op : CmpOp} {o : OC} (ho : OpR X (compareOp op) (rOf X.K (fCmp o))) (ha : PEv X call a xa) (hb : PEv X call b xb) (hm : behindInMarks op b = false := by rfl) : PTv X call (.Compare a [op] [b] pos) (.cmp o xa xb) :=
  pt_weak (pt_cmpR ho ha hb hm) fun σ H Q ⟨w, env, st, g, r, h⟩ => by
    refine two (x := .cmp o xa xb) (fun env st => ev_cmp call env st xa xb o) σ H _ ⟨w, env, st, g, r, ?_⟩
    unfold evT at h
    rw [R.wp_bind, ev_cmp] at h
    rw [ev_cmp]
    rw [R.wp_bind] at h ⊢
    refine R.wp_mono h fun da s1 h1 => ?_
    rw [R.wp_bind] at h1 ⊢
    refine R.wp_mono h1 fun db s2 h2 => ?_
    rw [R.wp_bind] at h2 ⊢
    refine R.wp_mono h2 fun k s3 h3 v w' H' e' g' d' => ?_
    cases d'
    exact ⟨k, rfl, h3 w' H' e' g'⟩
end
end Pv
end
section
set_option Elab.async false
set_option autoImplicit false
set_option linter.all false
set_option maxRecDepth 100000
set_option maxHeartbeats 2000000
/-! Pv: the operators keep what the evaluator says. -/
namespace Pv
open PySem L2
variable {X : Cx}
section
variable {K : PySem.W.Frag} {w : Wd} {H : Hp} {Q : VK} {d : D} {st : Sto}
theorem Fin.sameT (g : Good K w H st) {v : V} {ds : List D} (r : Dv K w H v (.tup ds)) {es : List D} (e : ds = es) (h : Fin K w H Q (.tup es) st) : Q v H := Fin.here g (e ▸ r) h
end
theorem o_add : OpR X (binaryOp .Add) (rOf X.K (fBin .add)) := by
  intro pins s σ H x y v u Q I rx ry ⟨w, st, da, db, g, dx, dy, h⟩
  unfold fBin bin at h
  split at h
  all_goals first | contradiction | skip
  · cases dx; cases dy
    exact op_add pins s σ H _ _ v u Q I rx ry ⟨_, _, rfl, rfl, Fin.here g (.int _) h⟩
  · cases dx; cases dy
    obtain ⟨hl, h⟩ := must_wp h
    exact op_add_str pins s σ H _ _ v u Q I rx ry ⟨_, _, rfl, rfl, hl, Fin.here g (.str _) h⟩
  · rename_i xs ys _
    obtain ⟨hl, h⟩ := must_wp h
    obtain ⟨a, vs, rfl, h1, r1⟩ := tup_sq dx
    obtain ⟨b, us, rfl, h2, r2⟩ := tup_sq dy
    refine op_catA pins s σ H _ _ v u Q I rx ry ⟨a, b, vs, us, rfl, rfl, h1, h2, by rw [r1.length, r2.length]; exact hl, fun e => ?_, fun _ e => ?_, fun _ _ p hp => Fin.newT g (r1.append r2) h p hp⟩
    · subst e; cases r1
      exact Fin.here g dy h
    · subst e; cases r2
      rw [List.append_nil] at h
      exact Fin.here g dx h
  · split at h
    · rename_i xs ys q1 q2
      obtain ⟨hl, h⟩ := must_wp h
      obtain ⟨a, vs, rfl, h1, r1⟩ := as_lst g dx q1
      obtain ⟨b, us, rfl, h2, r2⟩ := as_lst g dy q2
      exact op_cat pins s σ H _ _ v u Q I rx ry ⟨a, b, vs, us, rfl, rfl, h1, h2, by rw [r1.length, r2.length]; exact hl, Fin.newL g (r1.append r2) h⟩
    · exact h.elim
theorem o_sub : OpR X (binaryOp .Sub) (rOf X.K (fBin .sub)) := by
  intro pins s σ H x y v u Q I rx ry ⟨w, st, da, db, g, dx, dy, h⟩
  unfold fBin bin at h
  split at h
  all_goals first | contradiction | skip
  · cases dx; cases dy
    exact op_sub pins s σ H _ _ v u Q I rx ry ⟨_, _, rfl, rfl, Fin.here g (.int _) h⟩
theorem o_mul : OpR X (binaryOp .Mult) (rOf X.K (fBin .mul)) := by
  intro pins s σ H x y v u Q I rx ry ⟨w, st, da, db, g, dx, dy, h⟩
  unfold fBin bin at h
  split at h
  all_goals first | contradiction | skip
  · cases dx; cases dy
    obtain ⟨hl, h⟩ := must_wp h
    exact op_mul pins s σ H _ _ v u Q I rx ry ⟨_, _, rfl, rfl, hl, Fin.here g (.int _) h⟩
  · split at h
    · rename_i xs q1
      obtain ⟨hl, h⟩ := must_wp h
      obtain ⟨a, vs, rfl, h1, r1⟩ := as_lst g dx q1
      cases dy
      exact op_rep pins s σ H _ _ v u Q I rx ry ⟨a, _, vs, rfl, rfl, h1, hl.1, hl.2.1, by rw [r1.length]; exact hl.2.2, Fin.newL g (r1.flat _) h⟩
    · exact h.elim
theorem o_fdiv : OpR X (binaryOp .FloorDiv) (rOf X.K (fBin .fdiv)) := by
  intro pins s σ H x y v u Q I rx ry ⟨w, st, da, db, g, dx, dy, h⟩
  unfold fBin bin at h
  split at h
  all_goals first | contradiction | skip
  · cases dx; cases dy
    obtain ⟨hl, h⟩ := must_wp h
    exact op_fdiv pins s σ H _ _ v u Q I rx ry ⟨_, _, rfl, rfl, hl, Fin.here g (.int _) h⟩
theorem o_mod : OpR X (binaryOp .Mod) (rOf X.K (fBin .mod)) := by
  intro pins s σ H x y v u Q I rx ry ⟨w, st, da, db, g, dx, dy, h⟩
  unfold fBin bin at h
  split at h
  all_goals first | contradiction | skip
  · cases dx; cases dy
    obtain ⟨hl, h⟩ := must_wp h
    exact op_mod pins s σ H _ _ v u Q I rx ry ⟨_, _, rfl, rfl, hl, Fin.here g (.int _) h⟩
theorem o_pow : OpR X (binaryOp .Pow) (rOf X.K (fBin .pow)) := by
  intro pins s σ H x y v u Q I rx ry ⟨w, st, da, db, g, dx, dy, h⟩
  unfold fBin bin at h
  split at h
  all_goals first | contradiction | skip
  · cases dx; cases dy
    obtain ⟨hl, h⟩ := must_wp h
    exact op_pow pins s σ H _ _ v u Q I rx ry ⟨_, _, rfl, rfl, hl, Fin.here g (.int _) h⟩
/-! ### comparisons -/
theorem eqd_some {a b : D} {r : Bool} (h : eqD a b = some r) : ∃ p q, toP a = some p ∧ toP b = some q ∧ SeqAt.shaped p = true ∧ SeqAt.shaped q = true ∧ r = PyData.eqv p q := by
  unfold eqD at h
  split at h
  · rename_i p q h1 h2
    split at h
    · rename_i hs
      cases h
      exact ⟨p, q, h1, h2, hs.1, hs.2, rfl⟩
    · cases h
  · cases h
theorem cmp_wp {o : OC} {da db : D} {st : Sto} {Q : D → Sto → Prop} (h : (fCmp o da db st).wp Q) : ∃ r, cmpD st o da db = some r ∧ Q (.bl r) st := by
  unfold fCmp at h
  obtain ⟨r, e, h⟩ := obind_wp h
  exact ⟨r, e, h⟩
theorem o_eq (hu : X.A.units + 64 < cLine) : OpR X (compareOp .Eq) (rOf X.K (fCmp .eq)) := by
  intro pins s σ H x y v u Q I rx ry ⟨w, st, da, db, g, dx, dy, h⟩
  obtain ⟨r, e, h⟩ := cmp_wp h
  have q : Q (.bl r) H := Fin.here g (.bl r) h
  have e : eqS st da db = some r := e
  unfold eqS at e
  split at e
  · rename_i r' e'
    cases e
    obtain ⟨p, p', h1, h2, h3, h4, rfl⟩ := eqd_some e'
    exact op_eqD hu pins s σ H x y v u Q I rx ry ⟨p, p', Dv.p _ _ _ dx h1, Dv.p _ _ _ dy h2, h3, h4, q⟩
  · split at e
    · rename_i xs ys q1 q2
      obtain ⟨a, vs, rfl, h1, r1⟩ := as_lst g dx q1
      obtain ⟨b, us, rfl, h2, r2⟩ := as_lst g dy q2
      cases rx
      cases ry
      obtain ⟨it1, rv1, l1, z1⟩ := I.list (SqL.of h1)
      obtain ⟨it2, rv2, l2, z2⟩ := I.list (SqL.of h2)
      split at e
      · rename_i hne
        cases e
        refine SeqAt.eq_list_lengthsAt l1.isList l2.isList ?_ (by omega) ⟨.bl false, H, I, rfl, q⟩
        have e1 := rv1.length
        have e2 := rv2.length
        have e3 := r1.length
        have e4 := r2.length
        simp only [List.size_toArray, bne_iff_ne, ne_eq]
        omega
      · rename_i hne
        split at e
        · rename_i hem
          cases e
          have hx0 : xs = [] := List.isEmpty_iff.mp hem
          subst hx0
          have e3 := r1.length
          have e4 := r2.length
          have e1 := rv1.length
          have e2 := rv2.length
          have hx : vs.length = 0 := e3
          have z : it1 = [] := List.eq_nil_of_length_eq_zero (by omega)
          have hy : ys.length = 0 := by
            by_cases q0 : ys.length = 0
            · exact q0
            · exact absurd (fun z => q0 z.symm) hne
          have z' : it2 = [] := List.eq_nil_of_length_eq_zero (by omega)
          subst z z'
          refine SeqAt.eq_listAt (e := fun _ => true) l1.isList l2.isList rfl (by omega) (fun j h1 h2 => absurd h1 (by simp)) ⟨.bl true, H, I, rfl, q⟩
        · cases e
    · cases e
theorem o_ne (hu : X.A.units + 64 < cLine) : OpR X (compareOp .NotEq) (rOf X.K (fCmp .ne)) := by
  intro pins s σ H x y v u Q I rx ry ⟨w, st, da, db, g, dx, dy, h⟩
  obtain ⟨r, e, h⟩ := cmp_wp h
  have q : Q (.bl r) H := Fin.here g (.bl r) h
  have e : (eqD da db).map (!·) = some r := e
  cases e' : eqD da db with
  | none => rw [e'] at e; cases e
  | some r' =>
    rw [e'] at e
    cases e
    obtain ⟨p, p', h1, h2, h3, h4, rfl⟩ := eqd_some e'
    exact op_neD hu pins s σ H x y v u Q I rx ry ⟨p, p', Dv.p _ _ _ dx h1, Dv.p _ _ _ dy h2, h3, h4, q⟩
theorem o_lt : OpR X (compareOp .Lt) (rOf X.K (fCmp .lt)) := by
  intro pins s σ H x y v u Q I rx ry ⟨w, st, da, db, g, dx, dy, h⟩
  obtain ⟨r, e, h⟩ := cmp_wp h
  have q : Q (.bl r) H := Fin.here g (.bl r) h
  cases dx <;> cases dy <;> first | (cases e; done) | skip
  cases e
  exact op_lt pins s σ H _ _ v u Q I rx ry ⟨_, _, rfl, rfl, q⟩
theorem o_le : OpR X (compareOp .LtE) (rOf X.K (fCmp .le)) := by
  intro pins s σ H x y v u Q I rx ry ⟨w, st, da, db, g, dx, dy, h⟩
  obtain ⟨r, e, h⟩ := cmp_wp h
  have q : Q (.bl r) H := Fin.here g (.bl r) h
  cases dx <;> cases dy <;> first | (cases e; done) | skip
  cases e
  exact op_le pins s σ H _ _ v u Q I rx ry ⟨_, _, rfl, rfl, q⟩
theorem o_gt : OpR X (compareOp .Gt) (rOf X.K (fCmp .gt)) := by
  intro pins s σ H x y v u Q I rx ry ⟨w, st, da, db, g, dx, dy, h⟩
  obtain ⟨r, e, h⟩ := cmp_wp h
  have q : Q (.bl r) H := Fin.here g (.bl r) h
  cases dx <;> cases dy <;> first | (cases e; done) | skip
  cases e
  exact op_gt pins s σ H _ _ v u Q I rx ry ⟨_, _, rfl, rfl, q⟩
theorem o_ge : OpR X (compareOp .GtE) (rOf X.K (fCmp .ge)) := by
  intro pins s σ H x y v u Q I rx ry ⟨w, st, da, db, g, dx, dy, h⟩
  obtain ⟨r, e, h⟩ := cmp_wp h
  have q : Q (.bl r) H := Fin.here g (.bl r) h
  cases dx <;> cases dy <;> first | (cases e; done) | skip
  cases e
  exact op_ge pins s σ H _ _ v u Q I rx ry ⟨_, _, rfl, rfl, q⟩
theorem o_is : OpR X (compareOp .Is) (rOf X.K (fCmp .is)) := by
  intro pins s σ H x y v u Q I rx ry ⟨w, st, da, db, g, dx, dy, h⟩
  obtain ⟨r, e, h⟩ := cmp_wp h
  have q : Q (.bl r) H := Fin.here g (.bl r) h
  have e : isD da db = some r := e
  cases dy with
  | non =>
    refine op_isN pins s σ H _ _ v u Q I rx ry ⟨rfl, ?_⟩
    cases dx <;> (cases e; exact q)
  | bl b =>
    cases dx with
    | bl a =>
      cases e
      exact op_is_bl pins s σ H _ _ v u Q I rx ry ⟨a, b, rfl, rfl, q⟩
    | _ => cases e
  | _ => cases dx <;> cases e
theorem o_nis : OpR X (compareOp .IsNot) (rOf X.K (fCmp .nis)) := by
  intro pins s σ H x y v u Q I rx ry ⟨w, st, da, db, g, dx, dy, h⟩
  obtain ⟨r, e, h⟩ := cmp_wp h
  have q : Q (.bl r) H := Fin.here g (.bl r) h
  have e : (isD da db).map (!·) = some r := e
  cases dy with
  | non =>
    refine op_notN pins s σ H _ _ v u Q I rx ry ⟨rfl, ?_⟩
    cases dx <;> (cases e; exact q)
  | bl b =>
    cases dx with
    | bl a =>
      cases e
      exact op_isnot_bl pins s σ H _ _ v u Q I rx ry ⟨a, b, rfl, rfl, q⟩
    | _ => cases e
  | _ => cases dx <;> cases e
theorem flat_some {K : PySem.W.Frag} {w : Wd} {H : Hp} {x : V} {d : D} {v : V} (h : Dv K w H x d) (e : flat? d = some v) : x = v ∧ flatV v = true := by
  cases h <;> cases e <;> exact ⟨rfl, rfl⟩
theorem flats_some {K : PySem.W.Frag} {w : Wd} {H : Hp} : ∀ {xs : List V} {ds : List D} {vs : List V}, Dvs K w H xs ds → ds.mapM flat? = some vs → xs = vs ∧ vs.all flatV = true
  | _, _, vs, .nil, e => by
    simp at e
    subst e
    exact ⟨rfl, rfl⟩
  | _, _, vs, .cons (d := d) (ds := ds) a r, e => by
    rw [List.mapM_cons] at e
    cases h1 : flat? d with
    | none => rw [h1] at e; cases e
    | some v =>
      cases h2 : ds.mapM flat? with
      | none => rw [h1, h2] at e; cases e
      | some ws =>
        rw [h1, h2] at e
        cases e
        obtain ⟨e1, f1⟩ := flat_some a h1
        obtain ⟨e2, f2⟩ := flats_some r h2
        subst e1 e2
        exact ⟨rfl, by rw [List.all_cons, f1, f2]; rfl⟩
theorem ins_some {a z : Str} {r : Bool} (h : inS a z = some r) : ∃ c, a = ⟨#[c]⟩ ∧ r = decide (c ∈ z.cps.toList) := by
  unfold inS at h
  split at h
  · rename_i c hc
    cases h
    refine ⟨c, ?_, rfl⟩
    obtain ⟨⟨l⟩⟩ := a
    exact congrArg (fun l => Str.mk ⟨l⟩) hc
  · cases h
theorem o_in (hu : X.A.units + 65 < cLine) : OpR X (compareOp .In) (rOf X.K (fCmp .isin)) := by
  intro pins s σ H x y v u Q I rx ry ⟨w, st, da, db, g, dx, dy, h⟩
  obtain ⟨r, e, h⟩ := cmp_wp h
  have q : Q (.bl r) H := Fin.here g (.bl r) h
  have e : inD st da db = some r := e
  unfold inD at e
  split at e
  · split at e
    · cases dx; cases dy
      obtain ⟨c, rfl, rfl⟩ := ins_some e
      exact op_in_sign pins s σ H _ _ v u Q I rx ry ⟨c, _, rfl, rfl, q⟩
    · cases e
  · split at e
    · rename_i ys _ v' vs h1 h2
      cases e
      obtain ⟨e1, f1⟩ := flat_some dx h1
      obtain ⟨a, us, rfl, hs, r2⟩ := tup_sq dy
      obtain ⟨e2, f2⟩ := flats_some r2 h2
      subst e1 e2
      exact op_in_seq pins s σ H _ _ v u Q I rx ry ⟨a, _, rfl, .inr hs, f1, f2, q⟩
    · cases e
  · split at e
    · rename_i ys _ p qs h1 h2
      split at e
      · rename_i hs
        cases e
        exact op_inD hu pins s σ H x y v u Q I rx ry ⟨p, qs, Dv.p _ _ _ dx h1, Dv.p _ _ _ dy (by unfold toP; rw [h2]; rfl), hs.1, hs.2, q⟩
      · cases e
    · cases e
  · cases e
theorem o_nin (hu : X.A.units + 65 < cLine) : OpR X (compareOp .NotIn) (rOf X.K (fCmp .nin)) := by
  intro pins s σ H x y v u Q I rx ry ⟨w, st, da, db, g, dx, dy, h⟩
  obtain ⟨r, e, h⟩ := cmp_wp h
  have q : Q (.bl r) H := Fin.here g (.bl r) h
  have e : (inD st da db).map (!·) = some r := e
  unfold inD at e
  split at e
  · split at e
    · cases dx; cases dy
      generalize e' : inS _ _ = o at e
      cases o with
      | none => cases e
      | some r' =>
        cases e
        obtain ⟨c, rfl, rfl⟩ := ins_some e'
        exact op_notIn_sign pins s σ H _ _ v u Q I rx ry ⟨c, _, rfl, rfl, q⟩
    · cases e
  · split at e
    · rename_i ys _ v' vs h1 h2
      cases e
      obtain ⟨e1, f1⟩ := flat_some dx h1
      obtain ⟨a, us, rfl, hs, r2⟩ := tup_sq dy
      obtain ⟨e2, f2⟩ := flats_some r2 h2
      subst e1 e2
      exact op_notIn_seq pins s σ H _ _ v u Q I rx ry ⟨a, _, rfl, .inr hs, f1, f2, q⟩
    · cases e
  · split at e
    · rename_i ys _ p qs h1 h2
      split at e
      · rename_i hs
        cases e
        exact op_notInD hu pins s σ H x y v u Q I rx ry ⟨p, qs, Dv.p _ _ _ dx h1, Dv.p _ _ _ dy (by unfold toP; rw [h2]; rfl), hs.1, hs.2, q⟩
      · cases e
    · cases e
  · cases e
end Pv
end
section
set_option Elab.async false
set_option autoImplicit false
set_option linter.all false
set_option maxRecDepth 100000
set_option maxHeartbeats 2000000
/-! Pv: expressions and tests. -/
namespace Pv
open PySem L2
/-- what each rule may lean on -/
structure Cz (X : Cx) (k : Nat) : Prop where
  room : Room k X.A
  grd : X.A.guards = some []
  calm : X.calm = true
  nd : X.N.Nodup
theorem Cz.u {X : Cx} {k : Nat} (h : Cz X k) : X.A.units + 200 < cLine := by have := h.room.un; omega
section
variable {X : Cx} {call : Nat → List D → Sto → R D} {pos p p2 : Pos} {x : Str} {e a b c : Expr} {es rest : List Expr} {xa xb xc : Xp} {xs : List Xp}
/-- weakening at a value -/
theorem tEv_mono {K : PySem.W.Frag} {x : Xp} {σ : St} {H : Hp} {Q : VK} (P : D → Sto → Prop) {w : Wd} {env : En} {st : Sto} (g : Good K w H st) (r : EnvR K w H σ env) (h : (evX call x env st).wp P)
    (k : ∀ d st' v w' H', P d st' → Ext w H w' H' → Good K w' H' st' → Dv K w' H' v d → Q v H') : tEv K call x σ H Q := ⟨w, env, st, g, r, R.wp_mono h fun d s1 h1 v w' H' e' g' d' => k d s1 v w' H' h1 e' g' d'⟩
theorem tTv_mono {K : PySem.W.Frag} {x : Xp} {σ : St} {H : Hp} {Q : Bool → Hp → Prop} (P : Bool → Sto → Prop) {w : Wd} {env : En} {st : Sto} (g : Good K w H st) (r : EnvR K w H σ env) (h : (evT call x env st).wp P)
    (k : ∀ d st' w' H', P d st' → Ext w H w' H' → Good K w' H' st' → Q d H') : tTv K call x σ H Q := ⟨w, env, st, g, r, R.wp_mono h fun d s1 h1 w' H' e' g' => k d s1 w' H' h1 e' g'⟩
theorem truth_of {K : PySem.W.Frag} {w : Wd} {H : Hp} {st : Sto} (g : Good K w H st) {v : V} {d : D} (h : Dv K w H v d) {r : Bool} (e : truth st d = some r) : TruV K v H r := by
  cases h with
  | non => cases e; rfl
  | bl b => cases e; rfl
  | int i => cases e; rfl
  | str x =>
    have e : (if x.length ≤ sizeLine then some ((x.length : Int) != 0) else none) = some r := e
    split at e
    · rename_i hl; cases e; exact ⟨hl, rfl⟩
    · cases e
  | tup f o q => cases e; exact .inr (.inl ⟨_, .inl (.inl o), by cases q <;> rfl⟩)
  | ktup k q => cases e; exact .inr (.inl ⟨_, k.sq, by cases q <;> rfl⟩)
  | lst f o q => cases e; exact .inl ⟨_, .inl (.inl o), by cases q <;> rfl⟩
  | rol f o q => cases e; exact .inl ⟨_, .inl (.inr ⟨_, o⟩), by cases q <;> rfl⟩
  | krol k q => cases e; exact .inl ⟨_, k.sq, by cases q <;> rfl⟩
  | dct f o => cases e; exact .inr (.inr ⟨_, o, rfl⟩)
  | mrf o =>
    have e : (asLst st (.mrf _)).map (fun xs => !xs.isEmpty) = some r := e
    cases q : asLst st (.mrf _) with
    | none => rw [q] at e; cases e
    | some xs =>
      rw [q] at e; cases e
      obtain ⟨a, vs, h0, h1, r1⟩ := as_lst g (.mrf o) q
      cases h0
      exact .inl ⟨vs, .inl (.inl h1), by cases r1 <;> rfl⟩

/-! ### argument lists -/
def isStar : Expr → Bool
  | .Starred .. => true
  | _ => false
theorem star_cons {env : Env} (h : isStar e = false) : starEach (e :: es) env = (false, eval e env) :: starEach es env := by
  cases e <;> first | rfl | cases h
theorem pav_nil : PAv X call [] [] := pa_weak pa_nil fun σ H Q ⟨w, env, st, g, r, h⟩ => by
  rw [evs_nil] at h
  exact h [] w H (Ext.refl w H) g .nil
theorem pav_cons (ha : PEv X call e xa) (hr : PAv X call es xs) (hs : isStar e = false := by rfl) : PAv X call (e :: es) (xa :: xs) :=
  pa_weak (pa_cons ha hr (star_cons hs)) fun σ H Q ⟨w, env, st, g, r, h⟩ => by
    rw [evs_cons, R.wp_bind] at h
    refine tEv_mono _ g r h fun d s1 v w1 H1 h1 e1 g1 d1 => ?_
    rw [R.wp_bind] at h1
    refine ⟨w1, env, s1, g1, r.le e1.toLe, R.wp_mono h1 fun ds s2 h2 vs w2 H2 e2 g2 d2 => ?_⟩
    exact h2 (v :: vs) w2 H2 (e1.trans e2) g2 (.cons (d1.le e2.toLe) d2)
/-! ### displays -/
theorem pev_tup {k : Nat} (ha : PAv X call es xs) : PEv X call (.Tuple es k pos) (.tup xs) := pe_weak (pe_tup ha) fun σ H Q ⟨w, env, st, g, r, h⟩ => by
  rw [ev_tup, R.wp_bind] at h
  refine ⟨w, env, st, g, r, R.wp_mono h fun ds s1 h1 vs w1 H1 e1 g1 d1 => ?_⟩
  obtain ⟨hl, h1⟩ := must_wp h1
  exact ⟨by rw [d1.length]; exact hl, Fin.newT g1 d1 (Fin.ext e1 h1)⟩
theorem pev_lst (ha : PAv X call es xs) : PEv X call (.List es pos) (.lst xs) := pe_weak (pe_lst ha) fun σ H Q ⟨w, env, st, g, r, h⟩ => by
  rw [ev_lst, R.wp_bind] at h
  refine ⟨w, env, st, g, r, R.wp_mono h fun ds s1 h1 vs w1 H1 e1 g1 d1 => ?_⟩
  obtain ⟨hl, h1⟩ := must_wp h1
  exact ⟨by rw [d1.length]; exact hl, Fin.newL g1 d1 (Fin.ext e1 h1)⟩
theorem pev_mlst (ha : PAv X call es xs) : PEv X call (.List es pos) (.mlst xs) := pe_weak (pe_lst ha) fun σ H Q ⟨w, env, st, g, r, h⟩ => by
  rw [ev_mlst, R.wp_bind] at h
  refine ⟨w, env, st, g, r, R.wp_mono h fun ds s1 h1 vs w1 H1 e1 g1 d1 => ?_⟩
  obtain ⟨hl, h1⟩ := must_wp h1
  refine ⟨by rw [d1.length]; exact hl, fun p hp => ?_⟩
  refine h1 (.ref p) (w1.more p) _ (e1.trans (Ext.more g1 hp)) (g1.more hp d1) (.mrf ?_)
  show (w1.th ++ [p])[s1.length]? = some p
  rw [g1.len, List.getElem?_append_right (Nat.le_refl _), Nat.sub_self]; rfl
theorem pev_dnew : PEv X call (.Dict [] [] pos) .dnew := pe_weak pe_dnewK fun σ H Q ⟨w, env, st, g, r, h⟩ => by
  rw [ev_dnew] at h
  exact fun p hp => h _ (w.frz p) _ (Ext.frz g hp) (g.frz hp) (.dct (.inr rfl) upd_same)
/-! ### and, or, not -/
theorem pev_one {op : BoolOp} (h : PEv X call a xa) : PEv X call (.BoolOp op [a] pos) xa := pe_one h
theorem pev_and (ha : PEv X call a xa) (hb : PEv X call (.BoolOp .And (b :: rest) pos) xb) : PEv X call (.BoolOp .And (a :: b :: rest) pos) (.and xa xb) := pe_weak (pe_andT ha hb) fun σ H Q ⟨w, env, st, g, r, h⟩ => by
  rw [ev_and, R.wp_bind] at h
  refine tEv_mono _ g r h fun d s1 v w1 H1 h1 e1 g1 d1 => ?_
  obtain ⟨t, q, h1⟩ := obind_wp h1
  refine ⟨t, truth_of g1 d1 q, ?_⟩
  cases t with
  | true => exact ⟨w1, env, s1, g1, r.le e1.toLe, R.wp_mono h1 fun d s2 h2 => Fin.ext e1 h2⟩
  | false => exact Fin.here g1 d1 (Fin.ext e1 h1)
theorem pev_or (ha : PEv X call a xa) (hb : PEv X call (.BoolOp .Or (b :: rest) pos) xb) : PEv X call (.BoolOp .Or (a :: b :: rest) pos) (.or xa xb) := pe_weak (pe_orT ha hb) fun σ H Q ⟨w, env, st, g, r, h⟩ => by
  rw [ev_or, R.wp_bind] at h
  refine tEv_mono _ g r h fun d s1 v w1 H1 h1 e1 g1 d1 => ?_
  obtain ⟨t, q, h1⟩ := obind_wp h1
  refine ⟨t, truth_of g1 d1 q, ?_⟩
  cases t with
  | false => exact ⟨w1, env, s1, g1, r.le e1.toLe, R.wp_mono h1 fun d s2 h2 => Fin.ext e1 h2⟩
  | true => exact Fin.here g1 d1 (Fin.ext e1 h1)
theorem pev_not (ha : PEv X call a xa) : PEv X call (.UnaryOp .Not a pos) (.not xa) := pe_weak (pe_notT ha) fun σ H Q ⟨w, env, st, g, r, h⟩ => by
  rw [ev_not, R.wp_bind] at h
  refine tEv_mono _ g r h fun d s1 v w1 H1 h1 e1 g1 d1 => ?_
  obtain ⟨t, q, h1⟩ := obind_wp h1
  exact ⟨t, truth_of g1 d1 q, Fin.here g1 (.bl _) (Fin.ext e1 h1)⟩
theorem pev_neg (ha : PEv X call a xa) : PEv X call (.UnaryOp .USub a pos) (.neg xa) := pe_weak (pe_un un_neg ha) fun σ H Q ⟨w, env, st, g, r, h⟩ => by
  rw [ev_neg, R.wp_bind] at h
  refine tEv_mono _ g r h fun d s1 v w1 H1 h1 e1 g1 d1 => ?_
  obtain ⟨t, q, h1⟩ := obind_wp h1
  cases d1 <;> cases q
  exact ⟨_, rfl, Fin.here g1 (.int _) (Fin.ext e1 h1)⟩
theorem pev_ife (hc : PTv X call c xc) (ha : PEv X call a xa) (hb : PEv X call b xb) : PEv X call (.IfExp c a b pos) (.ife xc xa xb) := pe_weak (pe_ifExp hc ha hb) fun σ H Q ⟨w, env, st, g, r, h⟩ => by
  rw [ev_ife] at h
  have h' : (evT call xc env st).wp fun t st' => ((if t = true then evX call xa env st' else evX call xb env st').wp (Fin X.K w H Q)) := by
    unfold evT
    rw [R.wp_bind] at h ⊢
    refine R.wp_mono h fun d s1 h1 => ?_
    obtain ⟨t, q, h1⟩ := obind_wp h1
    rw [q]
    exact h1
  refine tTv_mono _ g r h' fun t s1 w1 H1 h1 e1 g1 => ?_
  cases t with
  | true => exact ⟨w1, env, s1, g1, r.le e1.toLe, R.wp_mono h1 fun d s2 h2 => Fin.ext e1 h2⟩
  | false => exact ⟨w1, env, s1, g1, r.le e1.toLe, R.wp_mono h1 fun d s2 h2 => Fin.ext e1 h2⟩
/-! ### chains -/
theorem pev_chain {op op' : CmpOp} {o o' : OC} (ho : OpR X (compareOp op) (rOf X.K (fCmp o))) (ho' : OpR X (compareOp op') (rOf X.K (fCmp o'))) (ha : PEv X call a xa) (hb : PEv X call b xb) (hc : PEv X call c xc)
    (hm : lastMarks [op, op'] [b, c] = false := by rfl) : PEv X call (.Compare a [op, op'] [b, c] pos) (.chain o o' xa xb xc) := pe_weak (pe_chain ho ho' ha hb hc hm) fun σ H Q ⟨w, env, st, g, r, h⟩ => by
  rw [ev_chain, R.wp_bind] at h
  refine tEv_mono _ g r h fun d s1 v w1 H1 h1 e1 g1 d1 => ?_
  rw [R.wp_bind] at h1
  refine tEv_mono _ g1 (r.le e1.toLe) h1 fun d' s2 v2 w2 H2 h2 e2 g2 d2 => ?_
  obtain ⟨t, q, h2⟩ := obind_wp h2
  refine ⟨w2, s2, d, d', g2, d1.le e2.toLe, d2, ?_⟩
  unfold fCmp
  rw [q]
  intro v3 w3 H3 e3 g3 d3
  cases d3
  refine ⟨t, rfl, ?_⟩
  have e13 : Ext w H w3 H3 := (e1.trans e2).trans e3
  cases t with
  | false => exact h2 _ w3 H3 e13 g3 (.bl false)
  | true =>
    rw [if_pos rfl] at h2 ⊢
    rw [R.wp_bind] at h2
    refine tEv_mono _ g3 (r.le e13.toLe) h2 fun d'' s4 v4 w4 H4 h4 e4 g4 d4 => ?_
    exact ⟨w4, s4, d', d'', g4, (d2.le e3.toLe).le e4.toLe, d4, R.wp_mono h4 fun d s5 h5 => Fin.ext (e13.trans e4) h5⟩
/-! ### tests -/
theorem evT_of {K : PySem.W.Frag} {P : Bool → Sto → Prop} {env : En} {st : Sto} {x : Xp} (h : (evT call x env st).wp P) : (evX call x env st).wp fun d st' => ∃ t, truth st' d = some t ∧ P t st' := by
  unfold evT at h
  rw [R.wp_bind] at h
  exact R.wp_mono h fun d s1 h1 => opt_wp h1
theorem ptv_val (ha : PEv X call a xa) (he : ∀ whole, isTrue a X.env whole = (do let v ← whole; standAt a.pos; holding [v] (truthy v)) := by intro _; rfl) : PTv X call a xa := pt_weak (pt_truth ha he) fun σ H Q ⟨w, env, st, g, r, h⟩ => by
  refine tEv_mono _ g r (evT_of (K := X.K) h) fun d s1 v w1 H1 ⟨t, q, h1⟩ e1 g1 d1 => ?_
  exact ⟨t, truth_of g1 d1 q, h1 w1 H1 e1 g1⟩
theorem ptv_chain {op op' : CmpOp} {o o' : OC} (ho : OpR X (compareOp op) (rOf X.K (fCmp o))) (ho' : OpR X (compareOp op') (rOf X.K (fCmp o'))) (ha : PEv X call a xa) (hb : PEv X call b xb) (hc : PEv X call c xc)
    (hm : lastMarks [op, op'] [b, c] = false := by rfl) : PTv X call (.Compare a [op, op'] [b, c] pos) (.chain o o' xa xb xc) := pt_weak (pt_chain ho ho' ha hb hc hm) fun σ H Q ⟨w, env, st, g, r, h⟩ => by
  have h := evT_of (K := X.K) h
  rw [ev_chain, R.wp_bind] at h
  refine tEv_mono _ g r h fun d s1 v w1 H1 h1 e1 g1 d1 => ?_
  rw [R.wp_bind] at h1
  refine tEv_mono _ g1 (r.le e1.toLe) h1 fun d' s2 v2 w2 H2 h2 e2 g2 d2 => ?_
  obtain ⟨t, q, h2⟩ := obind_wp h2
  refine ⟨w2, s2, d, d', g2, d1.le e2.toLe, d2, ?_⟩
  unfold fCmp
  rw [q]
  intro v3 w3 H3 e3 g3 d3
  cases d3
  refine ⟨t, rfl, ?_⟩
  have e13 : Ext w H w3 H3 := (e1.trans e2).trans e3
  cases t with
  | false =>
    obtain ⟨t', q', h2⟩ := h2
    cases q'
    exact ⟨false, rfl, h2 w3 H3 e13 g3⟩
  | true =>
    rw [if_pos rfl] at h2 ⊢
    rw [R.wp_bind] at h2
    refine tEv_mono _ g3 (r.le e13.toLe) h2 fun d'' s4 v4 w4 H4 h4 e4 g4 d4 => ?_
    refine ⟨w4, s4, d', d'', g4, (d2.le e3.toLe).le e4.toLe, d4, ?_⟩
    obtain ⟨t6, q6, h4⟩ := obind_wp h4
    show ((opt (cmpD s4 o' d' d'') s4).bind fun r st => R.ok (D.bl r) st).wp _
    rw [q6]
    intro v5 w5 H5 e5 g5 d5
    cases d5
    obtain ⟨t5, q5, h5⟩ := h4
    cases q5
    exact ⟨_, rfl, h5 w5 H5 ((e13.trans e4).trans e5) g5⟩
theorem ptv_not (ha : PTv X call a xa) : PTv X call (.UnaryOp .Not a pos) (.not xa) := pt_weak (pt_not ha) fun σ H Q ⟨w, env, st, g, r, h⟩ => by
  have h := evT_of (K := X.K) h
  rw [ev_not, R.wp_bind] at h
  have h' : (evT call xa env st).wp fun t st' => ∀ w' H', Ext w H w' H' → Good X.K w' H' st' → Q (!t) H' := by
    unfold evT
    rw [R.wp_bind]
    refine R.wp_mono h fun d s1 h1 => ?_
    obtain ⟨t, q, h1⟩ := obind_wp h1
    rw [q]
    obtain ⟨t', q', h1⟩ := h1
    cases q'
    exact h1
  exact tTv_mono _ g r h' fun t s1 w1 H1 h1 e1 g1 => h1 w1 H1 e1 g1
theorem pwv_and1 (ha : PTv X call a xa) : PWv X call (.BoolOp .And [a] pos) xa := pw_and1 ha
theorem pwv_or1 (ha : PTv X call a xa) : PWv X call (.BoolOp .Or [a] pos) xa := pw_or1 ha
theorem pwv_and (ha : PTv X call a xa) (hb : PWv X call (.BoolOp .And (b :: rest) pos) xb) : PWv X call (.BoolOp .And (a :: b :: rest) pos) (.and xa xb) := pw_weak (pw_and ha hb) fun σ H Q ⟨w, env, st, g, r, h⟩ => by
  have h := evT_of (K := X.K) h
  rw [ev_and, R.wp_bind] at h
  have h' : (evT call xa env st).wp fun t st' => if t = true then (evT call xb env st').wp (fun t st' => ∀ w' H', Ext w H w' H' → Good X.K w' H' st' → Q t H') else ∀ w' H', Ext w H w' H' → Good X.K w' H' st' → Q false H' := by
    unfold evT
    rw [R.wp_bind]
    refine R.wp_mono h fun d s1 h1 => ?_
    obtain ⟨t, q, h1⟩ := obind_wp h1
    rw [q]
    cases t with
    | true =>
      rw [if_pos rfl] at h1
      show (if true = true then (evT call xb env s1).wp (fun t st' => ∀ w' H', Ext w H w' H' → Good X.K w' H' st' → Q t H') else ∀ w' H', Ext w H w' H' → Good X.K w' H' s1 → Q false H')
      rw [if_pos rfl]
      unfold evT
      rw [R.wp_bind]
      refine R.wp_mono h1 fun d2 s2 ⟨t2, q2, h2⟩ => ?_
      rw [q2]
      exact h2
    | false =>
      rw [if_neg Bool.false_ne_true] at h1
      obtain ⟨t2, q2, h2⟩ := h1
      rw [q] at q2
      cases q2
      show (if false = true then (evT call xb env s1).wp (fun t st' => ∀ w' H', Ext w H w' H' → Good X.K w' H' st' → Q t H') else ∀ w' H', Ext w H w' H' → Good X.K w' H' s1 → Q false H')
      rw [if_neg Bool.false_ne_true]
      exact h2
  refine tTv_mono _ g r h' fun t s1 w1 H1 h1 e1 g1 => ?_
  cases t with
  | true =>
    rw [if_pos rfl] at h1 ⊢
    exact ⟨w1, env, s1, g1, r.le e1.toLe, R.wp_mono h1 fun t s2 h2 w2 H2 e2 g2 => h2 w2 H2 (e1.trans e2) g2⟩
  | false =>
    rw [if_neg Bool.false_ne_true] at h1 ⊢
    exact h1 w1 H1 e1 g1
theorem pwv_or (ha : PTv X call a xa) (hb : PWv X call (.BoolOp .Or (b :: rest) pos) xb) : PWv X call (.BoolOp .Or (a :: b :: rest) pos) (.or xa xb) := pw_weak (pw_or ha hb) fun σ H Q ⟨w, env, st, g, r, h⟩ => by
  have h := evT_of (K := X.K) h
  rw [ev_or, R.wp_bind] at h
  have h' : (evT call xa env st).wp fun t st' => if t = true then (∀ w' H', Ext w H w' H' → Good X.K w' H' st' → Q true H') else (evT call xb env st').wp (fun t st' => ∀ w' H', Ext w H w' H' → Good X.K w' H' st' → Q t H') := by
    unfold evT
    rw [R.wp_bind]
    refine R.wp_mono h fun d s1 h1 => ?_
    obtain ⟨t, q, h1⟩ := obind_wp h1
    rw [q]
    cases t with
    | false =>
      rw [if_neg Bool.false_ne_true] at h1
      show (if false = true then (∀ w' H', Ext w H w' H' → Good X.K w' H' s1 → Q true H') else (evT call xb env s1).wp (fun t st' => ∀ w' H', Ext w H w' H' → Good X.K w' H' st' → Q t H'))
      rw [if_neg Bool.false_ne_true]
      unfold evT
      rw [R.wp_bind]
      refine R.wp_mono h1 fun d2 s2 ⟨t2, q2, h2⟩ => ?_
      rw [q2]
      exact h2
    | true =>
      rw [if_pos rfl] at h1
      obtain ⟨t2, q2, h2⟩ := h1
      rw [q] at q2
      cases q2
      show (if true = true then (∀ w' H', Ext w H w' H' → Good X.K w' H' s1 → Q true H') else (evT call xb env s1).wp (fun t st' => ∀ w' H', Ext w H w' H' → Good X.K w' H' st' → Q t H'))
      rw [if_pos rfl]
      exact h2
  refine tTv_mono _ g r h' fun t s1 w1 H1 h1 e1 g1 => ?_
  cases t with
  | false =>
    rw [if_neg Bool.false_ne_true] at h1 ⊢
    exact ⟨w1, env, s1, g1, r.le e1.toLe, R.wp_mono h1 fun t s2 h2 w2 H2 e2 g2 => h2 w2 H2 (e1.trans e2) g2⟩
  | true =>
    rw [if_pos rfl] at h1 ⊢
    exact h1 w1 H1 e1 g1
theorem ptv_w (h : PWv X call a xa) : PTv X call a xa := h.pt
/-! ### subscripts, slices -/
def rIxV (K : PySem.W.Frag) : R2 := rOf K fun x y st => opt (ixD st x y) st
theorem ix_or : IxR X (fun x y H Q => rIxL X.K x y H Q ∨ (rIxT X.K x y H Q ∨ rIxS x y H Q)) := ix_list.or (ix_tup.or ix_str)
theorem ix_v : IxR X (rIxV X.K) := by
  intro ve se pins s σ H x y v u Q I rx ry ⟨w, st, da, db, g, dx, dy, h⟩ hsub
  refine ix_or ve se pins s σ H x y v u Q I rx ry ?_ hsub
  obtain ⟨d, e, hF⟩ := opt_wp h
  unfold ixD at e
  split at e
  · split at e
    · rename_i hl
      cases dx; cases dy
      cases q : atI _ _ with
      | none => rw [q] at e; cases e
      | some c =>
        rw [q] at e; cases e
        exact .inr (.inr ⟨_, _, c, rfl, rfl, hl, q, Fin.here g (.str _) hF⟩)
    · cases e
  · cases q : asSeq st da with
    | none => rw [q] at e; cases e
    | some ds =>
      rw [q] at e
      obtain ⟨a, vs, rfl, hs, r⟩ := as_seq g dx q
      cases dy
      rename_i i _
      have e : atI ds i = some d := e
      have : ∃ v, atI vs i = some v ∧ Dv X.K w H v d := by
        unfold atI at e ⊢
        rw [r.length]
        cases q2 : ixN ds.length i with
        | none => rw [q2] at e; cases e
        | some j =>
          rw [q2] at e
          exact r.get e
      obtain ⟨v', h1, h2⟩ := this
      rcases hs with hs | hs
      · exact .inl ⟨a, vs, i, v', rfl, rfl, hs, h1, Fin.here g h2 hF⟩
      · exact .inr (.inl ⟨a, vs, i, v', rfl, rfl, hs, h1, Fin.here g h2 hF⟩)
  · cases e
theorem pev_ix (ha : PEv X call a xa) (hb : PEv X call b xb) (hs : PlainIx b := by exact fun _ _ => rfl) : PEv X call (.Subscript a b pos) (.ix xa xb) := pe_weak (pe_ix ix_v ha hb hs) (two (x := .ix xa xb) fun env st => ev_ix call env st xa xb)
def tOv (K : PySem.W.Frag) (call : Nat → List D → Sto → R D) (o : Option Xp) : TO := fun σ H Q => ∃ w env st, Good K w H st ∧ EnvR K w H σ env ∧ (evO call o env st).wp fun i st' => ∀ w' H', Ext w H w' H' → Good K w' H' st' → Q i H'
theorem po_weak {e : Option Expr} {t t' : TO} (h : PO X e t) (k : ∀ σ H Q, t' σ H Q → t σ H Q) : PO X e t' := ⟨fun pins s σ H Q I q => h.run pins s σ H Q I (k σ H Q q)⟩
theorem pov_none : PO X none (tOv X.K call none) := po_weak po_none fun σ H Q ⟨w, env, st, g, r, h⟩ => by
  rw [evo_none] at h
  exact h w H (Ext.refl w H) g
theorem pov_some (ha : PEv X call a xa) : PO X (some a) (tOv X.K call (some xa)) := po_weak (po_some ha) fun σ H Q ⟨w, env, st, g, r, h⟩ => by
  rw [evo_some, R.wp_bind] at h
  refine tEv_mono _ g r h fun d s1 v w1 H1 h1 e1 g1 d1 => ?_
  obtain ⟨i, q, h1⟩ := obind_wp h1
  cases d1 <;> cases q
  exact ⟨_, rfl, h1 w1 H1 e1 g1⟩
theorem cut_rel {K : PySem.W.Frag} {w : Wd} {H : Hp} {vs : List V} {ds : List D} (r : Dvs K w H vs ds) (lo hi : Option Int) : Dvs K w H (cutV vs lo hi) (cutD ds lo hi) := by
  unfold cutV cutD
  rw [r.length]
  exact (r.drop _).take _
def rSlV (K : PySem.W.Frag) : V → Option Int → Option Int → Hp → VK → Prop := fun x lo hi H Q => ∃ w st d, Good K w H st ∧ Dv K w H x d ∧ (opt (slD st d lo hi) st).wp (Fin K w H Q)
theorem sl_v : SlR X (rSlV X.K) := by
  intro pins s σ H x v vl vu lo hi sl Q I rx hs pl pu ⟨w, st, d, g, dx, h⟩
  refine (sl_list.or sl_tupA) pins s σ H x v vl vu lo hi sl Q I rx hs pl pu ?_
  obtain ⟨d', e, h⟩ := opt_wp h
  unfold slD at e
  split at e
  · cases e
    obtain ⟨a, vs, rfl, h1, r⟩ := tup_sq dx
    have rc := cut_rel r lo hi
    refine .inr ⟨a, vs, rfl, h1, fun hw => ?_, fun _ p hp => Fin.newT g rc h p hp⟩
    refine Fin.here g ?_ h
    have hcut : ∀ ds : List D, vs.length = ds.length → cutD ds lo hi = ds := fun ds e => by
      unfold cutD
      rw [← e, hw.1, hw.2, List.drop_zero, Nat.sub_zero, e, List.take_length]
    rw [hcut _ r.length]
    exact dx
  · cases e
    obtain ⟨a, vs, rfl, h1, r⟩ := rol_sq dx
    exact .inl ⟨a, vs, rfl, h1, Fin.newL g (cut_rel r lo hi) h⟩
  · cases q : asLst st d with
    | none => rw [q] at e; cases e
    | some ds =>
      rw [q] at e; cases e
      obtain ⟨a, vs, rfl, h1, r⟩ := as_lst g dx q
      exact .inl ⟨a, vs, rfl, .inl (.inl h1), Fin.newL g (cut_rel r lo hi) h⟩
theorem pev_sl {lo hi : Option Expr} {xlo xhi : Option Xp} (ha : PEv X call a xa) (hl : PO X lo (tOv X.K call xlo)) (hh : PO X hi (tOv X.K call xhi)) : PEv X call (.Subscript a (.Slice lo hi none p2) pos) (.sl xa xlo xhi) :=
  pe_weak (pe_slice sl_v ha hl hh) fun σ H Q ⟨w, env, st, g, r, h⟩ => by
    rw [ev_sl, R.wp_bind] at h
    refine tEv_mono _ g r h fun d s1 v w1 H1 h1 e1 g1 d1 => ?_
    rw [R.wp_bind] at h1
    refine ⟨w1, env, s1, g1, r.le e1.toLe, R.wp_mono h1 fun l s2 h2 w2 H2 e2 g2 => ?_⟩
    rw [R.wp_bind] at h2
    refine ⟨w2, env, s2, g2, (r.le e1.toLe).le e2.toLe, R.wp_mono h2 fun l s3 h3 w3 H3 e3 g3 => ?_⟩
    exact ⟨w3, s3, d, g3, (d1.le e2.toLe).le e3.toLe, R.wp_mono h3 fun d s4 h4 => Fin.ext ((e1.trans e2).trans e3) h4⟩
end
end Pv
end
section
set_option Elab.async false
set_option autoImplicit false
set_option linter.all false
set_option maxRecDepth 100000
set_option maxHeartbeats 2000000
/-! Pv: built-in functions, isinstance. -/
namespace Pv
open PySem L2 PySem.Spec PyProof.Rows
variable {X : Cx}
def rFn (K : PySem.W.Frag) (f : F1) : List V → Hp → VK → Prop := fun vs H Q => ∃ w st x d, vs = [x] ∧ Good K w H st ∧ Dv K w H x d ∧ (ofB st f d).wp (Fin K w H Q)
theorem bools_of {K : PySem.W.Frag} {w : Wd} {H : Hp} : ∀ {ds : List D} {vs : List V} {bs : List Bool}, Dvs K w H vs ds → bools? ds = some bs → vs = bs.map V.bl
  | [], _, _, h, e => by cases h; cases e; rfl
  | d :: ds, _, bs, h, e => by
    cases h with
    | cons a r =>
      cases a with
      | bl b =>
        have e : (bools? ds).map (b :: ·) = some bs := e
        cases q : bools? ds with
        | none => rw [q] at e; cases e
        | some cs =>
          rw [q] at e; cases e
          rw [bools_of r q]; rfl
      | _ => cases e
theorem ints_of {K : PySem.W.Frag} {w : Wd} {H : Hp} : ∀ {ds : List D} {vs : List V} {bs : List Int}, Dvs K w H vs ds → ints? ds = some bs → vs = bs.map V.int
  | [], _, _, h, e => by cases h; cases e; rfl
  | d :: ds, _, bs, h, e => by
    cases h with
    | cons a r =>
      cases a with
      | int b =>
        have e : (ints? ds).map (b :: ·) = some bs := e
        cases q : ints? ds with
        | none => rw [q] at e; cases e
        | some cs =>
          rw [q] at e; cases e
          rw [ints_of r q]; rfl
      | _ => cases e
theorem f_len : CallR X (.builtin "len") (rFn X.K .len) := by
  intro pins s σ H xs us Q I r ⟨w, st, x, d, e, g, dx, h⟩
  subst e
  unfold ofB at h
  split at h
  all_goals first | contradiction | skip
  · obtain ⟨hl, h⟩ := must_wp h
    cases dx
    exact call_len_str pins s σ H _ us Q I r ⟨_, rfl, hl, Fin.here g (.int _) h⟩
  · obtain ⟨ds, q, h⟩ := obind_wp h
    obtain ⟨a, vs, rfl, hs, rr⟩ := as_seq g dx q
    refine call_len_seq pins s σ H _ us Q I r ⟨a, vs, rfl, hs, ?_⟩
    rw [rr.length]
    exact Fin.here g (.int _) h
theorem f_int : CallR X (.type "int") (rFn X.K .int) := by
  intro pins s σ H xs us Q I r ⟨w, st, x, d, e, g, dx, h⟩
  subst e
  cases dx with
  | int i => exact call_int1 pins s σ H _ us Q I r (.inl ⟨i, rfl, Fin.here g (.int _) h⟩)
  | bl b => exact call_int1 pins s σ H _ us Q I r (.inr ⟨b, rfl, Fin.here g (.int _) h⟩)
  | _ => exact h.elim
theorem f_abs : CallR X (.builtin "abs") (rFn X.K .abs) := by
  intro pins s σ H xs us Q I r ⟨w, st, x, d, e, g, dx, h⟩
  subst e
  cases dx with
  | int i => exact call_abs pins s σ H _ us Q I r ⟨i, rfl, Fin.here g (.int _) h⟩
  | _ => exact h.elim
theorem f_all (hc : X.calm = true) : CallR X (.builtin "all") (rFn X.K .all) := by
  intro pins s σ H xs us Q I r ⟨w, st, x, d, e, g, dx, h⟩
  subst e
  obtain ⟨bs, q, h⟩ := obind_wp (show ((opt ((asLst st d).bind bools?) st).bind fun bs st => R.ok (D.bl (bs.all id)) st).wp _ from h)
  obtain ⟨ds, q1, q2⟩ := Option.bind_eq_some_iff.mp q
  obtain ⟨a, vs, rfl, hs, rr⟩ := as_lst g dx q1
  exact cr_all hc pins s σ H _ us Q I r ⟨a, bs, rfl, by rw [← bools_of rr q2]; exact .inl (.inl hs), Fin.here g (.bl _) h⟩
theorem f_any (hc : X.calm = true) : CallR X (.builtin "any") (rFn X.K .any) := by
  intro pins s σ H xs us Q I r ⟨w, st, x, d, e, g, dx, h⟩
  subst e
  obtain ⟨bs, q, h⟩ := obind_wp (show ((opt ((asLst st d).bind bools?) st).bind fun bs st => R.ok (D.bl (bs.any id)) st).wp _ from h)
  obtain ⟨ds, q1, q2⟩ := Option.bind_eq_some_iff.mp q
  obtain ⟨a, vs, rfl, hs, rr⟩ := as_lst g dx q1
  exact cr_any hc pins s σ H _ us Q I r ⟨a, bs, rfl, by rw [← bools_of rr q2]; exact .inl (.inl hs), Fin.here g (.bl _) h⟩
theorem f_sum (hc : X.calm = true) : CallR X (.builtin "sum") (rFn X.K .sum) := by
  intro pins s σ H xs us Q I r ⟨w, st, x, d, e, g, dx, h⟩
  subst e
  obtain ⟨bs, q, h⟩ := obind_wp (show ((opt ((asLst st d).bind ints?) st).bind fun bs st => R.ok (D.int bs.sum) st).wp _ from h)
  obtain ⟨ds, q1, q2⟩ := Option.bind_eq_some_iff.mp q
  obtain ⟨a, vs, rfl, hs, rr⟩ := as_lst g dx q1
  exact cr_sum hc pins s σ H _ us Q I r ⟨a, bs, rfl, by rw [← ints_of rr q2]; exact .inl (.inl hs), Fin.here g (.int _) h⟩
theorem foldmax_spec : ∀ (l : List Int) (i : Int), (l.foldl max i = i ∨ l.foldl max i ∈ l) ∧ i ≤ l.foldl max i ∧ ∀ y ∈ l, y ≤ l.foldl max i
  | [], i => ⟨.inl rfl, Int.le_refl _, fun y h => by cases h⟩
  | x :: l, i => by
    obtain ⟨h1, h2, h3⟩ := foldmax_spec l (max i x)
    rw [List.foldl_cons]
    refine ⟨?_, by omega, fun y hy => ?_⟩
    · rcases h1 with h1 | h1
      · rw [h1]
        rcases Int.le_total i x with q | q
        · exact .inr (by rw [Int.max_eq_right q]; exact List.mem_cons_self ..)
        · exact .inl (by rw [Int.max_eq_left q])
      · exact .inr (List.mem_cons_of_mem _ h1)
    · rcases List.mem_cons.mp hy with rfl | hy
      · omega
      · exact h3 y hy
theorem f_max (hc : X.calm = true) : CallR X (.builtin "max") (rFn X.K .max) := by
  intro pins s σ H xs us Q I r ⟨w, st, x, d, e, g, dx, h⟩
  subst e
  obtain ⟨m, q, h⟩ := obind_wp (show ((opt (((asLst st d).bind ints?).bind maxL) st).bind fun i st => R.ok (D.int i) st).wp _ from h)
  obtain ⟨ns, q, q3⟩ := Option.bind_eq_some_iff.mp q
  obtain ⟨ds, q1, q2⟩ := Option.bind_eq_some_iff.mp q
  obtain ⟨a, vs, rfl, hs, rr⟩ := as_lst g dx q1
  cases ns with
  | nil => cases q3
  | cons n ns =>
    cases q3
    refine cr_max hc pins s σ H _ us Q I r ⟨a, n :: ns, rfl, by rw [← ints_of rr q2]; exact .inl (.inl hs), by simp, fun m hm hy => ?_⟩
    obtain ⟨h1, h2, h3⟩ := foldmax_spec ns n
    have e : m = ns.foldl max n := by
      refine Int.le_antisymm ?_ ?_
      · rcases List.mem_cons.mp hm with rfl | hm
        · exact h2
        · exact h3 m hm
      · rcases h1 with h1 | h1
        · rw [h1]; exact hy n (List.mem_cons_self ..)
        · exact hy _ (List.mem_cons_of_mem _ h1)
    subst e
    exact Fin.here g (.int _) h
theorem f_list : CallR X (.type "list") (rFn X.K .list) := by
  intro pins s σ H xs us Q I r ⟨w, st, x, d, e, g, dx, h⟩
  subst e
  obtain ⟨ds, q, h⟩ := obind_wp (show ((opt (asSeq st d) st).bind fun xs st => R.ok (D.lst xs) st).wp _ from h)
  obtain ⟨a, vs, rfl, hs, rr⟩ := as_seq g dx q
  exact call_list_of pins s σ H _ us Q I r ⟨a, vs, rfl, hs, Fin.newL g rr h⟩
theorem as_seq2 {K : PySem.W.Frag} {w : Wd} {H : Hp} {st : Sto} (g : Good K w H st) {v : V} {d : D} {ds : List D} (h : Dv K w H v d) (e : asSeq st d = some ds) :
    ∃ a vs, v = .ref a ∧ ((d = .tup ds ∧ SqT K H a vs) ∨ SqL K H a vs) ∧ Dvs K w H vs ds := by
  cases h with
  | tup f o r => cases e; exact ⟨_, _, rfl, .inl ⟨rfl, .inl (.inl o)⟩, r⟩
  | ktup k r => cases e; exact ⟨_, _, rfl, .inl ⟨rfl, k.sq⟩, r⟩
  | rol f o r => cases e; exact ⟨_, _, rfl, .inr (.inl (.inr ⟨_, o⟩)), r⟩
  | krol k r => cases e; exact ⟨_, _, rfl, .inr k.sq, r⟩
  | lst f o r => cases e; exact ⟨_, _, rfl, .inr (.inl (.inl o)), r⟩
  | mrf o =>
    obtain ⟨a, vs, h1, h2, h3⟩ := as_lst g (.mrf o) (show asLst st (.mrf _) = some ds from e)
    exact ⟨a, vs, h1, .inr (.inl (.inl h2)), h3⟩
  | _ => cases e
theorem f_tuple : CallR X (.type "tuple") (rFn X.K .tuple) := by
  intro pins s σ H xs us Q I r ⟨w, st, x, d, e, g, dx, h⟩
  subst e
  obtain ⟨ds, q, h⟩ := obind_wp (show ((opt (asSeq st d) st).bind fun xs st => R.ok (D.tup xs) st).wp _ from h)
  obtain ⟨a, vs, rfl, hs, rr⟩ := as_seq2 g dx q
  rcases hs with ⟨e, hs⟩ | hs
  · subst e
    exact call_tuple_of pins s σ H _ us Q I r ⟨a, vs, rfl, .inr ⟨hs, Fin.here g dx h⟩⟩
  · exact call_tuple_of pins s σ H _ us Q I r ⟨a, vs, rfl, .inl ⟨hs, Fin.newT g rr h⟩⟩
mutual
theorem nodict : ∀ (d : D) (p : PyData), toP d = some p → p.hasDict = false
  | .non, _, e => by cases e; rfl
  | .bl _, _, e => by cases e; rfl
  | .int _, _, e => by cases e; rfl
  | .str _, _, e => by cases e; rfl
  | .tup ds, _, e => by
    unfold toP at e
    cases q : toPs ds with
    | none => rw [q] at e; cases e
    | some ps =>
      rw [q] at e; cases e
      simp only [PyData.hasDict]
      exact nodicts ds ps q
  | .lst ds, _, e => by
    unfold toP at e
    cases q : toPs ds with
    | none => rw [q] at e; cases e
    | some ps =>
      rw [q] at e; cases e
      simp only [PyData.hasDict]
      exact nodicts ds ps q
  | .dct _, _, e => by unfold toP at e; cases e
  | .mrf _, _, e => by unfold toP at e; cases e
  | .rol _, _, e => by unfold toP at e; cases e
theorem nodicts : ∀ (ds : List D) (ps : List PyData), toPs ds = some ps → PyData.hasDictAll ps = false
  | [], _, e => by cases e; rfl
  | d :: ds, _, e => by
    unfold toPs at e
    split at e
    · rename_i p ps h1 h2
      cases e
      simp only [PyData.hasDictAll, nodict d p h1, nodicts ds ps h2, Bool.or_self]
    · cases e
end
theorem f_repr {k : Nat} (cz : Cz X k) : CallR X (.builtin "repr") (rFn X.K .repr) := by
  intro pins s σ H xs us Q I r ⟨w, st, x, d, e, g, dx, h⟩
  subst e
  obtain ⟨u, rfl, ru⟩ := vals1 r
  unfold ofB at h
  cases hp : toP d with
  | none =>
    simp only [hp] at h
    exact h.elim
  | some p =>
    simp only [hp] at h
    obtain ⟨⟨h1, h2, h3⟩, h⟩ := must_wp h
    have q : Q (.str p.shown) H := Fin.here g (.str _) h
    have hD := Dv.p d x p dx hp
    obtain ⟨as, rd⟩ := Dp.reads I p x u hD ru
    cases hD with
    | non =>
      cases ru
      rw [PyData.shown_none] at q
      exact PySem.P.repr_of_none ⟨.str _, H, I.tok _, ⟨_, rfl⟩, q⟩
    | bl b =>
      cases ru
      rw [PyData.shown_bool] at q
      exact PySem.P.repr_of_bool ⟨.str _, H, I.tok _, ⟨_, rfl⟩, q⟩
    | int i =>
      obtain ⟨t, rfl⟩ := ru
      rw [PyData.shown_int] at q
      refine PySem.P.repr_of_int ?_ ⟨.str _, H, I.tok _, ⟨_, rfl⟩, q⟩
      simpa [PyData.showable] using h1
    | str y =>
      obtain ⟨t, rfl⟩ := ru
      rw [PyData.shown_str] at q h2
      exact PySem.P.repr_of_str ⟨.str _, H, I.tok _, ⟨_, rfl⟩, q⟩ h2
    | lst hs ha =>
      cases ru
      have nd := nodict d _ hp
      refine repr_of_reads' rd h1 (fun z => by rw [nd] at z; cases z) cz.grd (by have := cz.u; omega) (fun _ _ e => e) (fun h' u tk hk => ⟨.str _, H, I.kept (h' := h') (t' := tk) hk, ⟨_, rfl⟩, q⟩) h2
    | tup hs ha =>
      cases ru
      have nd := nodict d _ hp
      refine repr_of_reads' rd h1 (fun z => by rw [nd] at z; cases z) cz.grd (by have := cz.u; omega) (fun _ _ e => e) (fun h' u tk hk => ⟨.str _, H, I.kept (h' := h') (t' := tk) hk, ⟨_, rfl⟩, q⟩) h2
/-! ### the calls -/
section
variable {call : Nat → List D → Sto → R D} {pos p p2 : Pos} {x : Str} {e a b c : Expr} {es rest : List Expr} {xa xb xc : Xp} {xs : List Xp}
theorem fn_read {K : PySem.W.Frag} {f : F1} : ∀ σ H Q, tEv K call (.fn f xa) σ H Q → tCB (rFn K f) (tEvs K call [xa]) σ H Q := fun σ H Q ⟨w, env, st, g, r, h⟩ => by
  rw [ev_fn, R.wp_bind] at h
  refine ⟨w, env, st, g, r, ?_⟩
  rw [evs_cons, R.wp_bind]
  refine R.wp_mono h fun d s1 h1 => ?_
  rw [evs_nil]
  intro vs w1 H1 e1 g1 d1
  cases d1 with
  | cons d1 d2 =>
    cases d2
    exact ⟨w1, s1, _, d, rfl, g1, d1, R.wp_mono h1 fun d s2 h2 => Fin.ext e1 h2⟩
theorem pev_fnB {f : F1} {id : String} (hc : CallR X (.builtin id) (rFn X.K f)) (hm : X.mg x = none) (hv : bootBuiltins x = some (.builtin id)) (ha : PEv X call a xa) (hg : Gl X x := by rfl) (hs : isStar a = false := by rfl) (hn : x ≠ "__name__" := by decide) (hdb : (x == ("__debug__" : Str)) = false := by decide) :
    PEv X call (.Call (.Name x p) [a] [] pos) (.fn f xa) := pe_weak (pe_callB hc hg hm hv (pav_cons ha pav_nil hs) hn hdb (star_cons hs) rfl) fn_read
theorem pev_fnT {f : F1} {T : String} (hc : CallR X (.type T) (rFn X.K f)) (hm : X.mg x = none) (hv : bootBuiltins x = some (.type T)) (ha : PEv X call a xa) (hg : Gl X x := by rfl) (hs : isStar a = false := by rfl) (hn : x ≠ "__name__" := by decide) (hdb : (x == ("__debug__" : Str)) = false := by decide) :
    PEv X call (.Call (.Name x p) [a] [] pos) (.fn f xa) := pe_weak (pe_callTy hc hg hm hv (pav_cons ha pav_nil hs) hn hdb (star_cons hs) rfl) fn_read
end
/-! ### isinstance -/
def Cl.nm : Cl → String
  | .int => "int" | .bool => "bool" | .str => "str" | .list => "list" | .tuple => "tuple" | .dict => "dict"
def Kd.nm : Kd → String
  | .non => "NoneType" | .bl => "bool" | .int => "int" | .str => "str" | .tup => "tuple" | .lst => "list" | .dct => "dict"
theorem ty_of {K : PySem.W.Frag} {w : Wd} {H : Hp} {st : Sto} (g : Good K w H st) {v : V} {d : D} (h : Dv K w H v d) (hm : live st d = true) : TyX K H v (.type (kdOf d).nm) := by
  cases h with
  | non => exact .base .non
  | bl b => exact .base (.bl b)
  | int i => exact .base (.int i)
  | str x => exact .base (.str x)
  | tup f o q => exact .base (.tup o)
  | ktup k q =>
    rcases k with (k | ⟨o, k⟩) | ⟨o, its, n, hk, hc, _⟩
    · cases k
    · cases k
    · exact .kTuple hk hc
  | lst f o q => exact .base (.lst o)
  | rol f o q => exact .base (.frz o)
  | krol k q =>
    rcases k with (k | ⟨o, k⟩) | ⟨o, its, n, hk, hc, _⟩
    · cases k
    · cases k
    · exact .kList hk hc
  | dct f o => exact .base (.dK o)
  | @mrf k _ o =>
    have hm : (match st[k]? with | some (MO.lst _) => true | _ => false) = true := hm
    obtain ⟨xs, hx⟩ : ∃ xs, st[k]? = some (.lst xs) := by
      cases q : st[k]? with
      | none => rw [q] at hm; cases hm
      | some m =>
        cases m with
        | lst xs => exact ⟨xs, rfl⟩
        | gone => rw [q] at hm; cases hm
    obtain ⟨b, vs, h1, _, h3, _⟩ := g.lst _ _ hx
    rw [o] at h1; cases h1
    exact .base (.lst h3)
theorem kit_b : ∀ (c : Cl) (k : Kd), kitB k.nm c.nm = some (isiK c k) := by
  intro c k
  cases c <;> cases k <;> decide +kernel
theorem kit_any (K : PySem.W.Frag) (d : D) : ∀ cs : List Cl, PySem.W.kitAny K (.type (kdOf d).nm) (cs.map fun c => .type c.nm) = some (cs.any fun c => isiOne c d)
  | [] => rfl
  | c :: cs => kitAny_cons (kit_ty (kit_b c (kdOf d))) (fun e => by rw [kit_any K d cs, List.any_cons, show isiOne c d = false from e]; rfl) (fun e => by rw [List.any_cons, show isiOne c d = true from e]; rfl)
section
variable {call : Nat → List D → Sto → R D} {pos p p2 q1 q2 q3 : Pos} {x : Str} {e a b c : Expr} {es rest : List Expr} {xa xb xc : Xp} {xs : List Xp}
/-- isinstance(a, c) -/
theorem pev_isi1 (cl : Cl) {n : Str} (ha : PEv X call a xa) (hm : X.mg "isinstance" = none) (hn : X.mg n = none) (hv : bootBuiltins n = some (.type cl.nm)) (hg : Gl X "isinstance" := by rfl) (hgn : Gl X n := by rfl) (hs : isStar a = false := by rfl)
    (hnn : n ≠ "__name__" := by decide) (hnd : (n == ("__debug__" : Str)) = false := by decide) :
    PEv X call (.Call (.Name "isinstance" p) [a, .Name n q1] [] pos) (.isi xa [cl]) :=
  pe_weak (pe_callB call_isi hg hm PyProof.Rows.boot_isinstance (pa_cons ha (pa_cons (pe_bltn (v := .ty cl.nm) hgn hn hv rfl hnn hnd) pa_nil) (star_cons hs)) (by decide) (by decide) (star_cons hs) rfl) fun σ H Q ⟨w, env, st, g, r, h⟩ => by
    rw [ev_isi, R.wp_bind] at h
    refine tEv_mono _ g r h fun d s1 v w1 H1 h1 e1 g1 d1 => ?_
    obtain ⟨hl, h1⟩ := must_wp h1
    refine ⟨v, .ty cl.nm, _, _, isiOne cl d, rfl, .ty _, ty_of g1 d1 hl, kit_ty (kit_b cl (kdOf d)), ?_⟩
    have q := Fin.here g1 (.bl _) (Fin.ext e1 h1)
    simpa using q
/-- isinstance(a, (c, c')) -/
theorem pev_isi2 (cl cl' : Cl) {n n' : Str} {k : Nat} (ha : PEv X call a xa) (hm : X.mg "isinstance" = none) (hn : X.mg n = none) (hv : bootBuiltins n = some (.type cl.nm)) (hn' : X.mg n' = none) (hv' : bootBuiltins n' = some (.type cl'.nm))
    (hg : Gl X "isinstance" := by rfl) (hgn : Gl X n := by rfl) (hgn' : Gl X n' := by rfl) (hs : isStar a = false := by rfl)
    (hnn : n ≠ "__name__" := by decide) (hnd : (n == ("__debug__" : Str)) = false := by decide) (hnn' : n' ≠ "__name__" := by decide) (hnd' : (n' == ("__debug__" : Str)) = false := by decide) :
    PEv X call (.Call (.Name "isinstance" p) [a, .Tuple [.Name n q1, .Name n' q2] k q3] [] pos) (.isi xa [cl, cl']) :=
  pe_weak (pe_callB call_isiT hg hm PyProof.Rows.boot_isinstance (pa_cons ha (pa_cons (pe_tup (pa_cons (pe_bltn (v := .ty cl.nm) hgn hn hv rfl hnn hnd) (pa_cons (pe_bltn (v := .ty cl'.nm) hgn' hn' hv' rfl hnn' hnd') pa_nil))) pa_nil) (star_cons hs)) (by decide) (by decide) (star_cons hs) rfl) fun σ H Q ⟨w, env, st, g, r, h⟩ => by
    rw [ev_isi, R.wp_bind] at h
    refine tEv_mono _ g r h fun d s1 v w1 H1 h1 e1 g1 d1 => ?_
    obtain ⟨hl, h1⟩ := must_wp h1
    refine ⟨by show 2 ≤ sizeLine; decide, fun tp ht => ?_⟩
    have ee : Ext w1 H1 (w1.frz tp) (upd H1 tp (.tup [.ty cl.nm, .ty cl'.nm])) := Ext.frz g1 ht
    have g2 : Good X.K (w1.frz tp) (upd H1 tp (.tup [.ty cl.nm, .ty cl'.nm])) s1 := g1.frz ht
    exact ⟨v, tp, _, _, _, _, rfl, upd_same, .cons (.ty _) (.cons (.ty _) .nil), ty_of g2 (d1.le ee.toLe) hl, kit_any X.K d [cl, cl'], Fin.here g2 (.bl _) (Fin.ext (e1.trans ee) h1)⟩
end
end Pv
end
section
set_option Elab.async false
set_option autoImplicit false
set_option linter.all false
set_option maxRecDepth 100000
set_option maxHeartbeats 2000000
/-! Pv: targets, what is walked, comprehensions. -/
namespace Pv
open PySem L2
/-! ### slots -/
theorem wipe_get (σ : St) (j : Nat) : ∀ vs : List Nat, (L2.wipe σ vs)[j]? = if j ∈ vs then σ[j]?.map (fun _ => none) else σ[j]?
  | [] => by simp [L2.wipe]
  | v :: vs => by
    show ((L2.wipe σ vs).set v none)[j]? = _
    by_cases hv : v = j
    · subst hv
      rw [List.getElem?_set, if_pos rfl, if_pos (List.mem_cons_self ..), L2.wipe_length]
      by_cases hl : v < σ.length
      · rw [if_pos hl, List.getElem?_eq_getElem hl]; rfl
      · rw [if_neg hl, List.getElem?_eq_none (by omega)]; rfl
    · rw [List.getElem?_set_ne hv, wipe_get σ j vs]
      by_cases hm : j ∈ vs
      · rw [if_pos hm, if_pos (List.mem_cons_of_mem _ hm)]
      · rw [if_neg hm, if_neg (by simp [hm]; exact fun z => hv z.symm)]
theorem wipe_set {σ : St} {i : Nat} {x : Option V} {vs : List Nat} (h : i ∈ vs) : L2.wipe (σ.set i x) vs = L2.wipe σ vs := by
  apply List.ext_getElem?
  intro j
  rw [wipe_get, wipe_get]
  by_cases hj : j ∈ vs
  · rw [if_pos hj, if_pos hj]
    by_cases hl : j < σ.length
    · rw [List.getElem?_eq_getElem (by rw [List.length_set]; exact hl), List.getElem?_eq_getElem hl]; rfl
    · rw [List.getElem?_eq_none (by rw [List.length_set]; omega), List.getElem?_eq_none (by omega)]
  · rw [if_neg hj, if_neg hj, List.getElem?_set_ne (fun z => hj (by rw [← z]; exact h))]
theorem wipe_wipe (σ : St) (vs : List Nat) : L2.wipe (L2.wipe σ vs) vs = L2.wipe σ vs := by
  apply List.ext_getElem?
  intro j
  rw [wipe_get, wipe_get]
  by_cases hj : j ∈ vs
  · rw [if_pos hj, if_pos hj]
    cases σ[j]? <;> rfl
  · rw [if_neg hj, if_neg hj]
mutual
def tgIn : Tg → List Nat → Bool
  | .nm i, vs => decide (i ∈ vs)
  | .tup ts, vs => tgsIn ts vs
def tgsIn : List Tg → List Nat → Bool
  | [], _ => true
  | t :: ts, vs => tgIn t vs && tgsIn ts vs
end
def tTg (K : PySem.W.Frag) (tg : Tg) : TG := fun v σ H Q => ∃ w st env d env', Good K w H st ∧ EnvR K w H σ env ∧ Dv K w H v d ∧ bindT tg d env = some env' ∧
  ∀ σ', EnvR K w H σ' env' → (∀ vs, tgIn tg vs = true → L2.wipe σ' vs = L2.wipe σ vs) → Q σ' H
def tTgs (K : PySem.W.Frag) (ts : List Tg) : TGs := fun us σ H Q => ∃ w st env ds env', Good K w H st ∧ EnvR K w H σ env ∧ Dvs K w H us ds ∧ bindTs ts ds env = some env' ∧
  ∀ σ', EnvR K w H σ' env' → (∀ vs, tgsIn ts vs = true → L2.wipe σ' vs = L2.wipe σ vs) → Q σ' H
theorem pgs_weak {X : Cx} {e : List Expr} {t t' : TGs} (h : PGs X e t) (k : ∀ v σ H Q, t' v σ H Q → t v σ H Q) : PGs X e t' := ⟨fun pins s σ H v u Q I r q => h.run pins s σ H v u Q I r (k v σ H Q q)⟩
section
variable {X : Cx} {pos : Pos} {x : Str} {e : Expr} {es : List Expr} {t : Tg} {ts : List Tg}
theorem pgv_nm (i : Nat) (hN : X.N.Nodup) (hi : X.N[i]? = some x := by rfl) (hx : Loc X.env.scope x := by first | exact .inl rfl | exact .inr rfl) (hf : X.fn x = true ∨ X.env.scope.names.lookup x = some .local := by first | exact .inl rfl | exact .inr rfl) :
    PG X (.Name x pos) (tTg X.K (.nm i)) := pg_weak (pg_name hN hi hx hf) fun v σ H Q ⟨w, st, env, d, env', g, r, dv, hb, q⟩ => by
  unfold bindT at hb
  cases hb
  refine q _ (r.set dv) fun vs hv => ?_
  unfold tgIn at hv
  exact wipe_set (of_decide_eq_true hv)
theorem pgsv_nil : PGs X [] (tTgs X.K []) := pgs_weak pgs_nil fun v σ H Q ⟨w, st, env, d, env', g, r, dv, hb, q⟩ => by
  cases dv with
  | nil =>
    unfold bindTs at hb
    cases hb
    exact ⟨rfl, q σ r fun _ _ => rfl⟩
  | cons => unfold bindTs at hb; cases hb
theorem pgsv_cons (h1 : PG X e (tTg X.K t)) (h2 : PGs X es (tTgs X.K ts)) (hs : (assignEach (e :: es) X.env).map (·.2) = assign e X.env :: (assignEach es X.env).map (·.2) := by rfl) : PGs X (e :: es) (tTgs X.K (t :: ts)) :=
  pgs_weak (pgs_cons h1 h2 hs) fun v σ H Q ⟨w, st, env, d, env', g, r, dv, hb, q⟩ => by
    cases dv with
    | nil => unfold bindTs at hb; cases hb
    | @cons v vs d ds d1 d2 =>
      unfold bindTs at hb
      cases hb1 : bindT t d env with
      | none => rw [hb1] at hb; cases hb
      | some env1 =>
        rw [hb1] at hb
        refine ⟨v, vs, rfl, w, st, env, d, env1, g, r, d1, hb1, fun σ1 r1 hw1 => ?_⟩
        refine ⟨w, st, env1, ds, env', g, r1, d2, hb, fun σ2 r2 hw2 => q σ2 r2 fun us hu => ?_⟩
        unfold tgsIn at hu
        rw [Bool.and_eq_true] at hu
        exact (hw2 us hu.2).trans (hw1 us hu.1)
theorem bindTs_length : ∀ {ts : List Tg} {ds : List D} {env env' : En}, bindTs ts ds env = some env' → ds.length = ts.length
  | [], [], _, _, _ => rfl
  | [], _ :: _, _, _, h => by unfold bindTs at h; cases h
  | _ :: _, [], _, _, h => by unfold bindTs at h; cases h
  | t :: ts, d :: ds, env, env', h => by
    unfold bindTs at h
    cases h1 : bindT t d env with
    | none => rw [h1] at h; cases h
    | some env1 =>
      rw [h1] at h
      rw [List.length_cons, List.length_cons, bindTs_length h]
theorem pgv_tup {k : Nat} (hc : X.calm = true) (h : PGs X es (tTgs X.K ts)) (hn : (assignEach es X.env).length = ts.length := by rfl) (hst : (assignEach es X.env).findIdx? (·.1) = none := by rfl) : PG X (.Tuple es k pos) (tTg X.K (.tup ts)) :=
  pg_weak (pg_tup hc h hn hst) fun v σ H Q ⟨w, st, env, d, env', g, r, dv, hb, q⟩ => by
    cases d with
    | tup ds =>
      obtain ⟨a, vs, rfl, hs, rr⟩ := tup_sq dv
      unfold bindT at hb
      exact ⟨a, vs, rfl, hs, by rw [rr.length, bindTs_length hb], w, st, env, ds, env', g, r, rr, hb, fun σ' r' hw => q σ' r' fun us hu => hw us (by unfold tgIn at hu; exact hu)⟩
    | _ => unfold bindT at hb; cases hb
end
/-! ### what is walked -/
def JOk (K : PySem.W.Frag) (w : Wd) (H : Hp) (J : It) (ds : List D) : Prop := ∀ w' H', Le w H w' H' →
  (∀ (i : Nat) (d : D), ds[i]? = some d → J.go i H' ∧ ∀ x H'', J.yld i H' x H'' → H'' = H' ∧ Dv K w' H' x d) ∧ ∀ i : Nat, ds.length ≤ i → J.stop i H'
def tIv (K : PySem.W.Frag) (call : Nat → List D → Sto → R D) (it : Xp) : TI := fun σ H R => ∃ w env st, Good K w H st ∧ EnvR K w H σ env ∧ (evX call it env st).wp fun d st' => ∃ ds, itemsOf st' d = some ds ∧
  ∀ J w' H', Ext w H w' H' → Good K w' H' st' → JOk K w' H' J ds → R J H'
theorem jok_list {K : PySem.W.Frag} {w : Wd} {H : Hp} {a : Addr} {vs : List V} {ds : List D} (hs : ∀ w' H', Le w H w' H' → SqL K H' a vs) (r : Dvs K w H vs ds) : JOk K w H (Itl K a) ds := fun w' H' e => by
  refine ⟨fun i d hi => ?_, fun i hi => ⟨vs, hs w' H' e, by rw [r.length]; exact hi⟩⟩
  obtain ⟨v, h1, h2⟩ := r.get hi
  refine ⟨⟨vs, v, hs w' H' e, h1⟩, fun x H'' ⟨e1, e2⟩ => ⟨e1, ?_⟩⟩
  have := e2 vs (hs w' H' e)
  rw [h1] at this
  cases this
  exact h2.le e
theorem jok_tup {K : PySem.W.Frag} {w : Wd} {H : Hp} {a : Addr} {vs : List V} {ds : List D} (hs : ∀ w' H', Le w H w' H' → SqT K H' a vs) (r : Dvs K w H vs ds) : JOk K w H (Itt K a) ds := fun w' H' e => by
  refine ⟨fun i d hi => ?_, fun i hi => ⟨vs, hs w' H' e, by rw [r.length]; exact hi⟩⟩
  obtain ⟨v, h1, h2⟩ := r.get hi
  refine ⟨⟨vs, v, hs w' H' e, h1⟩, fun x H'' ⟨e1, e2⟩ => ⟨e1, ?_⟩⟩
  have := e2 vs (hs w' H' e)
  rw [h1] at this
  cases this
  exact h2.le e
theorem jok_str {K : PySem.W.Frag} {w : Wd} {H : Hp} (x : Str) : JOk K w H (Its x) (x.cps.toList.map fun c => .str ⟨#[c]⟩) := fun w' H' e => by
  refine ⟨fun i d hi => ?_, fun i hi => ?_⟩
  · rw [List.getElem?_map] at hi
    cases q : x.cps.toList[i]? with
    | none => rw [q] at hi; cases hi
    | some c =>
      rw [q] at hi
      cases hi
      have q' : x.cps[i]? = some c := by rw [← Array.getElem?_toList]; exact q
      refine ⟨(Array.getElem?_eq_some_iff.mp q').1, fun y H'' ⟨e1, c', e2, e3⟩ => ⟨e1, ?_⟩⟩
      rw [q'] at e2
      cases e2
      subst e3
      exact .str _
  · rw [List.length_map, Array.length_toList] at hi
    exact hi
theorem jok_range {K : PySem.W.Frag} {w : Wd} {H : Hp} (n : Nat) : JOk K w H (Itr 0 n) (rangeD n) := fun w' H' e => by
  refine ⟨fun i d hi => ?_, fun i hi => ?_⟩
  · unfold rangeD at hi
    rw [List.getElem?_map] at hi
    by_cases hl : i < n
    · rw [List.getElem?_range hl] at hi
      cases hi
      refine ⟨hl, fun y H'' ⟨e1, e2⟩ => ⟨e1, ?_⟩⟩
      subst e2
      rw [Int.zero_add]
      exact .int _
    · rw [List.getElem?_eq_none (by simp; omega)] at hi
      cases hi
  · unfold rangeD at hi
    rw [List.length_map, List.length_range] at hi
    exact hi
section
variable {X : Cx} {call : Nat → List D → Sto → R D} {pos p : Pos} {x : Str} {e it tg : Expr} {xi : Xp}
theorem wp_ok {α : Type} {r : R α} {Q : α → Sto → Prop} (h : r.wp Q) : ∃ a st, r = .ok a st ∧ Q a st := by
  cases r with
  | stuck => exact h.elim
  | ok a st => exact ⟨a, st, rfl, h⟩
theorem tEv_ok {K : PySem.W.Frag} {x : Xp} {σ : St} {H : Hp} {Q : VK} {w : Wd} {env : En} {st st' : Sto} {d : D} (g : Good K w H st) (r : EnvR K w H σ env) (e : evX call x env st = .ok d st')
    (k : ∀ v w' H', Ext w H w' H' → Good K w' H' st' → Dv K w' H' v d → Q v H') : tEv K call x σ H Q := ⟨w, env, st, g, r, by rw [e]; exact k⟩
theorem piv (he : PEv X call it xi) : PI X tg it (tIv X.K call xi) := by
  refine ⟨fun pins s σ H R I ⟨w, env, st, g, r, h⟩ => ?_⟩
  obtain ⟨d, st', q, ds, hd, h⟩ := wp_ok h
  cases d with
  | lst es =>
    cases hd
    refine (pi_list he).run pins s σ H R I (tEv_ok g r q fun v w' H' e' g' d' => ?_)
    cases d' with
    | @lst a vs _ f o rr =>
      have hH : ∀ w2 H2, Le w' H' w2 H2 → H2 a = some (.lst vs) := fun w2 H2 e2 => e2.ob a _ f o
      exact ⟨a, rfl, ⟨vs, .inl (.inl o)⟩, h _ w' H' e' g' (jok_list (fun w2 H2 e2 => .inl (.inl (hH w2 H2 e2))) rr)⟩
  | tup es =>
    cases hd
    refine (pi_tup he).run pins s σ H R I (tEv_ok g r q fun v w' H' e' g' d' => ?_)
    cases d' with
    | @tup a vs _ f o rr => exact ⟨a, rfl, ⟨vs, .inl (.inl o)⟩, h _ w' H' e' g' (jok_tup (fun w2 H2 e2 => .inl (.inl (e2.ob a _ f o))) rr)⟩
    | @ktup a vs _ k rr => exact ⟨a, rfl, ⟨vs, k.sq⟩, h _ w' H' e' g' (jok_tup (fun w2 H2 e2 => k.sq) rr)⟩
  | rol es =>
    cases hd
    refine (pi_list he).run pins s σ H R I (tEv_ok g r q fun v w' H' e' g' d' => ?_)
    cases d' with
    | @rol a vs _ o f q1 rr => exact ⟨a, rfl, ⟨vs, .inl (.inr ⟨o, q1⟩)⟩, h _ w' H' e' g' (jok_list (fun w2 H2 e2 => .inl (.inr ⟨o, e2.ob a _ f q1⟩)) rr)⟩
    | @krol a vs _ k rr => exact ⟨a, rfl, ⟨vs, k.sq⟩, h _ w' H' e' g' (jok_list (fun w2 H2 e2 => k.sq) rr)⟩
  | str x =>
    cases hd
    refine (pi_str he).run pins s σ H R I (tEv_ok g r q fun v w' H' e' g' d' => ?_)
    cases d'
    exact ⟨x, rfl, h _ w' H' e' g' (jok_str x)⟩
  | _ => cases hd
def tRv (K : PySem.W.Frag) (call : Nat → List D → Sto → R D) (n : Xp) : TI := fun σ H R => ∃ w env st, Good K w H st ∧ EnvR K w H σ env ∧ (evX call n env st).wp fun d st' => ∃ j, asI d = some j ∧ (-(2 ^ 62) ≤ j ∧ j < 2 ^ 62) ∧
  ∀ J w' H', Ext w H w' H' → Good K w' H' st' → JOk K w' H' J (rangeD j.toNat) → R J H'
theorem pi_weak {tg it : Expr} {t t' : TI} (h : PI X tg it t) (k : ∀ σ H R, t' σ H R → t σ H R) : PI X tg it t' := ⟨fun pins s σ H R I q => h.run pins s σ H R I (k σ H R q)⟩
theorem pirv (hm : X.mg "range" = none) (he : PEv X call e xi) (hg : Gl X "range" := by rfl) (hs : isStar e = false := by rfl) : PI X tg (.Call (.Name "range" p) [e] [] pos) (tRv X.K call xi) :=
  pi_weak (pi_range1 hg hm (pa_cons he pa_nil (star_cons hs)) (star_cons hs)) fun σ H R ⟨w, env, st, g, r, h⟩ => by
    refine tEv_mono _ g r h fun d s1 v w1 H1 ⟨j, hj, hb, h1⟩ e1 g1 d1 => ?_
    cases d1 <;> cases hj
    exact ⟨_, rfl, hb.1, hb.2, h1 _ w1 H1 e1 g1 (jok_range _)⟩
end
/-! ### tests of a clause -/
def tCs (K : PySem.W.Frag) (call : Nat → List D → Sto → R D) (cs : List Xp) : TT := fun σ H Q => ∃ w env st, Good K w H st ∧ EnvR K w H σ env ∧ (evC call cs env st).wp fun b st' => ∀ w' H', Ext w H w' H' → Good K w' H' st' → Q b H'
section
variable {X : Cx} {call : Nat → List D → Sto → R D} {pos p : Pos} {x : Str} {e it tg c : Expr} {xi xc xe : Xp}
theorem ptcs_nil : PTs X [] (tCs X.K call []) := ⟨fun pins s σ H Q I ⟨w, env, st, g, r, h⟩ => pts_nil.run pins s σ H Q I (by
  rw [evc_nil] at h
  exact h w H (Ext.refl w H) g)⟩
theorem ptcs_one (h : PTv X call c xc) : PTs X [c] (tCs X.K call [xc]) := ⟨fun pins s σ H Q I ⟨w, env, st, g, r, hh⟩ => (pts_one h).run pins s σ H Q I (by
  rw [evc_cons, R.wp_bind] at hh
  refine ⟨w, env, st, g, r, ?_⟩
  unfold evT
  rw [R.wp_bind]
  refine R.wp_mono hh fun d s1 h1 => ?_
  obtain ⟨t, q, h1⟩ := obind_wp h1
  rw [q]
  cases t with
  | true => rw [if_pos rfl, evc_nil] at h1; exact h1
  | false => rw [if_neg Bool.false_ne_true] at h1; exact h1)⟩
/-! ### comprehensions -/
theorem Good.fix {K : PySem.W.Frag} {w : Wd} {H : Hp} {st : Sto} (g : Good K w H st) {p : Addr} (h : H p ≠ none) (t : p ∉ w.th) : Good K (w.frz p) H st := by
  have e : Le w H (w.frz p) H := ⟨fun _ _ e => e, fun _ e => .inl e, fun _ _ _ e => e⟩
  refine ⟨g.len, g.nd, g.thIn, fun b m => ?_, fun k ds q => ?_⟩
  · rcases m with m | m
    · exact g.fzIn b m
    · rw [m]; exact h
  · obtain ⟨b, vs, h1, h2, h3, h4⟩ := g.lst k ds q
    refine ⟨b, vs, h1, fun z => ?_, h3, h4.le e⟩
    rcases z with z | z
    · exact h2 z
    · exact t (by rw [← z]; exact List.mem_of_getElem? h1)
theorem Ext.beside {w w' : Wd} {H H' : Hp} {a : Addr} {o : HO} (e : Ext w H w' H') (h : H a = none) : Ext w H w' (upd H' a o) := by
  refine ⟨⟨e.th, e.fz, fun b u f q => ?_⟩, fun b u q n => ?_, e.newF, e.newT⟩
  · rw [upd_ne (ne_of_none q h)]; exact e.ob b u f q
  · rw [upd_ne (ne_of_none q h)]; exact e.keep b u q n
theorem Ext.fix {w w' : Wd} {H H' : Hp} {a : Addr} (e : Ext w H w' H') (h : H a = none) : Ext w H (w'.frz a) H' := by
  refine ⟨⟨e.th, fun b f => .inl (e.fz b f), e.ob⟩, e.keep, fun b f => ?_, e.newT⟩
  rcases f with f | f
  · exact e.newF b f
  · rw [f]; exact .inr (.inr h)
/-- one turn's invariant -/
def CInv (K : PySem.W.Frag) (w1 : Wd) (H1 : Hp) (L : Addr) (ds : List D) (F : List D → List D → Sto → Prop) (i m : Nat) (H2 : Hp) : Prop := i ≤ ds.length ∧ m = ds.length - i ∧ ∃ w2 st2 vs acc, Ext w1 H1 w2 H2 ∧ Good K w2 H2 st2 ∧ H2 L = some (.lst vs) ∧ ¬ w2.fz L ∧ L ∉ w2.th ∧ Dvs K w2 H2 vs acc ∧ F acc (ds.drop i) st2
theorem comp_core {own : List Nat} {tg : Tg} {cs : List Xp} {xe : Xp} (ht : tgIn tg own = true) {K : PySem.W.Frag} {w w1 : Wd} {H H1 : Hp} {σ : St} {env : En} {st1 : Sto} {ds : List D} {Q : VK} {J : It}
    (e1 : Ext w H w1 H1) (g1 : Good K w1 H1 st1) (r : EnvR K w H σ env) (jok : JOk K w1 H1 J ds)
    (h : (compR tg (wipeE env own) (fun env st => evC call cs env st) (fun env st => evX call xe env st) [] ds st1).wp fun ys st' => Fin K w H Q (.lst ys) st') :
    ∀ L, H1 L = none → ∃ W : Nat → Nat → Hp → Prop, (∃ m, W 0 m (upd H1 L (.lst []))) ∧ ∀ i m H2, W i m H2 →
      (J.stop i H2 ∧ Q (.ref L) H2) ∨ (J.go i H2 ∧ ∃ Nx : Hp → Prop, (∀ H', Nx H' → ∃ m', m' < m ∧ W (i + 1) m' H') ∧ ∀ x H', J.yld i H2 x H' → tTg K tg x (L2.wipe σ own) H' fun σ2 H3 => L2.wipe σ2 own = L2.wipe σ own ∧ tCs K call cs σ2 H3 fun b H4 =>
        if b = true then tEv K call xe σ2 H4 fun y H5 => ∃ acc, H5 L = some (.lst acc) ∧ acc.length < sizeLine ∧ Nx (upd H5 L (.lst (acc ++ [y]))) else Nx H4) := by
  intro L hL
  have nf1 : ¬ w1.fz L := fun z => g1.fzIn L z hL
  have nt1 : L ∉ w1.th := fun z => g1.thIn L z hL
  refine ⟨CInv K w1 H1 L ds fun acc rest st => (compR tg (wipeE env own) (fun env st => evC call cs env st) (fun env st => evX call xe env st) acc rest st).wp fun ys st' => Fin K w H Q (.lst ys) st', ⟨ds.length, Nat.zero_le _, by omega, w1, st1, [], [], (Ext.refl w1 H1).beside hL, g1.upd nf1 nt1, upd_same, nf1, nt1, .nil, by rw [List.drop_zero]; exact h⟩, ?_⟩
  intro i m H2 ⟨hi, hm, w2, st2, vs, acc, e2, g2, hL2, nf, nt, ra, hr⟩
  have jk := jok w2 H2 e2.toLe
  by_cases hend : i = ds.length
  · subst hend
    refine .inl ⟨jk.2 _ (Nat.le_refl _), ?_⟩
    rw [List.drop_length] at hr
    unfold compR at hr
    have ee : Ext w H (w2.frz L) H2 := e1.trans (e2.fix hL)
    refine hr (.ref L) (w2.frz L) H2 ee (g2.fix (by rw [hL2]; intro z; cases z) nt) (.lst (.inr rfl) hL2 (ra.le ⟨fun _ _ e => e, fun _ e => .inl e, fun _ _ _ e => e⟩))
  · have hlt : i < ds.length := by omega
    have hd : ds[i]? = some ds[i] := List.getElem?_eq_getElem hlt
    obtain ⟨hgo, hy⟩ := jk.1 i _ hd
    refine .inr ⟨hgo, fun H' => CInv K w1 H1 L ds (fun acc rest st => (compR tg (wipeE env own) (fun env st => evC call cs env st) (fun env st => evX call xe env st) acc rest st).wp fun ys st' => Fin K w H Q (.lst ys) st') (i + 1) (ds.length - (i + 1)) H', fun H' n => ⟨_, by omega, n⟩, fun x H3 hyl => ?_⟩
    obtain ⟨e0, dx⟩ := hy x H3 hyl
    subst e0
    rw [List.drop_eq_getElem_cons hlt] at hr
    unfold compR at hr
    obtain ⟨env', hb, hr⟩ := obind_wp hr
    rw [R.wp_bind] at hr
    have r2 : EnvR K w2 H3 (L2.wipe σ own) (wipeE env own) := (r.le (e1.trans e2).toLe).wipe own
    refine ⟨w2, st2, _, _, env', g2, r2, dx, hb, fun σ2 r3 hw => ⟨(hw own ht).trans (wipe_wipe σ own), ?_⟩⟩
    refine ⟨w2, env', st2, g2, r3, R.wp_mono hr fun b st3 h3 w3 H4 e3 g3 => ?_⟩
    have nf3 : ¬ w3.fz L := fun z => by
      rcases e3.newF L z with z | z | z
      · exact nf z
      · exact nt z
      · rw [hL2] at z; cases z
    have nt3 : L ∉ w3.th := fun z => by
      rcases e3.newT L z with z | z
      · exact nt z
      · rw [hL2] at z; cases z
    have hL3 : H4 L = some (.lst vs) := e3.keep L _ hL2 nt
    cases b with
    | false =>
      rw [if_neg Bool.false_ne_true] at h3
      refine iteF ?_
      exact ⟨by omega, rfl, w3, st3, vs, acc, e2.trans e3, g3, hL3, nf3, nt3, ra.le e3.toLe, h3⟩
    | true =>
      rw [if_pos rfl] at h3
      rw [R.wp_bind] at h3
      refine iteT ?_
      refine tEv_mono _ g3 (r3.le e3.toLe) h3 fun y st4 v w4 H5 h4 e4 g4 dy => ?_
      obtain ⟨hlen, h4⟩ := must_wp h4
      have nf4 : ¬ w4.fz L := fun z => by
        rcases e4.newF L z with z | z | z
        · exact nf3 z
        · exact nt3 z
        · rw [hL3] at z; cases z
      have nt4 : L ∉ w4.th := fun z => by
        rcases e4.newT L z with z | z
        · exact nt3 z
        · rw [hL3] at z; cases z
      have ra4 : Dvs K w4 H5 vs acc := (ra.le e3.toLe).le e4.toLe
      refine ⟨vs, e4.keep L _ hL3 nt3, by rw [ra4.length]; exact hlen, by omega, rfl, w4, st4, vs ++ [v], acc ++ [y], ((e2.trans e3).trans e4).beside hL, g4.upd nf4 nt4, upd_same, nf4, nt4, ?_, h4⟩
      exact (ra4.append (.cons dy .nil)).le (Le.upd nf4)
section
variable {p2 : Pos} {elt : Expr} {ifs : List Expr} {scope : Scope} {own : List (Str × Nat)} {tgx : Tg} {cs : List Xp} {n : Expr}
theorem pev_comp {k : Nat} (cz : Cz X k) (own : List (Str × Nat)) (hi : PEv X call it xi) (ok : blkC X.N X.env.scope scope own = true)
    (hg : ∀ (s : Shared) (H : Hp) (C : Addr) (cl : List (Str × Addr)) (fp : List Addr), PG (X.blk s H scope (compEnvC scope cl C X.env) fp) tg (tTg X.K tgx))
    (ht : ∀ (s : Shared) (H : Hp) (C : Addr) (cl : List (Str × Addr)) (fp : List Addr), PTs (X.blk s H scope (compEnvC scope cl C X.env) fp) ifs (tCs X.K call cs))
    (he : ∀ (s : Shared) (H : Hp) (C : Addr) (cl : List (Str × Addr)) (fp : List Addr), PE (X.blk s H scope (compEnvC scope cl C X.env) fp) e (tEv X.K call xe))
    (hin : tgIn tgx (own.map (·.2)) = true := by rfl) (hs : ∀ x, foldedSetIterable it X.env x = pure x := by intro _; rfl) :
    PEv X call (.ListComp e [⟨tg, it, ifs, 0⟩] scope pos) (.comp (own.map (·.2)) tgx xi cs xe) :=
  pe_weak (pe_lc cz.calm cz.nd (piv hi) (blkOk_by ok) hg ht he hs) fun σ H Q ⟨w, env, st, g, r, h⟩ => by
    rw [ev_comp, R.wp_bind] at h
    refine ⟨w, env, st, g, r, R.wp_mono h fun d s1 h1 => ?_⟩
    obtain ⟨ds, q, h1⟩ := obind_wp h1
    rw [R.wp_bind] at h1
    exact ⟨ds, q, fun J w1 H1 e1 g1 jok => comp_core hin e1 g1 r jok h1⟩
theorem pev_rcomp {k : Nat} (cz : Cz X k) (own : List (Str × Nat)) (hm : X.mg "range" = none) (hi : PEv X call n xi) (ok : blkC X.N X.env.scope scope own = true)
    (hg : ∀ (s : Shared) (H : Hp) (C : Addr) (cl : List (Str × Addr)) (fp : List Addr), PG (X.blk s H scope (compEnvC scope cl C X.env) fp) tg (tTg X.K tgx))
    (ht : ∀ (s : Shared) (H : Hp) (C : Addr) (cl : List (Str × Addr)) (fp : List Addr), PTs (X.blk s H scope (compEnvC scope cl C X.env) fp) ifs (tCs X.K call cs))
    (he : ∀ (s : Shared) (H : Hp) (C : Addr) (cl : List (Str × Addr)) (fp : List Addr), PE (X.blk s H scope (compEnvC scope cl C X.env) fp) e (tEv X.K call xe))
    (hgr : Gl X "range" := by rfl) (hst : isStar n = false := by rfl) (hin : tgIn tgx (own.map (·.2)) = true := by rfl) :
    PEv X call (.ListComp e [⟨tg, .Call (.Name "range" p) [n] [] p2, ifs, 0⟩] scope pos) (.rcomp (own.map (·.2)) tgx xi cs xe) :=
  pe_weak (pe_lc cz.calm cz.nd (pirv hm hi hgr hst) (blkOk_by ok) hg ht he) fun σ H Q ⟨w, env, st, g, r, h⟩ => by
    rw [ev_rcomp, R.wp_bind] at h
    refine ⟨w, env, st, g, r, R.wp_mono h fun d s1 h1 => ?_⟩
    obtain ⟨j, q, h1⟩ := obind_wp h1
    obtain ⟨hb, h1⟩ := must_wp h1
    rw [R.wp_bind] at h1
    exact ⟨j, q, hb, fun J w1 H1 e1 g1 jok => comp_core hin e1 g1 r jok h1⟩
end
end
end Pv
end
section
set_option Elab.async false
set_option autoImplicit false
set_option linter.all false
set_option maxRecDepth 100000
set_option maxHeartbeats 2000000
/-! Pv: statements. -/
namespace Pv
open PySem L2 PySem.Spec PyProof.Rows
/-- what is wanted behind a statement -/
def Out (K : PySem.W.Frag) (w : Wd) (H : Hp) (E : Ends) : Fl → Sto → Prop
  | .next env', st' => ∀ σ' w' H', Ext w H w' H' → Good K w' H' st' → EnvR K w' H' σ' env' → E.nx σ' H'
  | .brk env', st' => ∀ σ' w' H', Ext w H w' H' → Good K w' H' st' → EnvR K w' H' σ' env' → E.bk σ' H'
  | .cont env', st' => ∀ σ' w' H', Ext w H w' H' → Good K w' H' st' → EnvR K w' H' σ' env' → E.ct σ' H'
  | .ret d, st' => ∀ v w' H', Ext w H w' H' → Good K w' H' st' → Dv K w' H' v d → E.rt v H'
theorem Out.ext {K : PySem.W.Frag} {w w' : Wd} {H H' : Hp} {E : Ends} {f : Fl} {st : Sto} (e : Ext w H w' H') (h : Out K w H E f st) : Out K w' H' E f st := by
  cases f with
  | next env => exact fun σ' w2 H2 e2 => h σ' w2 H2 (e.trans e2)
  | brk env => exact fun σ' w2 H2 e2 => h σ' w2 H2 (e.trans e2)
  | cont env => exact fun σ' w2 H2 e2 => h σ' w2 H2 (e.trans e2)
  | ret d => exact fun σ' w2 H2 e2 => h σ' w2 H2 (e.trans e2)
section
variable (K : PySem.W.Frag) (call : Nat → List D → Sto → R D)
def tSv (s : S) : TS := fun E σ H => ∃ w env st, Good K w H st ∧ EnvR K w H σ env ∧ (evS call s env st).wp (Out K w H E)
def tSsv (ss : List S) : TS := fun E σ H => ∃ w env st, Good K w H st ∧ EnvR K w H σ env ∧ (evSs call ss env st).wp (Out K w H E)
end
section
variable (call : Nat → List D → Sto → R D) (env : En) (st : Sto) (e c o i : Xp) (t : Tg) (a b : List S)
theorem es_set : evS call (.set t e) env st = (evX call e env st).bind fun d st => (opt (bindT t d env) st).bind fun env st => .ok (.next env) st := by rw [evS]
theorem es_par (i j : Nat) : evS call (.par i j e c) env st = (evX call e env st).bind fun x st => (evX call c env st).bind fun y st => .ok (.next ((env.set i (some x)).set j (some y))) st := by rw [evS]
theorem es_if : evS call (.if c a b) env st = (evX call c env st).bind fun x st => (opt (truth st x) st).bind fun r st => if r then evSs call a env st else evSs call b env st := by rw [evS]
theorem es_ret : evS call (.ret e) env st = (evX call e env st).bind fun d st => .ok (.ret d) st := by rw [evS]
theorem es_retN : evS call .retN env st = .ok (.ret .non) st := by rw [evS]
theorem es_for : evS call (.for t e b) env st = (evX call e env st).bind fun x st => (opt (itemsOf st x) st).bind fun ds st => forR t (fun env st => evSs call b env st) env ds st := by rw [evS]
theorem es_range : evS call (.range t e b) env st = (evX call e env st).bind fun x st => (opt (asI x) st).bind fun j st => must (-(2 ^ 62) ≤ j ∧ j < 2 ^ 62) (forR t (fun env st => evSs call b env st) env (rangeD j.toNat) st) := by rw [evS]
theorem es_exp : evS call (.exp e) env st = (evX call e env st).bind fun _ st => .ok (.next env) st := by rw [evS]
theorem es_pass : evS call .pass env st = .ok (.next env) st := by rw [evS]
theorem es_brk : evS call .brk env st = .ok (.brk env) st := by rw [evS]
theorem es_cont : evS call .cont env st = .ok (.cont env) st := by rw [evS]
theorem es_put : evS call (.put o i e) env st = (evX call e env st).bind fun v st => (evX call o env st).bind fun o st => (evX call i env st).bind fun i st => (opt (putD st o i v) st).bind fun st' _ => .ok (.next env) st' := by rw [evS]
theorem ess_nil : evSs call [] env st = .ok (.next env) st := by rw [evSs]
/-- behind a statement the next ones -/
def goOn (ss : List S) (f : Fl) (st : Sto) : R Fl := match f with
  | .next env => evSs call ss env st
  | f => .ok f st
theorem ess_cons (s : S) (ss : List S) : evSs call (s :: ss) env st = (evS call s env st).bind fun f st => goOn call ss f st := by
  rw [evSs]
  rfl
end
section
variable {X : Cx} {call : Nat → List D → Sto → R D} {pos p p' : Pos} {x y : Str} {e a b c o i tg it n : Expr} {xa xb xc xe xo xi : Xp} {t : Tg} {ss ss' : List S} {s : S} {st : Stmt} {sts sts' : List Stmt}
abbrev PSv (X : Cx) (call : Nat → List D → Sto → R D) (st : Stmt) (s : S) : Prop := PS X st (tSv X.K call s)
abbrev PSsv (X : Cx) (call : Nat → List D → Sto → R D) (st : List Stmt) (s : List S) : Prop := PSs X st (tSsv X.K call s)
theorem pssv_nil : PSsv X call [] [] := pss_weak pss_nil fun E σ H ⟨w, env, st, g, r, h⟩ => by
  rw [ess_nil] at h
  exact h σ w H (Ext.refl w H) g r
theorem pssv_cons (h1 : PSv X call st s) (h2 : PSsv X call sts ss) : PSsv X call (st :: sts) (s :: ss) := pss_weak (pss_cons h1 h2) fun E σ H ⟨w, env, st, g, r, h⟩ => by
  rw [ess_cons, R.wp_bind] at h
  refine ⟨w, env, st, g, r, R.wp_mono h fun f s1 h1 => ?_⟩
  cases f with
  | next env1 => exact fun σ1 w1 H1 e1 g1 r1 => ⟨w1, env1, s1, g1, r1, R.wp_mono h1 fun f s2 h2 => Out.ext e1 h2⟩
  | brk env1 => exact h1
  | cont env1 => exact h1
  | ret d => exact h1
theorem psv_set (he : PEv X call e xe) (hg : PG X tg (tTg X.K t)) (hs : swapsWithSole [tg] e pos.line X.env = pure false := by rfl) (hw : swappedStores [tg] e X.env = pure none := by rfl) (h1 : (assignEach [tg] X.env).map (·.2) = [assign tg X.env] := by rfl) : PSv X call (.Assign [tg] e pos) (.set t xe) :=
  ps_weak (ps_asg he hg hs hw h1) fun E σ H ⟨w, env, st, g, r, h⟩ => by
    rw [es_set, R.wp_bind] at h
    refine tEv_mono _ g r h fun d s1 v w1 H1 h1 e1 g1 d1 => ?_
    obtain ⟨env', hb, h1⟩ := obind_wp h1
    exact ⟨w1, s1, env, d, env', g1, r.le e1.toLe, d1, hb, fun σ' r' _ => h1 σ' w1 H1 e1 g1 r'⟩
theorem psv_par (i j : Nat) {kt k2 : Nat} {px py pt pt2 : Pos} (hc : X.calm = true) (hN : X.N.Nodup) (ha : PEv X call a xa) (hb : PEv X call b xb) (hi : X.N[i]? = some x := by rfl) (hj : X.N[j]? = some y := by rfl) (hij : i ≠ j := by decide)
    (hx : X.env.scope.names.lookup x = some .local := by rfl) (hy : X.env.scope.names.lookup y = some .local := by rfl) (hsa : isStar a = false := by rfl) (hsb : isStar b = false := by rfl)
    (hw : swappedStores [.Tuple [.Name x px, .Name y py] kt pt] (.Tuple [a, b] k2 pt2) X.env = pure (some [x, y]) := by rfl)
    (hs : swapsWithSole [.Tuple [.Name x px, .Name y py] kt pt] (.Tuple [a, b] k2 pt2) pos.line X.env = pure false := by rfl) :
    PSv X call (.Assign [.Tuple [.Name x px, .Name y py] kt pt] (.Tuple [a, b] k2 pt2) pos) (.par i j xa xb) :=
  ps_weak (ps_par hc hN hi hj hij hx hy (pa_cons ha (pa_cons hb pa_nil (star_cons hsb)) (star_cons hsa)) hw hs) fun E σ H ⟨w, env, st, g, r, h⟩ => by
    rw [es_par, R.wp_bind] at h
    refine tEv_mono _ g r h fun d s1 v w1 H1 h1 e1 g1 d1 => ?_
    rw [R.wp_bind] at h1
    refine tEv_mono _ g1 (r.le e1.toLe) h1 fun d' s2 v2 w2 H2 h2 e2 g2 d2 => ?_
    exact ⟨v, v2, rfl, h2 _ w2 H2 (e1.trans e2) g2 (((r.le e1.toLe).le e2.toLe).set (d1.le e2.toLe) |>.set d2)⟩
theorem psv_if (hc : PTv X call c xc) (ha : PSsv X call sts ss) (hb : PSsv X call sts' ss') : PSv X call (.If c sts sts' pos) (.if xc ss ss') := ps_weak (ps_if hc ha hb) fun E σ H ⟨w, env, st, g, r, h⟩ => by
  rw [es_if] at h
  have h' : (evT call xc env st).wp fun t st' => ((if t = true then evSs call ss env st' else evSs call ss' env st').wp (Out X.K w H E)) := by
    unfold evT
    rw [R.wp_bind] at h ⊢
    refine R.wp_mono h fun d s1 h1 => ?_
    obtain ⟨t, q, h1⟩ := obind_wp h1
    rw [q]
    exact h1
  refine tTv_mono _ g r h' fun t s1 w1 H1 h1 e1 g1 => ?_
  cases t with
  | true => exact iteT ⟨w1, env, s1, g1, r.le e1.toLe, R.wp_mono h1 fun d s2 h2 => Out.ext e1 h2⟩
  | false => exact iteF ⟨w1, env, s1, g1, r.le e1.toLe, R.wp_mono h1 fun d s2 h2 => Out.ext e1 h2⟩
theorem psv_ret (he : PEv X call e xe) : PSv X call (.Return (some e) pos) (.ret xe) := ps_weak (ps_ret he) fun E σ H ⟨w, env, st, g, r, h⟩ => by
  rw [es_ret, R.wp_bind] at h
  exact tEv_mono _ g r h fun d s1 v w1 H1 h1 e1 g1 d1 => h1 v w1 H1 e1 g1 d1
theorem psv_retN : PSv X call (.Return none pos) .retN := ps_weak ps_retN fun E σ H ⟨w, env, st, g, r, h⟩ => by
  rw [es_retN] at h
  exact h _ w H (Ext.refl w H) g .non
theorem psv_exp (he : PEv X call e xe) (hs : swapsWith e none pos.line X.env = pure false := by rfl) : PSv X call (.Expr e pos) (.exp xe) := ps_weak (ps_expr he hs) fun E σ H ⟨w, env, st, g, r, h⟩ => by
  rw [es_exp, R.wp_bind] at h
  exact tEv_mono _ g r h fun d s1 v w1 H1 h1 e1 g1 d1 => h1 σ w1 H1 e1 g1 (r.le e1.toLe)
theorem psv_pass : PSv X call (.Pass pos) .pass := ps_weak ps_pass fun E σ H ⟨w, env, st, g, r, h⟩ => by
  rw [es_pass] at h
  exact h _ w H (Ext.refl w H) g r
theorem psv_brk : PSv X call (.Break pos) .brk := ps_weak ps_break fun E σ H ⟨w, env, st, g, r, h⟩ => by
  rw [es_brk] at h
  exact h _ w H (Ext.refl w H) g r
theorem psv_cont : PSv X call (.Continue pos) .cont := ps_weak ps_continue fun E σ H ⟨w, env, st, g, r, h⟩ => by
  rw [es_cont] at h
  exact h _ w H (Ext.refl w H) g r
/-- name = [..] -/
theorem psv_setLc {k : Nat} (cz : Cz X k) (i : Nat) {elt : Expr} {ifs : List Expr} {scope : Scope} {tgx : Tg} {cs : List Xp} (own : List (Str × Nat)) (hi : PEv X call it xi) (ok : blkC X.N X.env.scope scope own = true)
    (hg : ∀ (s : Shared) (H : Hp) (C : Addr) (cl : List (Str × Addr)) (fp : List Addr), PG (X.blk s H scope (compEnvC scope cl C X.env) fp) tg (tTg X.K tgx))
    (ht : ∀ (s : Shared) (H : Hp) (C : Addr) (cl : List (Str × Addr)) (fp : List Addr), PTs (X.blk s H scope (compEnvC scope cl C X.env) fp) ifs (tCs X.K call cs))
    (he : ∀ (s : Shared) (H : Hp) (C : Addr) (cl : List (Str × Addr)) (fp : List Addr), PE (X.blk s H scope (compEnvC scope cl C X.env) fp) elt (tEv X.K call xe))
    (hsw : swapsWith (.ListComp elt [⟨tg, it, ifs, 0⟩] scope pos) (some (.Name y p)) p'.line X.env = pure true)
    (hy : X.N[i]? = some y := by rfl) (hyl : X.env.scope.names.lookup y = some .local := by rfl) (hin : tgIn tgx (own.map (·.2)) = true := by rfl) (hs : ∀ x, foldedSetIterable it X.env x = pure x := by intro _; rfl) :
    PSv X call (.Assign [.Name y p] (.ListComp elt [⟨tg, it, ifs, 0⟩] scope pos) p') (.set (.nm i) (.comp (own.map (·.2)) tgx xi cs xe)) :=
  ps_weak (ps_setLc cz.calm cz.nd hy hyl hsw (piv hi) (blkOk_by ok) hg ht he hs) fun E σ H ⟨w, env, st, g, r, h⟩ => by
    rw [es_set, R.wp_bind, ev_comp, R.wp_bind] at h
    refine ⟨w, env, st, g, r, R.wp_mono h fun d s1 h1 => ?_⟩
    obtain ⟨ds, q, h1⟩ := obind_wp h1
    rw [R.wp_bind] at h1
    refine ⟨ds, q, fun J w1 H1 e1 g1 jok => comp_core (Q := fun x H1 => gName i x σ H1 E.nx) hin e1 g1 r jok (R.wp_mono h1 fun ys s2 h2 v w2 H2 e2 g2 d2 => ?_)⟩
    have h2 : ((opt (bindT (.nm i) (.lst ys) env) s2).bind fun env st => R.ok (Fl.next env) st).wp (Out X.K w H E) := h2
    obtain ⟨env', hb, h2⟩ := obind_wp h2
    unfold bindT at hb
    cases hb
    exact h2 _ w2 H2 e2 g2 ((r.le e2.toLe).set d2)
theorem psv_setRc {k : Nat} (cz : Cz X k) (i : Nat) {elt : Expr} {ifs : List Expr} {scope : Scope} {tgx : Tg} {cs : List Xp} {q1 q2 : Pos} (own : List (Str × Nat)) (hm : X.mg "range" = none) (hi : PEv X call n xi) (ok : blkC X.N X.env.scope scope own = true)
    (hg : ∀ (s : Shared) (H : Hp) (C : Addr) (cl : List (Str × Addr)) (fp : List Addr), PG (X.blk s H scope (compEnvC scope cl C X.env) fp) tg (tTg X.K tgx))
    (ht : ∀ (s : Shared) (H : Hp) (C : Addr) (cl : List (Str × Addr)) (fp : List Addr), PTs (X.blk s H scope (compEnvC scope cl C X.env) fp) ifs (tCs X.K call cs))
    (he : ∀ (s : Shared) (H : Hp) (C : Addr) (cl : List (Str × Addr)) (fp : List Addr), PE (X.blk s H scope (compEnvC scope cl C X.env) fp) elt (tEv X.K call xe))
    (hsw : swapsWith (.ListComp elt [⟨tg, .Call (.Name "range" q1) [n] [] q2, ifs, 0⟩] scope pos) (some (.Name y p)) p'.line X.env = pure true)
    (hy : X.N[i]? = some y := by rfl) (hyl : X.env.scope.names.lookup y = some .local := by rfl) (hgr : Gl X "range" := by rfl) (hst : isStar n = false := by rfl) (hin : tgIn tgx (own.map (·.2)) = true := by rfl) :
    PSv X call (.Assign [.Name y p] (.ListComp elt [⟨tg, .Call (.Name "range" q1) [n] [] q2, ifs, 0⟩] scope pos) p') (.set (.nm i) (.rcomp (own.map (·.2)) tgx xi cs xe)) :=
  ps_weak (ps_setLc cz.calm cz.nd hy hyl hsw (pirv hm hi hgr hst) (blkOk_by ok) hg ht he) fun E σ H ⟨w, env, st, g, r, h⟩ => by
    rw [es_set, R.wp_bind, ev_rcomp, R.wp_bind] at h
    refine ⟨w, env, st, g, r, R.wp_mono h fun d s1 h1 => ?_⟩
    obtain ⟨j, q, h1⟩ := obind_wp h1
    obtain ⟨hb, h1⟩ := must_wp h1
    rw [R.wp_bind] at h1
    refine ⟨j, q, hb, fun J w1 H1 e1 g1 jok => comp_core (Q := fun x H1 => gName i x σ H1 E.nx) hin e1 g1 r jok (R.wp_mono h1 fun ys s2 h2 v w2 H2 e2 g2 d2 => ?_)⟩
    have h2 : ((opt (bindT (.nm i) (.lst ys) env) s2).bind fun env st => R.ok (Fl.next env) st).wp (Out X.K w H E) := h2
    obtain ⟨env', hb, h2⟩ := obind_wp h2
    unfold bindT at hb
    cases hb
    exact h2 _ w2 H2 e2 g2 ((r.le e2.toLe).set d2)
theorem psv_put (hv : PEv X call e xe) (hns : PG X (.Subscript o i p) (gSub (tEv X.K call xo) (tEv X.K call xi) rSetL)) (hs : swapsWithSole [.Subscript o i p] e pos.line X.env = pure false := by rfl) (hw : swappedStores [.Subscript o i p] e X.env = pure none := by rfl)
    (h1 : (assignEach [.Subscript o i p] X.env).map (·.2) = [assign (.Subscript o i p) X.env] := by rfl) : PSv X call (.Assign [.Subscript o i p] e pos) (.put xo xi xe) :=
  ps_weak (ps_asg hv hns hs hw h1) fun E σ H ⟨w, env, st, g, r, h⟩ => by
    rw [es_put, R.wp_bind] at h
    refine tEv_mono _ g r h fun d s1 v w1 H1 h1 e1 g1 d1 => ?_
    rw [R.wp_bind] at h1
    refine tEv_mono _ g1 (r.le e1.toLe) h1 fun d2 s2 v2 w2 H2 h2 e2 g2 dv2 => ?_
    rw [R.wp_bind] at h2
    refine tEv_mono _ g2 ((r.le e1.toLe).le e2.toLe) h2 fun d3 s3 v3 w3 H3 h3 e3 g3 dv3 => ?_
    obtain ⟨st', hp, h3⟩ := obind_wp h3
    unfold putD at hp
    split at hp
    · rename_i k j
      split at hp
      · rename_i xs hx
        cases q : ixN xs.length j with
        | none => rw [q] at hp; cases hp
        | some n =>
          rw [q] at hp
          cases hp
          obtain ⟨a, vs, ha, nf, hH, rr⟩ := g3.lst _ _ hx
          have dv2 := dv2.le e3.toLe
          cases dv2 with
          | mrf ha' =>
            rw [ha] at ha'; cases ha'
            cases dv3
            refine ⟨_, vs, j, n, rfl, rfl, hH, by rw [rr.length]; exact q, ?_⟩
            have ed : Ext w3 H3 w3 (upd H3 _ (.lst (vs.set n v))) := Ext.put (List.mem_of_getElem? ha) nf
            have e13 := (e1.trans e2).trans e3
            exact h3 σ w3 _ (e13.trans ed) (g3.put ha nf (Dvs.set ((d1.le e2.toLe).le e3.toLe) n rr)) (r.le (e13.trans ed).toLe)
      · cases hp
    · cases hp
/-! ### for -/
theorem for_core {K : PySem.W.Frag} {w w1 : Wd} {H H1 : Hp} {σ : L2.St} {env : En} {st1 : Sto} {ds : List D} {E : Ends} {J : It}
    (e1 : Ext w H w1 H1) (g1 : Good K w1 H1 st1) (r : EnvR K w H σ env) (jok : JOk K w1 H1 J ds)
    (h : (forR t (fun env st => evSs call ss env st) env ds st1).wp (Out K w H E)) :
    ∃ W : Nat → Nat → L2.St → Hp → Prop, (∃ m, W 0 m σ H1) ∧ ∀ i m σ H, W i m σ H →
      (J.stop i H ∧ E.nx σ H) ∨ (J.go i H ∧ ∃ N : L2.St → Hp → Prop, (∀ σ' H', N σ' H' → ∃ m', m' < m ∧ W (i + 1) m' σ' H') ∧ ∀ x H', J.yld i H x H' → tTg K t x σ H' fun σ2 H2 => tSsv K call ss { E with nx := N, ct := N, bk := E.nx } σ2 H2) := by
  refine ⟨fun i m σ2 H2 => i ≤ ds.length ∧ m = ds.length - i ∧ ∃ w2 env2 st2, Ext w1 H1 w2 H2 ∧ Good K w2 H2 st2 ∧ EnvR K w2 H2 σ2 env2 ∧ (forR t (fun env st => evSs call ss env st) env2 (ds.drop i) st2).wp (Out K w H E),
    ⟨ds.length, Nat.zero_le _, by omega, w1, env, st1, Ext.refl w1 H1, g1, r.le e1.toLe, by rw [List.drop_zero]; exact h⟩, ?_⟩
  intro i m σ2 H2 ⟨hi, hm, w2, env2, st2, e2, g2, r2, hr⟩
  have jk := jok w2 H2 e2.toLe
  by_cases hend : i = ds.length
  · subst hend
    rw [List.drop_length] at hr
    unfold forR at hr
    exact .inl ⟨jk.2 _ (Nat.le_refl _), hr σ2 w2 H2 (e1.trans e2) g2 r2⟩
  · have hlt : i < ds.length := by omega
    obtain ⟨hgo, hy⟩ := jk.1 i _ (List.getElem?_eq_getElem hlt)
    refine .inr ⟨hgo, fun σ3 H3 => i + 1 ≤ ds.length ∧ ∃ w2 env2 st2, Ext w1 H1 w2 H3 ∧ Good K w2 H3 st2 ∧ EnvR K w2 H3 σ3 env2 ∧ (forR t (fun env st => evSs call ss env st) env2 (ds.drop (i + 1)) st2).wp (Out K w H E),
      fun σ' H' ⟨n1, n2⟩ => ⟨ds.length - (i + 1), by omega, n1, rfl, n2⟩, fun x H3 hyl => ?_⟩
    obtain ⟨e0, dx⟩ := hy x H3 hyl
    subst e0
    rw [List.drop_eq_getElem_cons hlt] at hr
    unfold forR at hr
    obtain ⟨env', hb, hr⟩ := obind_wp hr
    rw [R.wp_bind] at hr
    refine ⟨w2, st2, env2, _, env', g2, r2, dx, hb, fun σ3 r3 _ => ⟨w2, env', st2, g2, r3, R.wp_mono hr fun f s3 h3 => ?_⟩⟩
    cases f with
    | next env3 => exact fun σ4 w4 H4 e4 g4 r4 => ⟨hlt, w4, env3, s3, e2.trans e4, g4, r4, h3⟩
    | cont env3 => exact fun σ4 w4 H4 e4 g4 r4 => ⟨hlt, w4, env3, s3, e2.trans e4, g4, r4, h3⟩
    | brk env3 => exact fun σ4 w4 H4 e4 g4 r4 => h3 σ4 w4 H4 ((e1.trans e2).trans e4) g4 r4
    | ret d => exact fun v w4 H4 e4 g4 r4 => h3 v w4 H4 ((e1.trans e2).trans e4) g4 r4
theorem psv_for (hp : PassesOwn (model X.prog X.w) X.A X.env X.xe) (hc : X.calm = true) (hi : PEv X call it xi) (hg : PG X tg (tTg X.K t)) (hb : PSsv X call sts ss) (hs : ∀ x, foldedSetIterable it X.env x = pure x := by intro _; rfl) :
    PSv X call (.For tg it sts [] pos) (.for t xi ss) := ps_weak (ps_for hp hc (piv hi) hg hb hs) fun E σ H ⟨w, env, st, g, r, h⟩ => by
  rw [es_for, R.wp_bind] at h
  refine ⟨w, env, st, g, r, R.wp_mono h fun d s1 h1 => ?_⟩
  obtain ⟨ds, q, h1⟩ := obind_wp h1
  exact ⟨ds, q, fun J w1 H1 e1 g1 jok => for_core e1 g1 r jok h1⟩
theorem psv_range (hp : PassesOwn (model X.prog X.w) X.A X.env X.xe) (hc : X.calm = true) (hm : X.mg "range" = none) (hi : PEv X call n xi) (hg : PG X tg (tTg X.K t)) (hb : PSsv X call sts ss) (hgr : Gl X "range" := by rfl) (hst : isStar n = false := by rfl) :
    PSv X call (.For tg (.Call (.Name "range" p) [n] [] p') sts [] pos) (.range t xi ss) := ps_weak (ps_for hp hc (pirv hm hi hgr hst) hg hb) fun E σ H ⟨w, env, st, g, r, h⟩ => by
  rw [es_range, R.wp_bind] at h
  refine ⟨w, env, st, g, r, R.wp_mono h fun d s1 h1 => ?_⟩
  obtain ⟨j, q, h1⟩ := obind_wp h1
  obtain ⟨hb, h1⟩ := must_wp h1
  exact ⟨j, q, hb, fun J w1 H1 e1 g1 jok => for_core e1 g1 r jok h1⟩
end
end Pv
end
section
set_option Elab.async false
set_option autoImplicit false
set_option linter.all false
set_option maxRecDepth 100000
set_option maxHeartbeats 2000000
/-! Pv: defs, their calls. -/
namespace Pv
open PySem L2 PySem.Spec PyProof.Rows
/-- a def keeps its promise wherever no repr is under way -/
structure FnG (P : Program) (w : World) (K : PySem.W.Frag) (mg : Str → Option Value) (base : Heap) (k : Nat) (f : Addr) (fd : FuncData) (ps : List Str) (sp : Sp) : Prop where
  len : ∀ vs H Q E, sp vs H Q E → vs.length = ps.length
  run : ∀ (A : Around) (outer : List Env) (s : Shared) (H : Hp) (args : Args) (us : List Value) (vs : List V) (Q : VK) (E : XK), Room k A → A.guards = some [] → Env0 P w K mg base A outer s H → BindsTo s fd args (ps.zip us) → Vals vs us →
    sp vs H Q E → codeAny (model P w) A (.call (.ref f) args) (CR CX0 outer P w H s Q E) s
theorem FnG.mono {P : Program} {w : World} {K : PySem.W.Frag} {mg : Str → Option Value} {base : Heap} {j k : Nat} {f : Addr} {fd : FuncData} {ps : List Str} {sp : Sp} (F : FnG P w K mg base j f fd ps sp) (h : j ≤ k) : FnG P w K mg base k f fd ps sp :=
  ⟨F.len, fun A outer s H args us vs Q E hr => F.run A outer s H args us vs Q E (hr.mono h)⟩
/-- what a call of the evaluator's promises -/
def spv (K : PySem.W.Frag) (n : Nat) (cn : List D → Sto → R D) : Sp := fun vs H Q _ => vs.length = n ∧ ∃ w ds st, Good K w H st ∧ Dvs K w H vs ds ∧ (cn ds st).wp (Fin K w H Q)
theorem evXs_len {call : Nat → List D → Sto → R D} : ∀ {xs : List Xp} {env : En} {st st' : Sto} {ds : List D}, evXs call xs env st = .ok ds st' → ds.length = xs.length
  | [], env, st, st', ds, h => by
    rw [evs_nil] at h
    cases h
    rfl
  | x :: xs, env, st, st', ds, h => by
    rw [evs_cons] at h
    cases h1 : evX call x env st with
    | stuck => rw [h1] at h; cases h
    | ok d s1 =>
      rw [h1, R.bind_ok] at h
      cases h2 : evXs call xs env s1 with
      | stuck => rw [h2] at h; cases h
      | ok es s2 =>
        rw [h2, R.bind_ok] at h
        cases h
        rw [List.length_cons, List.length_cons, evXs_len h2]
section
variable {X : Cx} {k : Nat} {f : Addr} {fd : FuncData} {ps : List Str} {sp : Sp} {call : Nat → List D → Sto → R D} {pos p : Pos} {x : Str} {e : Expr} {es : List Expr} {t : TA} {xs : List Xp}
/-- f(e, ..), every parameter given -/
theorem pe_callG (F : FnG X.prog X.w X.K X.mg X.base k f fd ps sp) (cz : Cz X k) (hm : X.mg x = some (.ref f)) (hk : PySem.W.keepIn X.K (.ref f) = true) (hb : Binds X.K fd ps []) (ha : PA X (e :: es) t) (hg : Gl X x) (hs : isStar e = false)
    (hpl : (backTo pos (starEach es X.env)).any (·.1) = false) (hd : (x == ("__debug__" : Str)) = false) : PE X (.Call (.Name x p) (e :: es) [] pos) (fun σ H Q => t σ H fun vs H1 => sp vs H1 Q E0) := by
  constructor
  intro pins s σ H Q I h
  apply wpAny_Call_Name_kw
  apply ld_glob I hg hm (hd := hd)
  refine PySem.W.callWith_K (h₀ := X.base) I.ok.mod.kin hk (wpAny_mono (ha.run pos pins s σ H _ I h) (fun us s1 hq => ?_) fun _ _ z => z) (star_cons hs) hpl
  obtain ⟨vs, H1, I1, rv, q⟩ := hq
  refine ⟨I1.kIn, wpAny_call ?_⟩
  have hl : (us ++ []).length = ps.length := by rw [List.append_nil, ← rv.length]; exact F.len _ _ _ _ q
  have hbd := hb s1 us I1.kIn hl
  rw [List.append_nil] at hbd
  refine codeAny_mono (F.run X.A X.stack s1 H1 ⟨us, []⟩ us vs Q E0 cz.room cz.grd I1.env0 hbd rv q) fun r s' hr => ?_
  cases r with
  | error e => exact hr.elim
  | ok fl =>
    cases fl with
    | ret u => exact I1.after hr
    | next => exact hr.elim
    | brk => exact hr.elim
    | cont => exact hr.elim
theorem pev_call (fn : Nat) {n : Nat} (F : FnG X.prog X.w X.K X.mg X.base k f fd ps (spv X.K n (call fn))) (cz : Cz X k) (hm : X.mg x = some (.ref f)) (hk : PySem.W.keepIn X.K (.ref f) = true) (hb : Binds X.K fd ps []) (ha : PAv X call (e :: es) xs)
    (hlen : (e :: es).length = n := by rfl) (hg : Gl X x := by rfl) (hs : isStar e = false := by rfl) (hpl : (backTo pos (starEach es X.env)).any (·.1) = false := by rfl) (hd : (x == ("__debug__" : Str)) = false := by decide)
    (hxl : xs.length = n := by rfl) : PEv X call (.Call (.Name x p) (e :: es) [] pos) (.call fn xs) := pe_weak (pe_callG F cz hm hk hb ha hg hs hpl hd) fun σ H Q ⟨w, env, st, g, r, h⟩ => by
  rw [ev_call, R.wp_bind] at h
  have hl : (evXs call xs env st).wp fun ds _ => ds.length = xs.length := by
    cases q : evXs call xs env st with
    | stuck => rw [q] at h; exact h
    | ok ds s1 => exact evXs_len q
  refine ⟨w, env, st, g, r, ?_⟩
  cases q : evXs call xs env st with
  | stuck => rw [q] at h; exact h
  | ok ds s1 =>
    rw [q] at h hl
    intro vs w1 H1 e1 g1 d1
    exact ⟨by rw [d1.length, show ds.length = _ from hl, hxl], w1, ds, s1, g1, d1, R.wp_mono h fun d s2 h2 => Fin.ext e1 h2⟩
end
/-! ### a def's body -/
section
variable {P : Program} {w : World} {K : PySem.W.Frag} {mg : Str → Option Value} {base : Heap} {x qual : Str} {params : Arguments} {body : List Stmt} {scope : Scope} {dvs : List V} {kws : List (Str × V)} {f : Addr} {fd : FuncData} {k : Nat}
theorem fn_G {N ps : List Str} {sp : Sp} (F : FunD K x qual params body scope dvs kws f fd) (S : FnScope N ps scope) (len : ∀ vs H Q E, sp vs H Q E → vs.length = ps.length)
    (hb : ∀ (cdv : Value) (A : Around) (outer : List Env) (s : Shared) (H : Hp) (vs : List V) (Q : VK) (E : XK), Cz (cxOf CX0 P w K mg base N qual scope f cdv A outer s H E).nox k → sp vs H Q E →
      ∃ t, PSs (cxOf CX0 P w K mg base N qual scope f cdv A outer s H E).nox body t ∧ t { nx := fun _ H' => Q .non H', rt := Q } (start N vs) H) : FnG P w K mg base (k + 1) f fd ps sp := by
  obtain ⟨oc, od, dV, kV, doc, pm, an, cdv, ct, osl, rfl, lk, hcd, _, _⟩ := F.ex
  constructor
  · exact len
  intro A outer s H args us vs Q E hr hgd e0 hbind rv hsp
  have hl := len _ _ _ _ hsp
  have here : ∀ b o, base.get? b = some o → s.heap.get? b = some o := fun b o e => (e0.bs b o e).1
  have kin : K.In s.heap := e0.mod.kin.keeps here
  apply codeAny_call_function hr.depth (kin _ _ lk) rfl S.co S.gen rfl (PySem.W.codeRec_of kin hcd)
  apply hbind
  apply wpAny_newFunctionEnv_cells S.kind
  · intro y hy
    obtain ⟨n, v⟩ := y
    have hn := S.par n (List.of_mem_zip hy).1
    rcases hn with hn | hn
    · exact .inl hn
    · exact .inr ⟨hn, PySem.W.cellsFrom_some _ _ _ (.inl hn)⟩
  intro env he s1 hx
  subst he
  refine ⟨(e0.mod.nolimit.keeps here).keeps hx.toInCall.keep, ?_⟩
  apply codeAny_func
  have I0 := inv_start (CX := CX0) (E := E) S hr.hd e0 hl rv hx
  obtain ⟨t, ht, hq⟩ := hb cdv A outer s H vs Q E ⟨hr.deeper _, hgd, rfl, S.nd⟩ hsp
  refine wpAny_mono (ht.nox.run [] s1 (start N vs) H _ I0 hq) (fun fl s' hs => ?_) fun _ _ z => z
  cases fl with
  | ret u =>
    obtain ⟨v, σ', H', J, r1, q⟩ := hs
    exact ⟨v, H', J.os, J.bare, J.base, J.hok, r1, q⟩
  | next =>
    obtain ⟨σ', H', J, q⟩ := hs
    exact ⟨.non, H', J.os, J.bare, J.base, J.hok, rfl, q⟩
  | brk =>
    obtain ⟨_, _, _, q⟩ := hs
    cases q
  | cont =>
    obtain ⟨_, _, _, q⟩ := hs
    cases q
/-- a def of the evaluator's -/
theorem fn_v {N ps : List Str} {call : Nat → List D → Sto → R D} {bd : List S} (F : FunD K x qual params body scope dvs kws f fd) (SC : FnScope N ps scope)
    (hb : ∀ (cdv : Value) (A : Around) (outer : List Env) (s : Shared) (H : Hp) (E : XK), Cz (cxOf CX0 P w K mg base N qual scope f cdv A outer s H E).nox k → PSsv (cxOf CX0 P w K mg base N qual scope f cdv A outer s H E).nox call body bd) :
    FnG P w K mg base (k + 1) f fd ps (spv K ps.length fun ds st => if ds.length = ps.length then resOf (evSs call bd (startE N.length ds) st) else .stuck) := by
  refine fn_G F SC (fun vs H Q E h => h.1) fun cdv A outer s H vs Q E cz hsp => ⟨_, hb cdv A outer s H E cz, ?_⟩
  obtain ⟨hl, w1, ds, st, g, r, h⟩ := hsp
  have h : (if ds.length = ps.length then resOf (evSs call bd (startE N.length ds) st) else R.stuck).wp (Fin K w1 H Q) := h
  rw [if_pos (by rw [← r.length]; exact hl)] at h
  unfold resOf at h
  rw [R.wp_bind] at h
  refine ⟨w1, _, st, g, EnvR.start r N.length N rfl, R.wp_mono h fun fl s2 h2 => ?_⟩
  cases fl with
  | next env => exact fun σ' w2 H2 e2 g2 _ => h2 .non w2 H2 e2 g2 .non
  | ret d => exact fun v w2 H2 e2 g2 d2 => h2 v w2 H2 e2 g2 d2
  | brk env => exact h2.elim
  | cont env => exact h2.elim
theorem FnG.imp {ps : List Str} {sp sp' : Sp} (F : FnG P w K mg base k f fd ps sp) (h : ∀ vs H Q E, sp' vs H Q E → sp vs H Q E) : FnG P w K mg base k f fd ps sp' :=
  ⟨fun vs H Q E q => F.len vs H Q E (h vs H Q E q), fun A outer s H args us vs Q E hr hg he hb hv hs => F.run A outer s H args us vs Q E hr hg he hb hv (h vs H Q E hs)⟩
theorem FnG.none {ps : List Str} {sp : Sp} (h : ∀ vs H Q E, sp vs H Q E → False) : FnG P w K mg base k f fd ps sp := ⟨fun vs H Q E q => (h vs H Q E q).elim, fun A outer s H args us vs Q E _ _ _ _ _ q => (h vs H Q E q).elim⟩
end
end Pv
end
section
set_option Elab.async false
set_option autoImplicit false
set_option linter.all false
set_option maxRecDepth 100000
set_option maxHeartbeats 2000000
/-! Pv: the end of a law's row. -/
namespace Pv
open PySem L2 PySem.Spec PyProof.Rows
section
variable {P : Program} {w : World} {K : PySem.W.Frag} {mg mb : Str → Option Value} {k : Nat} {fa a : Addr} {fd : FuncData} {x : Str} {cn : List D → Sto → R D} {s1 : Shared} {vs : List Value} {ns : List Int}
/-- what is tracked at the law's entry: the script alone, or nothing -/
structure AtEntry (P : Program) (w : World) (K : PySem.W.Frag) (s1 : Shared) (a : Addr) (H : Hp) : Prop where
  ok : HOk P w H s1.heap
  one : ∀ b, H b ≠ none → b = a
  frz : ∀ b u, H b = some u → ∃ o xs, u = .frz o (.lst xs)
  off : H a ≠ none → K.lookup a = none
theorem run_entry (KX : K.In s1.heap) (hns : s1.heap.Ns mainGlobals mg) (hb : s1.heap.Ns builtinsNs mb) (hbb : ∀ x : Str, x ≠ "__name__" → mb x = bootBuiltins x) (hlim : s1.heap.NoLimit) (hg : s1.gens = #[])
    (ha : s1.heap.get? a = some { cls := .type "list", data := .seq vs.toArray }) (hr : Room k callerA) (F : ∀ base : Heap, K.In base → base.Ns mainGlobals mg → FnG P w K mg base k fa fd [x] (spv K 1 cn))
    (hbind : ∀ (s : Shared) (u : Value), BindsTo s fd ⟨[u], []⟩ [(x, u)]) {H : Hp} (E : AtEntry P w K s1 a H) (hsp : spv K 1 cn [.ref a] H (fun v _ => v = .bl true) E0) :
    codeAny (model P w) callerA (.call (.ref fa) ⟨[.ref a], []⟩) (fun r s' => r = .ok (.ret (.bool true)) ∧ OldK s1.heap s'.heap ∧ s'.os = s1.os ∧ AllBare s'.gens) s1 := by
  have stays : ∀ {b : Addr} {o : Obj}, s1.heap.get? b = some o → H b = none → (hidT s1.heap H).get? b = some o := fun e n => hidT_get e n
  have dicts : ∀ {b : Addr} {o : Obj} {es : Array DictEntry} {ep : Nat}, s1.heap.get? b = some o → o.data = .dict es ep → H b = none := by
    intro b o es ep e d
    cases q : H b with
    | none => rfl
    | some u =>
      have := E.one b (by rw [q]; intro z; cases z)
      subst this
      rw [ha] at e
      cases e
      cases d
  have spaces : ∀ {b : Addr} {m : Str → Option Value}, s1.heap.Ns b m → (hidT s1.heap H).Ns b m := by
    intro b m hm
    obtain ⟨o, es, ep, e, d, r⟩ := hm
    exact ⟨o, es, ep, stays e (dicts e d), d, r⟩
  have kin : K.In (hidT s1.heap H) := by
    intro b o e
    refine stays (KX b o e) ?_
    cases q : H b with
    | none => rfl
    | some u =>
      have hn : H b ≠ none := by rw [q]; intro z; cases z
      have e1 := E.one b hn
      subst e1
      rw [E.off hn] at e
      cases e
  obtain ⟨mc, c1, c2⟩ := hlim
  have hmod : Mod K mg (hidT s1.heap H) := ⟨kin, spaces hns, ⟨mb, spaces hb, hbb⟩, ⟨mc, spaces c1, c2⟩⟩
  have e0 : Env0 P w K mg (hidT s1.heap H) callerA [] s1 H := ⟨rfl, hmod, fun b o e => of_hidT e, Nat.le_of_eq (hidT_size _ _), trivial, fun b z => absurd (show b ∈ ([] : List Addr) from z) List.not_mem_nil, E.ok, .of_eq hg⟩
  refine codeAny_mono ((F _ kin (spaces hns)).run callerA [] s1 H ⟨[.ref a], []⟩ [.ref a] [.ref a] _ _ hr rfl e0 (hbind s1 (.ref a)) (.cons rfl .nil) hsp) fun r s' h => ?_
  cases r with
  | error e => exact h.elim
  | ok fl =>
    cases fl with
    | next => exact h.elim
    | brk => exact h.elim
    | cont => exact h.elim
    | ret u =>
      obtain ⟨v, H', os, bare, un, ok', rv, q⟩ := h
      have q : v = .bl true := q
      subst q
      have rv : u = Value.bool true := rv
      subst rv
      refine ⟨rfl, OldK.of_keep fun b o e => ?_, os, bare⟩
      cases q : H b with
      | none => exact un.keep b o e q (fun z => absurd (show b ∈ ([] : List Addr) from z) List.not_mem_nil) List.not_mem_nil
      | some u =>
        obtain ⟨ob, xs, rfl⟩ := E.frz b u q
        obtain ⟨e1, _⟩ := E.ok b _ q
        obtain ⟨e2, _⟩ := ok' b _ (un.frzs b ob _ q)
        rw [e] at e1
        cases e1
        exact e2
theorem dvs_ints {w : Wd} {H : Hp} : ∀ ns : List Int, Dvs K w H (ns.map V.int) (ns.map D.int)
  | [] => .nil
  | n :: ns => .cons (.int n) (dvs_ints ns)
theorem law_end (KX : K.In s1.heap) (hns : s1.heap.Ns mainGlobals mg) (hb : s1.heap.Ns builtinsNs mb) (hbb : ∀ x : Str, x ≠ "__name__" → mb x = bootBuiltins x) (hlim : s1.heap.NoLimit) (hg : s1.gens = #[])
    (ha : s1.heap.get? a = some { cls := .type "list", data := .seq vs.toArray }) (hi : IntsAre vs ns) (hl : ns.length ≤ sizeLine) (hr : Room k callerA) (F : ∀ base : Heap, K.In base → base.Ns mainGlobals mg → FnG P w K mg base k fa fd [x] (spv K 1 cn))
    (hbind : ∀ (s : Shared) (u : Value), BindsTo s fd ⟨[u], []⟩ [(x, u)]) (hcn : ∃ st, cn [.rol (ns.map D.int)] [] = .ok (.bl true) st) :
    codeAny (model P w) callerA (.call (.ref fa) ⟨[.ref a], []⟩) (fun r s' => r = .ok (.ret (.bool true)) ∧ OldK s1.heap s'.heap ∧ s'.os = s1.os ∧ AllBare s'.gens) s1 := by
  obtain ⟨st', hcn⟩ := hcn
  have rv := vals_ints hi
  have fin : ∀ {w0 : Wd} {H : Hp}, (cn [.rol (ns.map D.int)] []).wp (Fin K w0 H fun v _ => v = .bl true) := by
    intro w0 H
    rw [hcn]
    intro v w' H' e g d
    cases d
    rfl
  cases hk : K.lookup a with
  | some o =>
    have e := KX a o hk
    rw [ha] at e
    cases e
    have hK : KL K a (ns.map V.int) := .inr ⟨_, vs.toArray, _, hk, rfl, rfl, rfl, by rw [List.size_toArray, hi.length]; exact hl, by simpa using rv⟩
    refine run_entry KX hns hb hbb hlim hg ha hr F hbind (H := fun _ => none) ⟨fun b u z => (by cases z), fun b z => (z rfl).elim, fun b u z => (by cases z), fun z => (z rfl).elim⟩ ⟨rfl, ⟨[], fun _ => False⟩, _, [], ⟨rfl, List.nodup_nil, fun b m => (by cases m), fun b m => m.elim, fun k ds e => (by cases e)⟩, .cons (.krol hK (dvs_ints ns)) .nil, fin⟩
  | none =>
    have hrf : ∀ b u, (fun b => if b = a then some (HO.frz { cls := .type "list", data := .seq vs.toArray } (.lst (ns.map V.int))) else none) b = some u → b = a ∧ u = HO.frz { cls := .type "list", data := .seq vs.toArray } (.lst (ns.map V.int)) := by
      intro b u z
      by_cases hb : b = a
      · have z' := (if_pos hb).symm.trans z
        cases z'
        exact ⟨hb, rfl⟩
      · have z' := (if_neg hb).symm.trans z
        cases z'
    have hself : (fun b => if b = a then some (HO.frz { cls := .type "list", data := .seq vs.toArray } (.lst (ns.map V.int))) else none) a = some (HO.frz { cls := .type "list", data := .seq vs.toArray } (.lst (ns.map V.int))) := if_pos rfl
    refine run_entry KX hns hb hbb hlim hg ha hr F hbind (H := fun b => if b = a then some (.frz { cls := .type "list", data := .seq vs.toArray } (.lst (ns.map V.int))) else none) ⟨fun b u z => ?_, fun b z => ?_, fun b u z => ⟨_, _, (hrf b u z).2⟩, fun _ => hk⟩
      ⟨rfl, ⟨[], fun b => b = a⟩, _, [], ⟨rfl, List.nodup_nil, fun b m => (by cases m), fun b m => ?_, fun k ds e => (by cases e)⟩, .cons (.rol rfl hself (dvs_ints ns)) .nil, fin⟩
    · obtain ⟨rfl, rfl⟩ := hrf b u z
      exact ⟨ha, by rw [List.length_map]; exact hl, vs, _, rv, ha⟩
    · by_cases hb : b = a
      · exact hb
      · exact (z (if_neg hb)).elim
    · have m : b = a := m
      subst m
      rw [if_pos rfl]
      intro z
      cases z
end
/-- the walk of a law -/
theorem walk_G {l : PySem.W.OpenLaw} {n k : Nat} {q : Program} {loose : List Str} {XP : (Str → Option Value) → Heap → Prop} {YP : World → Heap → Prop} {d : DefRec} {x : Str}
    (hn : l.most = some n) (hn2 : n ≤ sizeLine) (hdf : d.params.defaults = []) (hr : Room k callerA)
    (F : ∀ (w : World) (mg : Str → Option Value) (fa : Addr) (h : Heap), YP w h → h.Ns mainGlobals mg → mg d.name = some (.ref fa) →
      ∃ (K : PySem.W.Frag) (fd : FuncData) (cn : List D → Sto → R D), K.In h ∧ (∀ (s : Shared) (u : Value), BindsTo s fd ⟨[u], []⟩ [(x, u)]) ∧
        (∀ ns : List Int, ns.length ≤ n → (∀ z ∈ ns, Builtin.Int.intBits z ≤ 1048576) → ∃ st, cn [.rol (ns.map D.int)] [] = .ok (.bl true) st) ∧
        ∀ base : Heap, K.In base → base.Ns mainGlobals mg → FnG l.prog w K mg base k fa fd [x] (spv K 1 cn)) :
    PySem.W.WalkO q loose XP YP l.row.toRowW d [] (fun f vs => PySem.call f vs) := by
  apply Att.attach_callB hn hdf
  intro w s₀ s₁ mg mb fa o pm cd doc a vs ns G Y ho hd hcd hmg hobj hints hlen hbits hg
  obtain ⟨K, fd, cn, kx, hb, hcn, hF⟩ := F w mg fa _ Y G.T.g hmg
  exact law_end kx G.T.g G.T.b G.T.builtins G.T.nolimit hg hobj hints (Nat.le_trans hlen hn2) hr hF hb (hcn ns hlen hbits)
end Pv
end
section
set_option Elab.async false
set_option autoImplicit false
set_option linter.all false
set_option maxRecDepth 100000
set_option maxHeartbeats 2000000
/-! Pv: a table of defs. -/
namespace Pv
open PySem L2 PySem.Spec PyProof.Rows
section
variable (P : Program) (w : World) (K : PySem.W.Frag) (mg : Str → Option Value) (base : Heap) (T : List Df)
/-- where a def stands, how it is bound, whatever it is worth -/
structure At (x : Str) (ps : List Str) (f : Addr) (fd : FuncData) : Prop where
  mg : mg x = some (.ref f)
  kp : PySem.W.keepIn K (.ref f) = true
  bind : Binds K fd ps []
  kw : ∀ (s : Shared) (ws : List Value), ws.length = ps.length → BindsTo s fd ⟨[], ps.zip ws⟩ (ps.zip ws)
/-- a def of the table at a level -/
def DefOk (n : Nat) (x : Str) (ps : List Str) (id : Nat) : Prop := ∃ f fd, At K mg x ps f fd ∧ FnG P w K mg base n f fd ps (spv K ps.length (evCall T n id))
end
section
variable {P : Program} {w : World} {K : PySem.W.Frag} {mg : Str → Option Value} {base : Heap} {T : List Df} {x qual : Str} {params : Arguments} {body : List Stmt} {scope : Scope} {f : Addr} {fd : FuncData} {N ps : List Str} {n id : Nat} {bd : List S}
theorem At.mk' (F : FunD K x qual params body scope [] [] f fd) (hm : mg x = some (.ref f))
    (h : ∀ (kV doc pm : Value) (an : Option Addr) (cdv ct : Value) (us : List Value), us.length = ps.length → bindArgs (PySem.W.fnOf x qual params body scope .none kV doc pm an cdv ct) ⟨us, []⟩ = pure (ps.zip us))
    (hk : ∀ (kV doc pm : Value) (an : Option Addr) (cdv ct : Value) (us : List Value), us.length = ps.length → bindArgs (PySem.W.fnOf x qual params body scope .none kV doc pm an cdv ct) ⟨[], ps.zip us⟩ = pure (ps.zip us)) : At K mg x ps f fd := by
  refine ⟨hm, F.kp, F.bindsN h, fun s ws hl => ?_⟩
  obtain ⟨oc, od, dV, kV, doc, pm, an, cdv, ct, osl, e, lk, hcd, hD, hK⟩ := F.ex
  subst e
  rcases hD with ⟨_, e⟩ | ⟨e, _⟩
  · subst e
    exact BindsTo.of_eq (hk kV doc pm an cdv ct ws hl)
  · exact (e rfl).elim
theorem DefOk.zero (A : At K mg x ps f fd) : DefOk P w K mg base T 0 x ps id := ⟨f, fd, A, FnG.none fun vs H Q E h => by
  obtain ⟨_, w1, ds, st, _, _, h⟩ := h
  unfold evCall at h
  exact h⟩
theorem FnG.succ (F : FunD K x qual params body scope [] [] f fd) (SC : FnScope N ps scope) (hd : T[id]? = some ⟨ps.length, N.length, bd⟩)
    (hb : ∀ (cdv : Value) (A : Around) (outer : List Env) (s : Shared) (H : Hp) (E : XK), Cz (cxOf CX0 P w K mg base N qual scope f cdv A outer s H E).nox n → PSsv (cxOf CX0 P w K mg base N qual scope f cdv A outer s H E).nox (evCall T n) body bd) :
    FnG P w K mg base (n + 1) f fd ps (spv K ps.length (evCall T (n + 1) id)) := (fn_v F SC hb).imp fun vs H Q E h => by
  obtain ⟨hl, w1, ds, st, g, r, h⟩ := h
  refine ⟨hl, w1, ds, st, g, r, ?_⟩
  unfold evCall at h
  rw [hd] at h
  exact h
theorem DefOk.succ (A : At K mg x ps f fd) (F : FunD K x qual params body scope [] [] f fd) (SC : FnScope N ps scope) (hd : T[id]? = some ⟨ps.length, N.length, bd⟩)
    (hb : ∀ (cdv : Value) (A : Around) (outer : List Env) (s : Shared) (H : Hp) (E : XK), Cz (cxOf CX0 P w K mg base N qual scope f cdv A outer s H E).nox n → PSsv (cxOf CX0 P w K mg base N qual scope f cdv A outer s H E).nox (evCall T n) body bd) :
    DefOk P w K mg base T (n + 1) x ps id := ⟨f, fd, A, (fn_v F SC hb).imp fun vs H Q E h => by
  obtain ⟨hl, w1, ds, st, g, r, h⟩ := h
  refine ⟨hl, w1, ds, st, g, r, ?_⟩
  unfold evCall at h
  rw [hd] at h
  exact h⟩
end
section
variable {X : Cx} {k id : Nat} {T : List Df} {ps : List Str} {pos p kp : Pos} {x : Str} {e : Expr} {es : List Expr} {xs : List Xp} {xe : Xp}
theorem pev_callD (h : DefOk X.prog X.w X.K X.mg X.base T k x ps id) (cz : Cz X k) (ha : PAv X (evCall T k) (e :: es) xs) (hlen : (e :: es).length = ps.length := by rfl) (hg : Gl X x := by rfl) (hs : isStar e = false := by rfl)
    (hpl : (backTo pos (starEach es X.env)).any (·.1) = false := by rfl) (hd : (x == ("__debug__" : Str)) = false := by decide) (hxl : xs.length = ps.length := by rfl) : PEv X (evCall T k) (.Call (.Name x p) (e :: es) [] pos) (.call id xs) := by
  obtain ⟨f, fd, A, F⟩ := h
  exact pev_call id F cz A.mg A.kp A.bind ha hlen hg hs hpl hd hxl
/-- keywords' values -/
def PKv (X : Cx) (call : Nat → List D → Sto → R D) (kws : List Keyword) (xs : List Xp) : Prop := PK X kws (tEvs X.K call xs)
theorem pk_weak {kws : List Keyword} {t t' : TA} (h : PK X kws t) (k : ∀ σ H Q, t' σ H Q → t σ H Q) : PK X kws t' := ⟨fun pos pins s σ H Q I q => h.run pos pins s σ H Q I (k σ H Q q)⟩
theorem pkv_nil {call : Nat → List D → Sto → R D} : PKv X call [] [] := pk_weak pk_nil fun σ H Q ⟨w, env, st, g, r, h⟩ => by
  rw [evs_nil] at h
  exact h [] w H (Ext.refl w H) g .nil
theorem pkv_cons {call : Nat → List D → Sto → R D} {kws : List Keyword} {nm : Option Str} (ha : PEv X call e xe) (hr : PKv X call kws xs) : PKv X call (⟨nm, e, kp⟩ :: kws) (xe :: xs) :=
  pk_weak (pk_cons ha hr) fun σ H Q ⟨w, env, st, g, r, h⟩ => by
    rw [evs_cons, R.wp_bind] at h
    refine tEv_mono _ g r h fun d s1 v w1 H1 h1 e1 g1 d1 => ?_
    rw [R.wp_bind] at h1
    refine ⟨w1, env, s1, g1, r.le e1.toLe, R.wp_mono h1 fun ds s2 h2 vs w2 H2 e2 g2 d2 => ?_⟩
    exact h2 (v :: vs) w2 H2 (e1.trans e2) g2 (.cons (d1.le e2.toLe) d2)
/-- f(x = e, ..), all parameters in their order -/
theorem pev_callK {kws : List Keyword} (h : DefOk X.prog X.w X.K X.mg X.base T k x ps id) (cz : Cz X k) (ha : PKv X (evCall T k) kws xs) (hg : Gl X x := by rfl)
    (hall : (backToKw pos (keywordEach kws X.env)).all (·.1.isSome) = true := by rfl) (hks : (backToKw pos (keywordEach kws X.env)).filterMap (·.1) = ps := by rfl) (hd : (x == ("__debug__" : Str)) = false := by decide)
    (hpl : ((backTo pos (starEach [] X.env)).any (·.1) || (backToKw pos (keywordEach kws X.env)).any (·.1.isNone)) = false := by rfl) (hxl : xs.length = ps.length := by rfl) : PEv X (evCall T k) (.Call (.Name x p) [] kws pos) (.call id xs) := by
  obtain ⟨f, fd, A, F⟩ := h
  constructor
  intro pins s σ H Q I hh
  obtain ⟨w, env, st, g, r, hh⟩ := hh
  apply wpAny_Call_Name_kw
  apply ld_glob I hg A.mg (hd := hd)
  refine PySem.W.callWith_KW0 (h₀ := X.base) I.ok.mod.kin A.kp hall ?_ hpl
  rw [ev_call] at hh
  have hk : tEvs X.K (evCall T k) xs σ H fun vs H1 => vs.length = ps.length ∧ spv X.K ps.length (evCall T k id) vs H1 Q E0 := by
    refine ⟨w, env, st, g, r, ?_⟩
    cases q : evXs (evCall T k) xs env st with
    | stuck => rw [q] at hh; exact hh
    | ok ds s1 =>
      rw [q] at hh
      have hl := evXs_len q
      intro vs w1 H1 e1 g1 d1
      have hv : vs.length = ps.length := by rw [d1.length, hl, hxl]
      exact ⟨hv, hv, w1, ds, s1, g1, d1, R.wp_mono hh fun d s2 h2 => Fin.ext e1 h2⟩
  refine wpAny_mono (ha.run pos pins s σ H _ I hk) (fun us s1 hq => ?_) fun _ _ z => z
  obtain ⟨vs, H1, I1, rv, hv, q⟩ := hq
  refine ⟨I1.kIn, wpAny_call ?_⟩
  rw [hks, List.append_nil]
  refine codeAny_mono (F.run X.A X.stack s1 H1 ⟨[], ps.zip us⟩ us vs Q E0 cz.room cz.grd I1.env0 (A.kw s1 us (by rw [← rv.length, hv])) rv q) fun r s' hr => ?_
  cases r with
  | error e => exact hr.elim
  | ok fl =>
    cases fl with
    | ret u => exact I1.after hr
    | next => exact hr.elim
    | brk => exact hr.elim
    | cont => exact hr.elim
end
end Pv
namespace Pv
open PySem
theorem bt_len : bootBuiltins "len" = some (.builtin "len") := by decide +kernel
theorem bt_abs : bootBuiltins "abs" = some (.builtin "abs") := by decide +kernel
theorem bt_all : bootBuiltins "all" = some (.builtin "all") := by decide +kernel
theorem bt_any : bootBuiltins "any" = some (.builtin "any") := by decide +kernel
theorem bt_sum : bootBuiltins "sum" = some (.builtin "sum") := by decide +kernel
theorem bt_max : bootBuiltins "max" = some (.builtin "max") := by decide +kernel
theorem bt_repr : bootBuiltins "repr" = some (.builtin "repr") := by decide +kernel
theorem bt_int : bootBuiltins "int" = some (.type "int") := by decide +kernel
theorem bt_bool : bootBuiltins "bool" = some (.type "bool") := by decide +kernel
theorem bt_str : bootBuiltins "str" = some (.type "str") := by decide +kernel
theorem bt_list : bootBuiltins "list" = some (.type "list") := by decide +kernel
theorem bt_tuple : bootBuiltins "tuple" = some (.type "tuple") := by decide +kernel
theorem bt_dict : bootBuiltins "dict" = some (.type "dict") := by decide +kernel
section
variable {X : L2.Cx} {k : Nat}
theorem Cz.eq (c : Cz X k) : L2.OpR X (compareOp .Eq) (rOf X.K (fCmp .eq)) := o_eq (by have := c.u; omega)
theorem Cz.ne (c : Cz X k) : L2.OpR X (compareOp .NotEq) (rOf X.K (fCmp .ne)) := o_ne (by have := c.u; omega)
theorem Cz.isin (c : Cz X k) : L2.OpR X (compareOp .In) (rOf X.K (fCmp .isin)) := o_in (by have := c.u; omega)
theorem Cz.nin (c : Cz X k) : L2.OpR X (compareOp .NotIn) (rOf X.K (fCmp .nin)) := o_nin (by have := c.u; omega)
end
end Pv
end
section
set_option Elab.async false
set_option autoImplicit false
set_option linter.all false
set_option maxRecDepth 100000
set_option maxHeartbeats 1000000
/-! Pv: lemmas to reckon with. -/
namespace Pv
open PySem L2
theorem ev_var (call : Nat → List D → Sto → R D) (i : Nat) (env : En) (st : Sto) : evX call (.var i) env st = opt ((env[i]?).bind id) st := by
  rw [evX]
  cases env[i]? with
  | none => rfl
  | some o => cases o <;> rfl
theorem compR_nil (tg : Tg) (env : En) (tests : En → Sto → R Bool) (elt : En → Sto → R D) (acc : List D) (st : Sto) : compR tg env tests elt acc [] st = .ok acc st := by unfold compR; rfl
theorem compR_cons (tg : Tg) (env : En) (tests : En → Sto → R Bool) (elt : En → Sto → R D) (acc : List D) (d : D) (ds : List D) (st : Sto) : compR tg env tests elt acc (d :: ds) st =
    (opt (bindT tg d env) st).bind fun env' st => (tests env' st).bind fun c st => if c then (elt env' st).bind fun y st => must (acc.length < sizeLine) (compR tg env tests elt (acc ++ [y]) ds st) else compR tg env tests elt acc ds st := by
  rw [compR]
theorem forR_nil (tg : Tg) (body : En → Sto → R Fl) (env : En) (st : Sto) : forR tg body env [] st = .ok (.next env) st := by unfold forR; rfl
/-- what a turn does -/
def turnF (tg : Tg) (body : En → Sto → R Fl) (ds : List D) (f : Fl) (st : Sto) : R Fl := match f with
  | .next env => forR tg body env ds st
  | .cont env => forR tg body env ds st
  | .brk env => .ok (.next env) st
  | .ret d => .ok (.ret d) st
theorem forR_cons (tg : Tg) (body : En → Sto → R Fl) (env : En) (d : D) (ds : List D) (st : Sto) : forR tg body env (d :: ds) st = (opt (bindT tg d env) st).bind fun env st => (body env st).bind fun f st => turnF tg body ds f st := by
  rw [forR]
  rfl
/-- a comprehension that changes nothing -/
theorem compR_pure {tg : Tg} {env : En} {tests : En → Sto → R Bool} {elt : En → Sto → R D} (p : D → Bool) (g : D → D) (st : Sto) : ∀ (ds acc : List D), (∀ d ∈ ds, ∃ env', bindT tg d env = some env' ∧ tests env' st = .ok (p d) st ∧ (p d = true → elt env' st = .ok (g d) st)) →
    acc.length + ds.length ≤ sizeLine → compR tg env tests elt acc ds st = .ok (acc ++ (ds.filter p).map g) st
  | [], acc, _, _ => by rw [compR_nil]; simp
  | d :: ds, acc, h, hl => by
    obtain ⟨env', h1, h2, h3⟩ := h d (List.mem_cons_self ..)
    rw [compR_cons, h1, opt_some, R.bind_ok, h2, R.bind_ok]
    rw [List.length_cons] at hl
    cases hp : p d with
    | true =>
      rw [if_pos rfl, h3 hp, R.bind_ok, must_pos (by omega), compR_pure p g st ds (acc ++ [g d]) (fun e he => h e (List.mem_cons_of_mem _ he)) (by rw [List.length_append, List.length_singleton]; omega)]
      rw [List.filter_cons_of_pos hp, List.map_cons, List.append_assoc]; rfl
    | false =>
      rw [if_neg Bool.false_ne_true, compR_pure p g st ds acc (fun e he => h e (List.mem_cons_of_mem _ he)) (by omega), List.filter_cons_of_neg (by rw [hp]; exact Bool.false_ne_true)]
theorem compR_map {tg : Tg} {env : En} {elt : En → Sto → R D} (g : D → D) (st : Sto) (ds : List D) (h : ∀ d ∈ ds, ∃ env', bindT tg d env = some env' ∧ elt env' st = .ok (g d) st) (hl : ds.length ≤ sizeLine) :
    compR tg env (fun env st => .ok true st) elt [] ds st = .ok (ds.map g) st := by
  rw [compR_pure (fun _ => true) g st ds [] (fun d hd => let ⟨e, h1, h2⟩ := h d hd; ⟨e, h1, rfl, fun _ => h2⟩) (by simpa using hl), List.nil_append, List.filter_eq_self.mpr fun _ _ => rfl]
section
variable (st : Sto) (xs ys : List D) (i j : Int) (x y : Str) (b : Bool) (a d : D)
theorem bin_add_int : bin st .add (.int i) (.int j) = .ok (.int (i + j)) st := rfl
theorem bin_add_str : bin st .add (.str x) (.str y) = must (x.length + y.length ≤ sizeLine) (.ok (.str (x ++ y)) st) := rfl
theorem bin_add_tup : bin st .add (.tup xs) (.tup ys) = must (xs.length + ys.length ≤ sizeLine) (.ok (.tup (xs ++ ys)) st) := rfl
theorem bin_add_lst : bin st .add (.lst xs) (.lst ys) = must (xs.length + ys.length ≤ sizeLine) (.ok (.lst (xs ++ ys)) st) := rfl
theorem bin_sub_int : bin st .sub (.int i) (.int j) = .ok (.int (i - j)) st := rfl
theorem bin_mul_int : bin st .mul (.int i) (.int j) = must ((-(2 ^ 64) < i ∧ i < 2 ^ 64) ∨ (-(2 ^ 64) < j ∧ j < 2 ^ 64)) (.ok (.int (i * j)) st) := rfl
theorem bin_mul_lst : bin st .mul (.lst xs) (.int j) = must (-(2 ^ 63) ≤ j ∧ j < 2 ^ 63 ∧ xs.length * j.toNat ≤ sizeLine) (.ok (.lst (List.replicate j.toNat xs).flatten) st) := rfl
theorem bin_fdiv_int : bin st .fdiv (.int i) (.int j) = must (0 < j ∧ j < 1073741824) (.ok (.int (i / j)) st) := rfl
theorem bin_mod_int : bin st .mod (.int i) (.int j) = must (0 < j) (.ok (.int (i % j)) st) := rfl
theorem bin_pow_int : bin st .pow (.int i) (.int j) = must (0 ≤ j ∧ j ≤ 1000000 ∧ i.natAbs < 2 ^ 64) (.ok (.int (i ^ j.toNat)) st) := rfl
theorem fn_len_str : ofB st .len (.str x) = must (x.length ≤ sizeLine) (.ok (.int x.length) st) := rfl
theorem fn_len_tup : ofB st .len (.tup xs) = .ok (.int xs.length) st := rfl
theorem fn_len_lst : ofB st .len (.lst xs) = .ok (.int xs.length) st := rfl
theorem fn_int_int : ofB st .int (.int i) = .ok (.int i) st := rfl
theorem fn_int_bl : ofB st .int (.bl b) = .ok (.int (if b then 1 else 0)) st := rfl
theorem fn_abs_int : ofB st .abs (.int i) = .ok (.int (if i < 0 then -i else i)) st := rfl
theorem fn_all_lst : ofB st .all (.lst xs) = (opt (bools? xs) st).bind fun bs st => .ok (.bl (bs.all id)) st := rfl
theorem fn_any_lst : ofB st .any (.lst xs) = (opt (bools? xs) st).bind fun bs st => .ok (.bl (bs.any id)) st := rfl
theorem fn_sum_lst : ofB st .sum (.lst xs) = (opt (ints? xs) st).bind fun bs st => .ok (.int bs.sum) st := rfl
theorem fn_max_lst : ofB st .max (.lst xs) = (opt ((ints? xs).bind maxL) st).bind fun i st => .ok (.int i) st := rfl
theorem fn_list_lst : ofB st .list (.lst xs) = .ok (.lst xs) st := rfl
theorem fn_list_tup : ofB st .list (.tup xs) = .ok (.lst xs) st := rfl
theorem fn_tuple_lst : ofB st .tuple (.lst xs) = .ok (.tup xs) st := rfl
theorem fn_tuple_tup : ofB st .tuple (.tup xs) = .ok (.tup xs) st := rfl
theorem cm_lt : cmpD st .lt (.int i) (.int j) = some (decide (i < j)) := rfl
theorem cm_le : cmpD st .le (.int i) (.int j) = some (decide (i ≤ j)) := rfl
theorem cm_gt : cmpD st .gt (.int i) (.int j) = some (decide (j < i)) := rfl
theorem cm_ge : cmpD st .ge (.int i) (.int j) = some (decide (j ≤ i)) := rfl
theorem cm_eq : cmpD st .eq a d = eqS st a d := rfl
theorem cm_ne : cmpD st .ne a d = (eqD a d).map (!·) := rfl
theorem cm_is : cmpD st .is a d = isD a d := rfl
theorem cm_nis : cmpD st .nis a d = (isD a d).map (!·) := rfl
theorem cm_in : cmpD st .isin a d = inD st a d := rfl
theorem cm_nin : cmpD st .nin a d = (inD st a d).map (!·) := rfl
theorem eqD_int : eqD (.int i) (.int j) = some (decide (i = j)) := rfl
theorem eqS_int : eqS st (.int i) (.int j) = some (decide (i = j)) := rfl
theorem ix_tup : ixD st (.tup xs) (.int i) = atI xs i := rfl
theorem ix_lst : ixD st (.lst xs) (.int i) = atI xs i := rfl
theorem ix_mrf {k : Nat} {zs : List D} (h : st[k]? = some (.lst zs)) : ixD st (.mrf k) (.int i) = atI zs i := by
  show (asSeq st (.mrf k)).bind (fun xs => atI xs i) = atI zs i
  show (match st[k]? with | some (MO.lst xs) => some xs | _ => none).bind (fun xs => atI xs i) = atI zs i
  rw [h]
  rfl
theorem put_mrf {k : Nat} {zs : List D} (h : st[k]? = some (.lst zs)) : putD st (.mrf k) (.int i) d = (ixN zs.length i).map fun n => st.set k (.lst (zs.set n d)) := by
  show (match st[k]? with | some (MO.lst xs) => (ixN xs.length i).map fun n => st.set k (.lst (xs.set n d)) | _ => none) = _
  rw [h]
theorem sl_tup' (lo hi : Option Int) : slD st (.tup xs) lo hi = some (.tup (cutD xs lo hi)) := rfl
theorem sl_lst' (lo hi : Option Int) : slD st (.lst xs) lo hi = some (.lst (cutD xs lo hi)) := rfl
theorem sl_rol' (lo hi : Option Int) : slD st (.rol xs) lo hi = some (.lst (cutD xs lo hi)) := rfl
theorem tr_bl : truth st (.bl b) = some b := rfl
theorem tr_int : truth st (.int i) = some (i != 0) := rfl
theorem tr_non : truth st .non = some false := rfl
theorem asI_int : asI (.int i) = some i := rfl
theorem lv_tup : live st (.tup xs) = true := rfl
theorem lv_lst : live st (.lst xs) = true := rfl
theorem lv_str : live st (.str x) = true := rfl
theorem lv_int : live st (.int i) = true := rfl
theorem lv_bl : live st (.bl b) = true := rfl
theorem lv_non : live st .non = true := rfl
theorem lv_dct (kv : List (D × D)) : live st (.dct kv) = true := rfl
end
theorem atI_nat' {α : Type} (xs : List α) (n : Nat) : atI xs (n : Int) = xs[n]? := by
  unfold atI ixN
  rw [if_pos (by omega)]
  by_cases h : n < xs.length
  · rw [if_pos (by omega)]
    rfl
  · rw [if_neg (by omega), List.getElem?_eq_none (by omega)]
    rfl
theorem atI_0 {α : Type} (xs : List α) : atI xs 0 = xs[0]? := atI_nat' xs 0
theorem atI_1 {α : Type} (xs : List α) : atI xs 1 = xs[1]? := atI_nat' xs 1
theorem atI_2 {α : Type} (xs : List α) : atI xs 2 = xs[2]? := atI_nat' xs 2
section
variable (call : Nat → List D → Sto → R D) (ss : List S) (env : En) (st : Sto) (d : D)
theorem go_next : goOn call ss (.next env) st = evSs call ss env st := rfl
theorem go_ret : goOn call ss (.ret d) st = .ok (.ret d) st := rfl
theorem go_brk : goOn call ss (.brk env) st = .ok (.brk env) st := rfl
theorem go_cont : goOn call ss (.cont env) st = .ok (.cont env) st := rfl
theorem res_next : resOf (.ok (.next env) st) = .ok .non st := rfl
theorem res_ret : resOf (.ok (.ret d) st) = .ok d st := rfl
variable (tg : Tg) (body : En → Sto → R Fl) (ds : List D)
theorem turn_next : turnF tg body ds (.next env) st = forR tg body env ds st := rfl
theorem turn_cont : turnF tg body ds (.cont env) st = forR tg body env ds st := rfl
theorem turn_brk : turnF tg body ds (.brk env) st = .ok (.next env) st := rfl
theorem turn_ret : turnF tg body ds (.ret d) st = .ok (.ret d) st := rfl
end
/-! ### == -/
theorem toPs_ints : ∀ c : List Int, toPs (c.map D.int) = some (c.map PyData.int)
  | [] => rfl
  | i :: c => by
    show (match toP (.int i), toPs (c.map D.int) with | some p, some ps => some (p :: ps) | _, _ => none) = _
    rw [toPs_ints c]
    rfl
theorem shaped_ints (c : List Int) : SeqAt.shaped (.list (c.map PyData.int)) = true := by
  have h1 : ∀ c : List Int, PyData.canLayAll0 (c.map PyData.int) = true := by
    intro c
    induction c with
    | nil => rfl
    | cons i c ih => simp only [List.map_cons, PyData.canLayAll0, PyData.canLay0, ih, Bool.and_self]
  have h2 : ∀ c : List Int, PyData.depthAll (c.map PyData.int) = 0 := by
    intro c
    induction c with
    | nil => rfl
    | cons i c ih => simp only [List.map_cons, PyData.depthAll, PyData.depth, ih, Nat.max_self]
  unfold SeqAt.shaped
  simp only [PyData.canLay0, PyData.depth, h1, h2]
  decide
theorem eqD_ints (c : List Int) : eqD (.lst (c.map D.int)) (.lst []) = some c.isEmpty := by
  unfold eqD
  have e : toP (.lst (c.map D.int)) = some (.list (c.map PyData.int)) := by
    show (toPs (c.map D.int)).map PyData.list = _
    rw [toPs_ints]
    rfl
  rw [e]
  show (if SeqAt.shaped (.list (c.map PyData.int)) = true ∧ SeqAt.shaped (.list []) = true then _ else _) = _
  rw [if_pos ⟨shaped_ints c, by decide⟩]
  cases c <;> rfl
theorem eqD_nil : eqD (.lst []) (.lst []) = some true := eqD_ints []
theorem eqD_intc (i : Int) (c : List Int) : eqD (.lst (.int i :: c.map D.int)) (.lst []) = some false := eqD_ints (i :: c)
theorem shaped_str {x : Str} (h : PyData.strOk x = true) : SeqAt.shaped (.str x) = true := by
  unfold SeqAt.shaped
  simp only [PyData.canLay0, PyData.depth, h]
  rfl
theorem eqD_str {x y : Str} (h : PyData.strOk x = true) (k : PyData.strOk y = true) : eqD (.str x) (.str y) = some (x == y) := by
  show (if SeqAt.shaped (.str x) = true ∧ SeqAt.shaped (.str y) = true then some (PyData.eqv (.str x) (.str y)) else none) = _
  rw [if_pos ⟨shaped_str h, shaped_str k⟩]
  rfl
theorem eqS_of {st : Sto} {a b : D} {r : Bool} (h : eqD a b = some r) : eqS st a b = some r := by
  unfold eqS
  rw [h]
theorem comp_map {call : Nat → List D → Sto → R D} {own : List Nat} {tg : Tg} {it e : Xp} {env : En} {st : Sto} {x : D} {ds : List D} (g : D → D) (hit : evX call it env st = .ok x st) (hi : itemsOf st x = some ds)
    (h : ∀ d ∈ ds, ∃ env', bindT tg d (wipeE env own) = some env' ∧ evX call e env' st = .ok (g d) st) (hl : ds.length ≤ sizeLine) : evX call (.comp own tg it [] e) env st = .ok (.lst (ds.map g)) st := by
  rw [ev_comp, hit, R.bind_ok, hi, opt_some, R.bind_ok]
  have e1 : (fun env st => evC call [] env st) = fun (env : En) (st : Sto) => (R.ok true st : R Bool) := by
    funext env st
    exact evc_nil call env st
  rw [e1, compR_map g st ds h hl]
  rfl
theorem comp_filter {call : Nat → List D → Sto → R D} {own : List Nat} {tg : Tg} {it e c : Xp} {env : En} {st : Sto} {x : D} {ds : List D} (p : D → Bool) (g : D → D) (hit : evX call it env st = .ok x st) (hi : itemsOf st x = some ds)
    (h : ∀ d ∈ ds, ∃ env', bindT tg d (wipeE env own) = some env' ∧ evX call c env' st = .ok (.bl (p d)) st ∧ (p d = true → evX call e env' st = .ok (g d) st)) (hl : ds.length ≤ sizeLine) : evX call (.comp own tg it [c] e) env st = .ok (.lst ((ds.filter p).map g)) st := by
  rw [ev_comp, hit, R.bind_ok, hi, opt_some, R.bind_ok]
  rw [compR_pure p g st ds [] (fun d hd => ?_) (by simpa using hl)]
  · rfl
  · obtain ⟨env', h1, h2, h3⟩ := h d hd
    refine ⟨env', h1, ?_, h3⟩
    show evC call [c] env' st = _
    rw [evc_cons, h2, R.bind_ok]
    cases p d with
    | true => exact evc_nil call env' st
    | false => rfl
theorem it_str (x : Str) (st : Sto) : itemsOf st (.str x) = some (x.cps.toList.map fun c => .str ⟨#[c]⟩) := rfl
theorem it_lst (xs : List D) (st : Sto) : itemsOf st (.lst xs) = some xs := rfl
theorem it_tup (xs : List D) (st : Sto) : itemsOf st (.tup xs) = some xs := rfl
theorem eqS_nil (st : Sto) (xs : List D) : eqS st (.lst xs) (.lst []) = some xs.isEmpty := by
  unfold eqS
  cases h : eqD (.lst xs) (.lst []) with
  | some r =>
    obtain ⟨p, q, h1, h2, _, _, rfl⟩ := eqd_some h
    have h2 : some (PyData.list []) = some q := h2
    cases h2
    have h1 : (toPs xs).map PyData.list = some p := h1
    cases hx : toPs xs with
    | none => rw [hx] at h1; cases h1
    | some ps =>
      rw [hx] at h1
      cases h1
      cases xs with
      | nil => cases hx; rfl
      | cons a xs =>
        unfold toPs at hx
        split at hx
        · cases hx; rfl
        · cases hx
  | none =>
    show (if xs.length ≠ ([] : List D).length then some false else if xs.isEmpty then some true else none) = _
    cases xs <;> rfl
theorem mustT {α : Type} {p : Prop} [Decidable p] {r : R α} (h : p) : must p r = r := if_pos h
end Pv
end
section
set_option Elab.async false
set_option autoImplicit false
set_option linter.all false
set_option maxRecDepth 100000
set_option maxHeartbeats 1000000
/-! Pv: what draws. -/
namespace Pv
open PySem L2
local macro_rules | `(tactic| walk_at "pv") => `(tactic| simp [ess_cons, ess_nil, es_set, es_par, es_if, es_ret, es_retN, es_for, es_range, es_exp, es_put, ev_var, ev_lit, ev_bin, ev_cmp, ev_chain, ev_and, ev_or, ev_not, ev_neg, ev_ife, ev_tup, ev_lst, ev_mlst, ev_dnew, ev_ix, ev_sl, ev_call, ev_fn, ev_isi, evs_nil, evs_cons, evc_nil, evc_cons, evo_none, evo_some, go_next, go_ret, go_brk, go_cont, res_next, res_ret, turn_next, turn_cont, turn_brk, turn_ret, eqD_nil, eqD_intc, startE, bindT, bindTs,
  bin_add_int, bin_add_str, bin_add_tup, bin_add_lst, bin_sub_int, bin_mul_int, bin_mul_lst, bin_fdiv_int, bin_mod_int, bin_pow_int, fn_len_str, fn_len_tup, fn_len_lst, fn_int_int, fn_int_bl, fn_abs_int, fn_all_lst, fn_any_lst, fn_sum_lst, fn_max_lst, fn_list_lst, fn_list_tup, fn_tuple_lst, fn_tuple_tup,
  cm_lt, cm_le, cm_gt, cm_ge, cm_eq, cm_ne, cm_is, cm_nis, cm_in, cm_nin, eqD_int, eqS_int, Pv.ix_tup, Pv.ix_lst, ix_mrf, put_mrf, sl_tup', sl_lst', sl_rol', tr_bl, tr_int, tr_non, asI_int, lv_tup, lv_lst, lv_str, lv_int, lv_bl, lv_non, lv_dct, it_str, it_lst, it_tup, eqS_nil, isiOne, isiK, kdOf, wipeE, atI_0, atI_1, atI_2, ixN, must, *])
def b_draw : List S := [.if (.cmp .gt (.ix (.var 0) (.lit (.int 2))) (.lit (.int 0))) [.set (.nm 2) (.fn .int (.ix (.var 0) (.lit (.int 2)))), .put (.var 0) (.lit (.int 2)) (.bin .fdiv (.var 2) (.var 1)), .ret (.bin .mod (.fn .int (.var 2)) (.var 1))] [], .set (.nm 3) (.ix (.var 0) (.lit (.int 1))), .put (.var 0) (.lit (.int 1)) (.bin .add (.var 3) (.lit (.int 1))), .set (.nm 4) (.bin .add (.bin .mul (.lit (.int 60527)) (.var 3)) (.lit (.int 2903))), .if (.cmp .ne (.ix (.var 0) (.lit (.int 0))) (.lst [])) [.set (.nm 4) (.ix (.ix (.var 0) (.lit (.int 0))) (.bin .mod (.fn .int (.var 3)) (.fn .len (.ix (.var 0) (.lit (.int 0))))))] [], .if (.and (.cmp .lt (.var 3) (.fn .len (.ix (.var 0) (.lit (.int 0))))) (.cmp .ge (.fn .abs (.var 4)) (.bin .pow (.lit (.int 10)) (.lit (.int 18))))) [.set (.nm 2) (.bin .add (.bin .mul (.lit (.int 2)) (.bin .sub (.fn .abs (.fn .int (.var 4))) (.bin .pow (.lit (.int 10)) (.lit (.int 18))))) (.fn .int (.cmp .lt (.var 4) (.lit (.int 0))))), .put (.var 0) (.lit (.int 2)) (.bin .fdiv (.var 2) (.var 1)), .ret (.bin .mod (.fn .int (.var 2)) (.var 1))] [], .set (.nm 5) (.bin .mod (.fn .int (.bin .pow (.bin .add (.bin .add (.bin .mod (.fn .int (.var 4)) (.lit (.int 2147483543))) (.bin .mul (.lit (.int 60527)) (.var 3))) (.lit (.int 2903))) (.lit (.int 5)))) (.lit (.int 2147483629))), .set (.nm 5) (.bin .mod (.fn .int (.bin .pow (.bin .add (.bin .add (.bin .mul (.var 5) (.bin .add (.bin .mul (.lit (.int 2)) (.var 3)) (.lit (.int 1013)))) (.bin .mul (.bin .mul (.lit (.int 60527)) (.var 3)) (.var 3))) (.lit (.int 44027))) (.lit (.int 3)))) (.lit (.int 2147483587))), .ret (.bin .mod (.fn .int (.bin .fdiv (.var 5) (.lit (.int 64)))) (.var 1))]
def b_draw_t6 : List S := [.set (.nm 5) (.bin .mod (.fn .int (.bin .pow (.bin .add (.bin .add (.bin .mod (.fn .int (.var 4)) (.lit (.int 2147483543))) (.bin .mul (.lit (.int 60527)) (.var 3))) (.lit (.int 2903))) (.lit (.int 5)))) (.lit (.int 2147483629))), .set (.nm 5) (.bin .mod (.fn .int (.bin .pow (.bin .add (.bin .add (.bin .mul (.var 5) (.bin .add (.bin .mul (.lit (.int 2)) (.var 3)) (.lit (.int 1013)))) (.bin .mul (.bin .mul (.lit (.int 60527)) (.var 3)) (.var 3))) (.lit (.int 44027))) (.lit (.int 3)))) (.lit (.int 2147483587))), .ret (.bin .mod (.fn .int (.bin .fdiv (.var 5) (.lit (.int 64)))) (.var 1))]
theorem b_draw_s6 : b_draw = (.if (.cmp .gt (.ix (.var 0) (.lit (.int 2))) (.lit (.int 0))) [.set (.nm 2) (.fn .int (.ix (.var 0) (.lit (.int 2)))), .put (.var 0) (.lit (.int 2)) (.bin .fdiv (.var 2) (.var 1)), .ret (.bin .mod (.fn .int (.var 2)) (.var 1))] [] : S) :: (.set (.nm 3) (.ix (.var 0) (.lit (.int 1)))) :: (.put (.var 0) (.lit (.int 1)) (.bin .add (.var 3) (.lit (.int 1)))) :: (.set (.nm 4) (.bin .add (.bin .mul (.lit (.int 60527)) (.var 3)) (.lit (.int 2903)))) :: (.if (.cmp .ne (.ix (.var 0) (.lit (.int 0))) (.lst [])) [.set (.nm 4) (.ix (.ix (.var 0) (.lit (.int 0))) (.bin .mod (.fn .int (.var 3)) (.fn .len (.ix (.var 0) (.lit (.int 0))))))] []) :: (.if (.and (.cmp .lt (.var 3) (.fn .len (.ix (.var 0) (.lit (.int 0))))) (.cmp .ge (.fn .abs (.var 4)) (.bin .pow (.lit (.int 10)) (.lit (.int 18))))) [.set (.nm 2) (.bin .add (.bin .mul (.lit (.int 2)) (.bin .sub (.fn .abs (.fn .int (.var 4))) (.bin .pow (.lit (.int 10)) (.lit (.int 18))))) (.fn .int (.cmp .lt (.var 4) (.lit (.int 0))))), .put (.var 0) (.lit (.int 2)) (.bin .fdiv (.var 2) (.var 1)), .ret (.bin .mod (.fn .int (.var 2)) (.var 1))] []) :: b_draw_t6 := rfl
/-- the pen, the first thing of the store: the cells, how many were begun, what is left of a great one -/
def pst (cells : List Int) (t l : Int) (rs : Sto) : Sto := .lst [.lst (cells.map D.int), .int t, .int l] :: rs
section
variable {T : List Df} {id : Nat}
theorem call_of {d : Df} (h : T[id]? = some d) (n : Nat) (ds : List D) (st : Sto) : evCall T (n + 1) id ds st = if ds.length = d.ps then resOf (evSs (evCall T n) d.body (startE d.ns ds) st) else .stuck := by
  show (match T[id]? with | some d => if ds.length = d.ps then resOf (evSs (evCall T n) d.body (startE d.ns ds) st) else .stuck | none => .stuck) = _
  rw [h]
theorem mix_v (n : Nat) (st : Sto) (t cell many : Int) (x2 x5 : Option D) (hm : 0 < many) (hm2 : many < 1073741824) (ht : 0 ≤ t) (ht2 : t < 10000000) :
    ∃ r, evSs (evCall T n) b_draw_t6 [some (.mrf 0), some (.int many), x2, some (.int t), some (.int cell), x5] st = .ok (.ret (.int r)) st ∧ 0 ≤ r ∧ r < many := by
  have h0 : 0 ≤ cell % 2147483543 := Int.emod_nonneg _ (by omega)
  have h1 : cell % 2147483543 < 2147483543 := Int.emod_lt_of_pos _ (by omega)
  have h2 : (cell % 2147483543 + 60527 * t + 2903).natAbs < 18446744073709551616 := by omega
  generalize hw : cell % 2147483543 + 60527 * t + 2903 = w at h2
  have h3 : 0 ≤ w ^ 5 % 2147483629 := Int.emod_nonneg _ (by omega)
  have h4 : w ^ 5 % 2147483629 < 2147483629 := Int.emod_lt_of_pos _ (by omega)
  generalize hv : w ^ 5 % 2147483629 = v at h3 h4
  have q1 : 0 ≤ v * (2 * t + 1013) := Int.mul_nonneg h3 (by omega)
  have q2 : v * (2 * t + 1013) ≤ 2147483629 * (2 * t + 1013) := Int.mul_le_mul_of_nonneg_right (by omega) (by omega)
  have q3 : 0 ≤ 60527 * t * t := Int.mul_nonneg (by omega) ht
  have q4 : 60527 * t * t ≤ 60527 * t * 10000000 := Int.mul_le_mul_of_nonneg_left (by omega) (by omega)
  have h5 : (v * (2 * t + 1013) + 60527 * t * t + 44027).natAbs < 18446744073709551616 := by omega
  have c1 : -18446744073709551616 < v := by omega
  have c2 : v < 18446744073709551616 := by omega
  have c3 : -18446744073709551616 < t := by omega
  have c4 : t < 18446744073709551616 := by omega
  unfold b_draw_t6
  walk_at "pv"
  exact ⟨Int.emod_nonneg _ (by omega), Int.emod_lt_of_pos _ hm⟩
theorem draw_v (hT : T[id]? = some ⟨2, 6, b_draw⟩) (n : Nat) (c : List Int) (t l : Int) (rs : Sto) (many : Int) (hm : 0 < many) (hm2 : many < 1073741824) (ht : 0 ≤ t) (ht2 : t < 10000000) :
    ∃ r t' l', evCall T (n + 1) id [.mrf 0, .int many] (pst c t l rs) = .ok (.int r) (pst c t' l' rs) ∧ 0 ≤ r ∧ r < many ∧ t ≤ t' ∧ t' ≤ t + 1 := by
  rw [call_of hT, b_draw_s6]
  unfold pst
  have ht0 : ¬ t < 0 := by omega
  by_cases hl : 0 < l
  · walk_at "pv"
    exact ⟨_, _, ⟨rfl, rfl⟩, Int.emod_nonneg _ (by omega), Int.emod_lt_of_pos _ hm, by omega, by omega⟩
  · have tail : ∀ (st : Sto) (cell : Int) (x2 x5 : Option D), ∃ r, evSs (evCall T n) b_draw_t6 [some (.mrf 0), some (.int many), x2, some (.int t), some (.int cell), x5] st = .ok (.ret (.int r)) st ∧ 0 ≤ r ∧ r < many := fun st cell x2 x5 => mix_v n st t cell many x2 x5 hm hm2 ht ht2
    cases c with
    | nil =>
      obtain ⟨r, hr, q0, q1⟩ := tail (.lst [.lst [], .int (t + 1), .int l] :: rs) (60527 * t + 2903) none none
      walk_at "pv"
      exact ⟨r, t + 1, ⟨rfl, rfl⟩, by omega, by omega, by omega, by omega⟩
    | cons c0 cs =>
      have i0 : 0 ≤ t % ((cs.length : Int) + 1) := Int.emod_nonneg _ (by omega)
      have i1 : t % ((cs.length : Int) + 1) < (cs.length : Int) + 1 := Int.emod_lt_of_pos _ (by omega)
      have i2 : (0 : Int) < (cs.length : Int) + 1 := by omega
      obtain ⟨k, hk⟩ := Int.eq_ofNat_of_zero_le i0
      have hk1 : k < cs.length + 1 := by omega
      obtain ⟨x, hx⟩ : ∃ x : Int, atI (D.int c0 :: List.map D.int cs) (k : Int) = some (.int x) := by
        refine ⟨(c0 :: cs)[k], ?_⟩
        rw [atI_nat', ← List.map_cons, List.getElem?_map, List.getElem?_eq_getElem (by simpa using hk1)]
        rfl
      obtain ⟨r, hr, q0, q1⟩ := tail (.lst [.lst (.int c0 :: cs.map D.int), .int (t + 1), .int l] :: rs) x none none
      by_cases g1 : t < (cs.length : Int) + 1
      · by_cases g2 : 1000000000000000000 ≤ (if x < 0 then -x else x)
        · walk_at "pv"
          exact ⟨_, _, ⟨rfl, rfl⟩, Int.emod_nonneg _ (by omega), Int.emod_lt_of_pos _ hm, by omega, by omega⟩
        · walk_at "pv"
          exact ⟨r, t + 1, ⟨rfl, rfl⟩, by omega, by omega, by omega, by omega⟩
      · walk_at "pv"
        exact ⟨r, t + 1, ⟨rfl, rfl⟩, by omega, by omega, by omega, by omega⟩
theorem pick_v {ip : Nat} (hT : T[id]? = some ⟨2, 6, b_draw⟩) (hP : T[ip]? = some ⟨2, 2, [.ret (.ix (.var 1) (.call id [.var 0, .fn .len (.var 1)]))]⟩) (n : Nat) (c : List Int) (t l : Int) (rs : Sto) (xs : List D) (h0 : xs ≠ []) (h1 : xs.length < 1000000)
    (ht : 0 ≤ t) (ht2 : t < 10000000) : ∃ x t' l', evCall T (n + 2) ip [.mrf 0, .lst xs] (pst c t l rs) = .ok x (pst c t' l' rs) ∧ x ∈ xs ∧ t ≤ t' ∧ t' ≤ t + 1 := by
  have hl : 0 < xs.length := List.length_pos_iff.mpr h0
  obtain ⟨r, t', l', e, q0, q1, q2, q3⟩ := draw_v hT n c t l rs xs.length (by omega) (by omega) ht ht2
  obtain ⟨k, hk⟩ := Int.eq_ofNat_of_zero_le q0
  subst hk
  have hk : k < xs.length := by omega
  refine ⟨xs[k], t', l', ?_, List.getElem_mem hk, q2, q3⟩
  have hx : atI xs (k : Int) = some xs[k] := by rw [atI_nat', List.getElem?_eq_getElem hk]
  rw [call_of hP]
  walk_at "pv"
end
end Pv
end
section
set_option Elab.async false
set_option autoImplicit false
set_option linter.all false
set_option maxRecDepth 100000
set_option maxHeartbeats 4000000
/-! The text's defs as the value language has them; one derivation a def. Printed by gen.py. -/
namespace Law
open PySem L2 Pv PySem.Spec PyProof.Rows
def top (i : Nat) : Stmt := PySem.Challenge.pw_ownhearing_k01_forms_of_conditions.main.body.getD i (.Pass ⟨0, 0, 0, 0⟩)
abbrev s_is_name : Stmt := top 3
def b_is_name : List S := [.ret (.and (.isi (.var 0) [.str]) (.and (.chain .le .le (.lit (.int 1)) (.fn .len (.var 0)) (.lit (.int 8))) (.fn .all (.comp [1] (.nm 1) (.var 0) [] (.cmp .isin (.var 1) (.lit (.str "abcdefghijklmnopqrstuvwxyz")))))))]
abbrev s_is_listed : Stmt := top 4
def b_is_listed : List S := [.ret (.isi (.var 0) [.list, .tuple])]
abbrev s_is_row : Stmt := top 5
def b_is_row : List S := [.ret (.and (.call 1 [.var 0]) (.chain .le .le (.var 1) (.fn .len (.var 0)) (.var 2)))]
abbrev s_is_atom : Stmt := top 14
def b_is_atom : List S := [.if (.or (.not (.call 2 [.var 0, .lit (.int 3), .lit (.int 3)])) (.or (.not (.isi (.ix (.var 0) (.lit (.int 0))) [.str])) (.cmp .nin (.ix (.var 0) (.lit (.int 0))) (.tup [.lit (.str "at"), .lit (.str "sig")])))) [.ret (.lit (.bl false))] [], .ret (.and (.call 0 [.ix (.var 0) (.lit (.int 1))]) (.call 0 [.ix (.var 0) (.lit (.int 2))]))]
abbrev s_parts_of : Stmt := top 15
def b_parts_of : List S := [.if (.or (.not (.call 1 [.var 0])) (.or (.cmp .lt (.fn .len (.var 0)) (.lit (.int 2))) (.not (.isi (.ix (.var 0) (.lit (.int 0))) [.str])))) [.ret (.lit .non)] [], .if (.cmp .eq (.ix (.var 0) (.lit (.int 0))) (.lit (.str "not"))) [.ret (.ife (.cmp .eq (.fn .len (.var 0)) (.lit (.int 2))) (.fn .list (.sl (.var 0) (some (.lit (.int 1))) none)) (.lit .non))] [], .ret (.ife (.and (.cmp .isin (.ix (.var 0) (.lit (.int 0))) (.tup [.lit (.str "and"), .lit (.str "or")])) (.cmp .gt (.fn .len (.var 0)) (.lit (.int 2)))) (.fn .list (.sl (.var 0) (some (.lit (.int 1))) none)) (.lit .non))]
abbrev s_is_condition : Stmt := top 16
def b_is_condition : List S := [.par 1 2 (.lit (.int 0)) (.lst [.var 0]), .range (.nm 3) (.lit (.int 6)) [.par 1 4 (.bin .add (.var 1) (.fn .len (.var 2))) (.lst []), .if (.cmp .gt (.var 1) (.lit (.int 40))) [.ret (.lit (.bl false))] [], .for (.nm 5) (.var 2) [.if (.not (.call 3 [.var 5])) [.set (.nm 6) (.call 4 [.var 5]), .if (.cmp .is (.var 6) (.lit .non)) [.ret (.lit (.bl false))] [], .set (.nm 4) (.bin .add (.var 4) (.var 6))] []], .if (.cmp .eq (.var 4) (.lst [])) [.ret (.lit (.bl true))] [], .set (.nm 2) (.var 4)], .ret (.lit (.bl false))]
abbrev s__law_pen : Stmt := top 18
def b__law_pen : List S := [.ret (.mlst [.comp [1] (.nm 1) (.sl (.var 0) none (some (.lit (.int 63)))) [] (.fn .int (.var 1)), .lit (.int 0), .lit (.int 0)])]
abbrev s__law_draw : Stmt := top 19
def b__law_draw : List S := [.if (.cmp .gt (.ix (.var 0) (.lit (.int 2))) (.lit (.int 0))) [.set (.nm 2) (.fn .int (.ix (.var 0) (.lit (.int 2)))), .put (.var 0) (.lit (.int 2)) (.bin .fdiv (.var 2) (.var 1)), .ret (.bin .mod (.fn .int (.var 2)) (.var 1))] [], .set (.nm 3) (.ix (.var 0) (.lit (.int 1))), .put (.var 0) (.lit (.int 1)) (.bin .add (.var 3) (.lit (.int 1))), .set (.nm 4) (.bin .add (.bin .mul (.lit (.int 60527)) (.var 3)) (.lit (.int 2903))), .if (.cmp .ne (.ix (.var 0) (.lit (.int 0))) (.lst [])) [.set (.nm 4) (.ix (.ix (.var 0) (.lit (.int 0))) (.bin .mod (.fn .int (.var 3)) (.fn .len (.ix (.var 0) (.lit (.int 0))))))] [], .if (.and (.cmp .lt (.var 3) (.fn .len (.ix (.var 0) (.lit (.int 0))))) (.cmp .ge (.fn .abs (.var 4)) (.bin .pow (.lit (.int 10)) (.lit (.int 18))))) [.set (.nm 2) (.bin .add (.bin .mul (.lit (.int 2)) (.bin .sub (.fn .abs (.fn .int (.var 4))) (.bin .pow (.lit (.int 10)) (.lit (.int 18))))) (.fn .int (.cmp .lt (.var 4) (.lit (.int 0))))), .put (.var 0) (.lit (.int 2)) (.bin .fdiv (.var 2) (.var 1)), .ret (.bin .mod (.fn .int (.var 2)) (.var 1))] [], .set (.nm 5) (.bin .mod (.fn .int (.bin .pow (.bin .add (.bin .add (.bin .mod (.fn .int (.var 4)) (.lit (.int 2147483543))) (.bin .mul (.lit (.int 60527)) (.var 3))) (.lit (.int 2903))) (.lit (.int 5)))) (.lit (.int 2147483629))), .set (.nm 5) (.bin .mod (.fn .int (.bin .pow (.bin .add (.bin .add (.bin .mul (.var 5) (.bin .add (.bin .mul (.lit (.int 2)) (.var 3)) (.lit (.int 1013)))) (.bin .mul (.bin .mul (.lit (.int 60527)) (.var 3)) (.var 3))) (.lit (.int 44027))) (.lit (.int 3)))) (.lit (.int 2147483587))), .ret (.bin .mod (.fn .int (.bin .fdiv (.var 5) (.lit (.int 64)))) (.var 1))]
abbrev s__law_pick : Stmt := top 20
def b__law_pick : List S := [.ret (.ix (.var 1) (.call 7 [.var 0, .fn .len (.var 1)]))]
abbrev s__law_listed : Stmt := top 21
def b__law_listed : List S := [.ret (.ife (.isi (.var 0) [.list, .tuple]) (.comp [1] (.nm 1) (.var 0) [] (.call 9 [.var 1])) (.var 0))]
abbrev s__law_is_word : Stmt := top 22
def b__law_is_word : List S := [.ret (.and (.isi (.var 0) [.str]) (.and (.chain .le .le (.lit (.int 1)) (.fn .len (.var 0)) (.lit (.int 8))) (.cmp .eq (.comp [1] (.nm 1) (.var 0) [.cmp .nin (.var 1) (.lit (.str "abcdefghijklmnopqrstuvwxyz"))] (.var 1)) (.lst []))))]
abbrev s__law_size : Stmt := top 23
def b__law_size : List S := [.if (.or (.not (.isi (.var 0) [.list, .tuple])) (.or (.cmp .lt (.fn .len (.var 0)) (.lit (.int 2))) (.not (.isi (.ix (.var 0) (.lit (.int 0))) [.str])))) [.ret (.lit .non)] [], .if (.cmp .isin (.ix (.var 0) (.lit (.int 0))) (.tup [.lit (.str "at"), .lit (.str "sig")])) [.ret (.ife (.and (.cmp .eq (.fn .len (.var 0)) (.lit (.int 3))) (.and (.call 10 [.ix (.var 0) (.lit (.int 1))]) (.call 10 [.ix (.var 0) (.lit (.int 2))]))) (.tup [.lit (.int 1), .lit (.int 1)]) (.lit .non))] [], .if (.not (.or (.and (.cmp .eq (.ix (.var 0) (.lit (.int 0))) (.lit (.str "not"))) (.cmp .eq (.fn .len (.var 0)) (.lit (.int 2)))) (.and (.cmp .isin (.ix (.var 0) (.lit (.int 0))) (.tup [.lit (.str "and"), .lit (.str "or")])) (.cmp .gt (.fn .len (.var 0)) (.lit (.int 2)))))) [.ret (.lit .non)] [], .set (.nm 1) (.comp [2] (.nm 2) (.sl (.var 0) (some (.lit (.int 1))) none) [] (.call 11 [.var 2])), .ret (.ife (.cmp .isin (.lit .non) (.var 1)) (.lit .non) (.tup [.bin .add (.lit (.int 1)) (.fn .sum (.comp [2] (.nm 2) (.var 1) [] (.ix (.var 2) (.lit (.int 0))))), .bin .add (.lit (.int 1)) (.fn .max (.comp [2] (.nm 2) (.var 1) [] (.ix (.var 2) (.lit (.int 1)))))]))]
abbrev s__law_due : Stmt := top 24
def b__law_due : List S := [.set (.nm 1) (.call 11 [.var 0]), .ret (.and (.cmp .nis (.var 1) (.lit .non)) (.and (.cmp .le (.ix (.var 1) (.lit (.int 0))) (.lit (.int 40))) (.cmp .le (.ix (.var 1) (.lit (.int 1))) (.lit (.int 6)))))]
abbrev s__law_wild : Stmt := top 25
def b__law_wild : List S := [.set (.nm 2) (.ife (.cmp .gt (.var 1) (.lit (.int 1))) (.call 7 [.var 0, .lit (.int 7)]) (.lit (.int 0))), .if (.cmp .lt (.var 2) (.lit (.int 3))) [.set (.nm 3) (.lst [.lit (.str "a"), .lit (.str "door"), .lit (.str "zyxwvuts"), .lit (.str "abcdefgh"), .lit (.str "at"), .lit (.str "not")]), .ret (.tup [.call 8 [.var 0, .lst [.lit (.str "at"), .lit (.str "sig")]], .call 8 [.var 0, .var 3], .call 8 [.var 0, .var 3]])] [], .if (.cmp .eq (.var 2) (.lit (.int 3))) [.ret (.tup [.lit (.str "not"), .call 13 [.var 0, .bin .sub (.var 1) (.lit (.int 1))]])] [], .ret (.fn .tuple (.bin .add (.lst [.call 8 [.var 0, .lst [.lit (.str "and"), .lit (.str "or")]]]) (.rcomp [4] (.nm 4) (.call 8 [.var 0, .lst [.lit (.int 2), .lit (.int 2), .lit (.int 3), .lit (.int 5)]]) [] (.call 13 [.var 0, .bin .sub (.var 1) (.lit (.int 1))]))))]
abbrev s__law_bent : Stmt := top 26
def b__law_bent : List S := [.if (.and (.isi (.var 1) [.tuple]) (.and (.cmp .gt (.fn .len (.var 1)) (.lit (.int 1))) (.cmp .gt (.call 7 [.var 0, .lit (.int 3)]) (.lit (.int 0))))) [.set (.nm 2) (.call 7 [.var 0, .fn .len (.var 1)]), .ret (.bin .add (.bin .add (.sl (.var 1) none (some (.var 2))) (.tup [.call 14 [.var 0, .ix (.var 1) (.var 2)]])) (.sl (.var 1) (some (.bin .add (.var 2) (.lit (.int 1)))) none))] [], .set (.nm 3) (.lst [.lit .non, .lit (.int 5), .lit (.str ""), .lit (.str "at"), .lit (.str "nor"), .lit (.str "Door"), .lit (.str "abcdefghi"), .lit (.str "a1"), .lst [], .tup [], .tup [.lit (.str "at"), .lit (.str "a")], .tup [.lit (.str "not")], .tup [.lit (.str "and"), .tup [.lit (.str "at"), .lit (.str "a"), .lit (.str "b")]], .lit (.bl true), .dnew]), .ret (.call 8 [.var 0, .bin .add (.var 3) (.lst [.ife (.isi (.var 1) [.tuple]) (.fn .list (.var 1)) (.var 1), .var 1])])]
abbrev s_law : Stmt := top 27
def b_law : List S := [.set (.nm 1) (.call 6 [.var 0]), .range (.nm 2) (.lit (.int 30)) [.set (.nm 3) (.call 13 [.var 1, .bin .add (.lit (.int 1)) (.call 7 [.var 1, .lit (.int 6)])]), .set (.nm 4) (.call 14 [.var 1, .var 3]), .for (.nm 5) (.tup [.var 3, .call 9 [.var 3], .var 4]) [.if (.cmp .ne (.fn .repr (.lst [.call 5 [.var 5], .call 5 [.var 5]])) (.fn .repr (.bin .mul (.lst [.call 12 [.var 5]]) (.lit (.int 2))))) [.ret (.lit (.bl false))] []]], .set (.tup [.nm 6, .nm 7]) (.tup [.tup [.lit (.str "at"), .lit (.str "a"), .lit (.str "b")], .tup [.lit (.str "sig"), .lit (.str "a"), .lit (.str "b")]]), .range (.nm 2) (.lit (.int 5)) [.set (.nm 7) (.tup [.lit (.str "not"), .var 7])], .set (.nm 8) (.fn .tuple (.bin .add (.lst [.lit (.str "or")]) (.bin .mul (.lst [.var 6]) (.lit (.int 39))))), .if (.or (.not (.call 5 [.var 7])) (.or (.call 5 [.tup [.lit (.str "not"), .var 7]]) (.or (.not (.call 5 [.var 8])) (.or (.call 5 [.bin .add (.var 8) (.tup [.var 6])]) (.call 5 [.tup [.lit (.str "not"), .var 8]]))))) [.ret (.lit (.bl false))] [], .ret (.cmp .eq (.comp [5] (.nm 5) (.tup [.lit .non, .lit (.int 5), .lit (.str "at"), .tup [], .dnew, .tup [.lit (.str "and")], .lst [.lit (.str "at"), .lit (.str "a"), .lit (.int 5)], .tup [.lit (.str "at"), .lit (.str "a"), .lit (.str "b"), .lit (.str "c")]]) [.cmp .nis (.call 5 [.var 5]) (.lit (.bl false))] (.var 5)) (.lst []))]
def b__law_draw_t6 : List S := [.set (.nm 5) (.bin .mod (.fn .int (.bin .pow (.bin .add (.bin .add (.bin .mod (.fn .int (.var 4)) (.lit (.int 2147483543))) (.bin .mul (.lit (.int 60527)) (.var 3))) (.lit (.int 2903))) (.lit (.int 5)))) (.lit (.int 2147483629))), .set (.nm 5) (.bin .mod (.fn .int (.bin .pow (.bin .add (.bin .add (.bin .mul (.var 5) (.bin .add (.bin .mul (.lit (.int 2)) (.var 3)) (.lit (.int 1013)))) (.bin .mul (.bin .mul (.lit (.int 60527)) (.var 3)) (.var 3))) (.lit (.int 44027))) (.lit (.int 3)))) (.lit (.int 2147483587))), .ret (.bin .mod (.fn .int (.bin .fdiv (.var 5) (.lit (.int 64)))) (.var 1))]
theorem b__law_draw_s6 : b__law_draw = (.if (.cmp .gt (.ix (.var 0) (.lit (.int 2))) (.lit (.int 0))) [.set (.nm 2) (.fn .int (.ix (.var 0) (.lit (.int 2)))), .put (.var 0) (.lit (.int 2)) (.bin .fdiv (.var 2) (.var 1)), .ret (.bin .mod (.fn .int (.var 2)) (.var 1))] [] : S) :: (.set (.nm 3) (.ix (.var 0) (.lit (.int 1)))) :: (.put (.var 0) (.lit (.int 1)) (.bin .add (.var 3) (.lit (.int 1)))) :: (.set (.nm 4) (.bin .add (.bin .mul (.lit (.int 60527)) (.var 3)) (.lit (.int 2903)))) :: (.if (.cmp .ne (.ix (.var 0) (.lit (.int 0))) (.lst [])) [.set (.nm 4) (.ix (.ix (.var 0) (.lit (.int 0))) (.bin .mod (.fn .int (.var 3)) (.fn .len (.ix (.var 0) (.lit (.int 0))))))] []) :: (.if (.and (.cmp .lt (.var 3) (.fn .len (.ix (.var 0) (.lit (.int 0))))) (.cmp .ge (.fn .abs (.var 4)) (.bin .pow (.lit (.int 10)) (.lit (.int 18))))) [.set (.nm 2) (.bin .add (.bin .mul (.lit (.int 2)) (.bin .sub (.fn .abs (.fn .int (.var 4))) (.bin .pow (.lit (.int 10)) (.lit (.int 18))))) (.fn .int (.cmp .lt (.var 4) (.lit (.int 0))))), .put (.var 0) (.lit (.int 2)) (.bin .fdiv (.var 2) (.var 1)), .ret (.bin .mod (.fn .int (.var 2)) (.var 1))] []) :: b__law_draw_t6 := rfl
def b_law_t2 : List S := [.set (.tup [.nm 6, .nm 7]) (.tup [.tup [.lit (.str "at"), .lit (.str "a"), .lit (.str "b")], .tup [.lit (.str "sig"), .lit (.str "a"), .lit (.str "b")]]), .range (.nm 2) (.lit (.int 5)) [.set (.nm 7) (.tup [.lit (.str "not"), .var 7])], .set (.nm 8) (.fn .tuple (.bin .add (.lst [.lit (.str "or")]) (.bin .mul (.lst [.var 6]) (.lit (.int 39))))), .if (.or (.not (.call 5 [.var 7])) (.or (.call 5 [.tup [.lit (.str "not"), .var 7]]) (.or (.not (.call 5 [.var 8])) (.or (.call 5 [.bin .add (.var 8) (.tup [.var 6])]) (.call 5 [.tup [.lit (.str "not"), .var 8]]))))) [.ret (.lit (.bl false))] [], .ret (.cmp .eq (.comp [5] (.nm 5) (.tup [.lit .non, .lit (.int 5), .lit (.str "at"), .tup [], .dnew, .tup [.lit (.str "and")], .lst [.lit (.str "at"), .lit (.str "a"), .lit (.int 5)], .tup [.lit (.str "at"), .lit (.str "a"), .lit (.str "b"), .lit (.str "c")]]) [.cmp .nis (.call 5 [.var 5]) (.lit (.bl false))] (.var 5)) (.lst []))]
theorem b_law_s2 : b_law = (.set (.nm 1) (.call 6 [.var 0]) : S) :: (.range (.nm 2) (.lit (.int 30)) [.set (.nm 3) (.call 13 [.var 1, .bin .add (.lit (.int 1)) (.call 7 [.var 1, .lit (.int 6)])]), .set (.nm 4) (.call 14 [.var 1, .var 3]), .for (.nm 5) (.tup [.var 3, .call 9 [.var 3], .var 4]) [.if (.cmp .ne (.fn .repr (.lst [.call 5 [.var 5], .call 5 [.var 5]])) (.fn .repr (.bin .mul (.lst [.call 12 [.var 5]]) (.lit (.int 2))))) [.ret (.lit (.bl false))] []]]) :: b_law_t2 := rfl
def b_is_condition_t1 : List S := [.range (.nm 3) (.lit (.int 6)) [.par 1 4 (.bin .add (.var 1) (.fn .len (.var 2))) (.lst []), .if (.cmp .gt (.var 1) (.lit (.int 40))) [.ret (.lit (.bl false))] [], .for (.nm 5) (.var 2) [.if (.not (.call 3 [.var 5])) [.set (.nm 6) (.call 4 [.var 5]), .if (.cmp .is (.var 6) (.lit .non)) [.ret (.lit (.bl false))] [], .set (.nm 4) (.bin .add (.var 4) (.var 6))] []], .if (.cmp .eq (.var 4) (.lst [])) [.ret (.lit (.bl true))] [], .set (.nm 2) (.var 4)], .ret (.lit (.bl false))]
theorem b_is_condition_s1 : b_is_condition = (.par 1 2 (.lit (.int 0)) (.lst [.var 0]) : S) :: b_is_condition_t1 := rfl
def T : List Df := [⟨1, 2, b_is_name⟩, ⟨1, 1, b_is_listed⟩, ⟨3, 3, b_is_row⟩, ⟨1, 1, b_is_atom⟩, ⟨1, 1, b_parts_of⟩, ⟨1, 7, b_is_condition⟩, ⟨1, 2, b__law_pen⟩, ⟨2, 6, b__law_draw⟩, ⟨2, 2, b__law_pick⟩, ⟨1, 2, b__law_listed⟩, ⟨1, 2, b__law_is_word⟩, ⟨1, 3, b__law_size⟩, ⟨1, 2, b__law_due⟩, ⟨2, 5, b__law_wild⟩, ⟨2, 4, b__law_bent⟩, ⟨1, 9, b_law⟩]
structure Gf (mg : Str → Option Value) : Prop where
  n_abs : mg "abs" = none
  n_all : mg "all" = none
  n_int : mg "int" = none
  n_isinstance : mg "isinstance" = none
  n_len : mg "len" = none
  n_list : mg "list" = none
  n_max : mg "max" = none
  n_range : mg "range" = none
  n_repr : mg "repr" = none
  n_str : mg "str" = none
  n_sum : mg "sum" = none
  n_tuple : mg "tuple" = none
  c_AND : ∃ t, mg "AND" = some (.str "and" t)
  c_AT : ∃ t, mg "AT" = some (.str "at" t)
  c_LETTERS : ∃ t, mg "LETTERS" = some (.str "abcdefghijklmnopqrstuvwxyz" t)
  c_MOST_DEEP : ∃ t, mg "MOST_DEEP" = some (.int 6 t)
  c_MOST_SIGNS : ∃ t, mg "MOST_SIGNS" = some (.int 8 t)
  c_MOST_WORDS : ∃ t, mg "MOST_WORDS" = some (.int 40 t)
  c_NOT : ∃ t, mg "NOT" = some (.str "not" t)
  c_OR : ∃ t, mg "OR" = some (.str "or" t)
  c_SIG : ∃ t, mg "SIG" = some (.str "sig" t)
structure All (P : Program) (w : World) (K : PySem.W.Frag) (mg : Str → Option Value) (base : Heap) (n : Nat) : Prop where
  d_is_name : DefOk P w K mg base T n "is_name" ["value"] 0
  d_is_listed : DefOk P w K mg base T n "is_listed" ["value"] 1
  d_is_row : DefOk P w K mg base T n "is_row" ["value", "least", "most"] 2
  d_is_atom : DefOk P w K mg base T n "is_atom" ["value"] 3
  d_parts_of : DefOk P w K mg base T n "parts_of" ["value"] 4
  d_is_condition : DefOk P w K mg base T n "is_condition" ["value"] 5
  d__law_pen : DefOk P w K mg base T n "_law_pen" ["script"] 6
  d__law_draw : DefOk P w K mg base T n "_law_draw" ["pen", "many"] 7
  d__law_pick : DefOk P w K mg base T n "_law_pick" ["pen", "some"] 8
  d__law_listed : DefOk P w K mg base T n "_law_listed" ["value"] 9
  d__law_is_word : DefOk P w K mg base T n "_law_is_word" ["value"] 10
  d__law_size : DefOk P w K mg base T n "_law_size" ["value"] 11
  d__law_due : DefOk P w K mg base T n "_law_due" ["value"] 12
  d__law_wild : DefOk P w K mg base T n "_law_wild" ["pen", "deep"] 13
  d__law_bent : DefOk P w K mg base T n "_law_bent" ["pen", "value"] 14
  d_law : DefOk P w K mg base T n "law" ["script"] 15
section
variable {P : Program} {w : World} {K : PySem.W.Frag} {mg : Str → Option Value} {base : Heap} {n : Nat}
theorem sc_is_name : FnScope ["value", "sign"] ["value"] (defScope s_is_name) := ⟨rfl, rfl, rfl, by decide +kernel, rfl, by decide +kernel, by decide +kernel⟩
theorem dv_is_name (gf : Gf mg) (all : All P w K mg base n) (f : Addr) : ∀ (cdv : Value) (A : Around) (outer : List Env) (s : Shared) (H : Hp) (E : XK), Cz (cxOf CX0 P w K mg base ["value", "sign"] "is_name" (defScope s_is_name) f cdv A outer s H E).nox n →
    PSsv (cxOf CX0 P w K mg base ["value", "sign"] "is_name" (defScope s_is_name) f cdv A outer s H E).nox (evCall T n) (defBody s_is_name) b_is_name := fun cdv A outer s H E cz =>
  (pssv_cons (psv_ret (pev_and (pev_isi1 .str (pev_var 0) gf.n_isinstance gf.n_str bt_str) (pev_and (pev_chain o_le o_le pev_int (pev_fnB (f := .len) f_len gf.n_len bt_len (pev_var 0)) (pev_gint gf.c_MOST_SIGNS.choose_spec)) (pev_one (pev_fnB (f := .all) (f_all cz.calm) gf.n_all bt_all (pev_comp cz [("sign", 1)] (pev_var 0) (show blkC ["value", "sign"] (defScope s_is_name) _ _ = true by decide +kernel) (fun _ _ _ _ _ => (pgv_nm 1 cz.nd)) (fun _ _ _ _ _ => ptcs_nil) (fun _ _ _ _ _ => (pev_cmp (Cz.isin ⟨cz.1, cz.2, cz.3, cz.4⟩) (pev_var 1) (pev_gstr gf.c_LETTERS.choose_spec))))))))) pssv_nil)
theorem sc_is_listed : FnScope ["value"] ["value"] (defScope s_is_listed) := ⟨rfl, rfl, rfl, by decide +kernel, rfl, by decide +kernel, by decide +kernel⟩
theorem dv_is_listed (gf : Gf mg) (all : All P w K mg base n) (f : Addr) : ∀ (cdv : Value) (A : Around) (outer : List Env) (s : Shared) (H : Hp) (E : XK), Cz (cxOf CX0 P w K mg base ["value"] "is_listed" (defScope s_is_listed) f cdv A outer s H E).nox n →
    PSsv (cxOf CX0 P w K mg base ["value"] "is_listed" (defScope s_is_listed) f cdv A outer s H E).nox (evCall T n) (defBody s_is_listed) b_is_listed := fun cdv A outer s H E cz =>
  (pssv_cons (psv_ret (pev_isi2 .list .tuple (pev_var 0) gf.n_isinstance gf.n_list bt_list gf.n_tuple bt_tuple)) pssv_nil)
theorem sc_is_row : FnScope ["value", "least", "most"] ["value", "least", "most"] (defScope s_is_row) := ⟨rfl, rfl, rfl, by decide +kernel, rfl, by decide +kernel, by decide +kernel⟩
theorem dv_is_row (gf : Gf mg) (all : All P w K mg base n) (f : Addr) : ∀ (cdv : Value) (A : Around) (outer : List Env) (s : Shared) (H : Hp) (E : XK), Cz (cxOf CX0 P w K mg base ["value", "least", "most"] "is_row" (defScope s_is_row) f cdv A outer s H E).nox n →
    PSsv (cxOf CX0 P w K mg base ["value", "least", "most"] "is_row" (defScope s_is_row) f cdv A outer s H E).nox (evCall T n) (defBody s_is_row) b_is_row := fun cdv A outer s H E cz =>
  (pssv_cons (psv_ret (pev_and (pev_callD all.d_is_listed cz (pav_cons (pev_var 0) pav_nil)) (pev_one (pev_chain o_le o_le (pev_var 1) (pev_fnB (f := .len) f_len gf.n_len bt_len (pev_var 0)) (pev_var 2))))) pssv_nil)
theorem sc_is_atom : FnScope ["value"] ["value"] (defScope s_is_atom) := ⟨rfl, rfl, rfl, by decide +kernel, rfl, by decide +kernel, by decide +kernel⟩
theorem dv_is_atom (gf : Gf mg) (all : All P w K mg base n) (f : Addr) : ∀ (cdv : Value) (A : Around) (outer : List Env) (s : Shared) (H : Hp) (E : XK), Cz (cxOf CX0 P w K mg base ["value"] "is_atom" (defScope s_is_atom) f cdv A outer s H E).nox n →
    PSsv (cxOf CX0 P w K mg base ["value"] "is_atom" (defScope s_is_atom) f cdv A outer s H E).nox (evCall T n) (defBody s_is_atom) b_is_atom := fun cdv A outer s H E cz =>
  (pssv_cons (psv_if (ptv_w (pwv_or (ptv_not (ptv_val (pev_callD all.d_is_row cz (pav_cons (pev_var 0) (pav_cons pev_int (pav_cons pev_int pav_nil)))))) (pwv_or (ptv_not (ptv_val (pev_isi1 .str (pev_ix (pev_var 0) pev_int) gf.n_isinstance gf.n_str bt_str))) (pwv_or1 (ptv_cmp (Cz.nin cz) (pev_ix (pev_var 0) pev_int) (pev_tup (pav_cons (pev_gstr gf.c_AT.choose_spec) (pav_cons (pev_gstr gf.c_SIG.choose_spec) pav_nil)))))))) (pssv_cons (psv_ret pev_bl) pssv_nil) pssv_nil) (pssv_cons (psv_ret (pev_and (pev_callD all.d_is_name cz (pav_cons (pev_ix (pev_var 0) pev_int) pav_nil)) (pev_one (pev_callD all.d_is_name cz (pav_cons (pev_ix (pev_var 0) pev_int) pav_nil))))) pssv_nil))
theorem sc_parts_of : FnScope ["value"] ["value"] (defScope s_parts_of) := ⟨rfl, rfl, rfl, by decide +kernel, rfl, by decide +kernel, by decide +kernel⟩
theorem dv_parts_of (gf : Gf mg) (all : All P w K mg base n) (f : Addr) : ∀ (cdv : Value) (A : Around) (outer : List Env) (s : Shared) (H : Hp) (E : XK), Cz (cxOf CX0 P w K mg base ["value"] "parts_of" (defScope s_parts_of) f cdv A outer s H E).nox n →
    PSsv (cxOf CX0 P w K mg base ["value"] "parts_of" (defScope s_parts_of) f cdv A outer s H E).nox (evCall T n) (defBody s_parts_of) b_parts_of := fun cdv A outer s H E cz =>
  (pssv_cons (psv_if (ptv_w (pwv_or (ptv_not (ptv_val (pev_callD all.d_is_listed cz (pav_cons (pev_var 0) pav_nil)))) (pwv_or (ptv_cmp o_lt (pev_fnB (f := .len) f_len gf.n_len bt_len (pev_var 0)) pev_int) (pwv_or1 (ptv_not (ptv_val (pev_isi1 .str (pev_ix (pev_var 0) pev_int) gf.n_isinstance gf.n_str bt_str))))))) (pssv_cons (psv_ret pev_non) pssv_nil) pssv_nil) (pssv_cons (psv_if (ptv_cmp (Cz.eq cz) (pev_ix (pev_var 0) pev_int) (pev_gstr gf.c_NOT.choose_spec)) (pssv_cons (psv_ret (pev_ife (ptv_cmp (Cz.eq cz) (pev_fnB (f := .len) f_len gf.n_len bt_len (pev_var 0)) pev_int) (pev_fnT (f := .list) f_list gf.n_list bt_list (pev_sl (pev_var 0) (pov_some pev_int) pov_none)) pev_non)) pssv_nil) pssv_nil) (pssv_cons (psv_ret (pev_ife (ptv_w (pwv_and (ptv_cmp (Cz.isin cz) (pev_ix (pev_var 0) pev_int) (pev_tup (pav_cons (pev_gstr gf.c_AND.choose_spec) (pav_cons (pev_gstr gf.c_OR.choose_spec) pav_nil)))) (pwv_and1 (ptv_cmp o_gt (pev_fnB (f := .len) f_len gf.n_len bt_len (pev_var 0)) pev_int)))) (pev_fnT (f := .list) f_list gf.n_list bt_list (pev_sl (pev_var 0) (pov_some pev_int) pov_none)) pev_non)) pssv_nil)))
theorem sc_is_condition : FnScope ["value", "many", "line", "_", "later", "one", "some"] ["value"] (defScope s_is_condition) := ⟨rfl, rfl, rfl, by decide +kernel, rfl, by decide +kernel, by decide +kernel⟩
theorem dv_is_condition (gf : Gf mg) (all : All P w K mg base n) (f : Addr) : ∀ (cdv : Value) (A : Around) (outer : List Env) (s : Shared) (H : Hp) (E : XK), Cz (cxOf CX0 P w K mg base ["value", "many", "line", "_", "later", "one", "some"] "is_condition" (defScope s_is_condition) f cdv A outer s H E).nox n →
    PSsv (cxOf CX0 P w K mg base ["value", "many", "line", "_", "later", "one", "some"] "is_condition" (defScope s_is_condition) f cdv A outer s H E).nox (evCall T n) (defBody s_is_condition) b_is_condition := fun cdv A outer s H E cz =>
  (pssv_cons (psv_par 1 2 cz.calm cz.nd pev_int (pev_lst (pav_cons (pev_var 0) pav_nil))) (pssv_cons (psv_range PassesOwn.never cz.calm gf.n_range (pev_gint gf.c_MOST_DEEP.choose_spec) (pgv_nm 3 cz.nd) (pssv_cons (psv_par 1 4 cz.calm cz.nd (pev_bin o_add (pev_var 1) (pev_fnB (f := .len) f_len gf.n_len bt_len (pev_var 2))) (pev_lst pav_nil)) (pssv_cons (psv_if (ptv_cmp o_gt (pev_var 1) (pev_gint gf.c_MOST_WORDS.choose_spec)) (pssv_cons (psv_ret pev_bl) pssv_nil) pssv_nil) (pssv_cons (psv_for PassesOwn.never cz.calm (pev_var 2) (pgv_nm 5 cz.nd) (pssv_cons (psv_if (ptv_not (ptv_val (pev_callD all.d_is_atom cz (pav_cons (pev_var 5) pav_nil)))) (pssv_cons (psv_set (pev_callD all.d_parts_of cz (pav_cons (pev_var 5) pav_nil)) (pgv_nm 6 cz.nd)) (pssv_cons (psv_if (ptv_cmp o_is (pev_var 6) pev_non) (pssv_cons (psv_ret pev_bl) pssv_nil) pssv_nil) (pssv_cons (psv_set (pev_bin o_add (pev_var 4) (pev_var 6)) (pgv_nm 4 cz.nd)) pssv_nil))) pssv_nil) pssv_nil)) (pssv_cons (psv_if (ptv_cmp (Cz.eq cz) (pev_var 4) (pev_lst pav_nil)) (pssv_cons (psv_ret pev_bl) pssv_nil) pssv_nil) (pssv_cons (psv_set (pev_var 4) (pgv_nm 2 cz.nd)) pssv_nil)))))) (pssv_cons (psv_ret pev_bl) pssv_nil)))
theorem sc__law_pen : FnScope ["script", "cell"] ["script"] (defScope s__law_pen) := ⟨rfl, rfl, rfl, by decide +kernel, rfl, by decide +kernel, by decide +kernel⟩
theorem dv__law_pen (gf : Gf mg) (all : All P w K mg base n) (f : Addr) : ∀ (cdv : Value) (A : Around) (outer : List Env) (s : Shared) (H : Hp) (E : XK), Cz (cxOf CX0 P w K mg base ["script", "cell"] "_law_pen" (defScope s__law_pen) f cdv A outer s H E).nox n →
    PSsv (cxOf CX0 P w K mg base ["script", "cell"] "_law_pen" (defScope s__law_pen) f cdv A outer s H E).nox (evCall T n) (defBody s__law_pen) b__law_pen := fun cdv A outer s H E cz =>
  (pssv_cons (psv_ret (pev_mlst (pav_cons (pev_comp cz [("cell", 1)] (pev_sl (pev_var 0) pov_none (pov_some pev_int)) (show blkC ["script", "cell"] (defScope s__law_pen) _ _ = true by decide +kernel) (fun _ _ _ _ _ => (pgv_nm 1 cz.nd)) (fun _ _ _ _ _ => ptcs_nil) (fun _ _ _ _ _ => (pev_fnT (f := .int) f_int gf.n_int bt_int (pev_var 1)))) (pav_cons pev_int (pav_cons pev_int pav_nil))))) pssv_nil)
theorem sc__law_draw : FnScope ["pen", "many", "left", "turn", "cell", "mixed"] ["pen", "many"] (defScope s__law_draw) := ⟨rfl, rfl, rfl, by decide +kernel, rfl, by decide +kernel, by decide +kernel⟩
theorem dv__law_draw (gf : Gf mg) (all : All P w K mg base n) (f : Addr) : ∀ (cdv : Value) (A : Around) (outer : List Env) (s : Shared) (H : Hp) (E : XK), Cz (cxOf CX0 P w K mg base ["pen", "many", "left", "turn", "cell", "mixed"] "_law_draw" (defScope s__law_draw) f cdv A outer s H E).nox n →
    PSsv (cxOf CX0 P w K mg base ["pen", "many", "left", "turn", "cell", "mixed"] "_law_draw" (defScope s__law_draw) f cdv A outer s H E).nox (evCall T n) (defBody s__law_draw) b__law_draw := fun cdv A outer s H E cz =>
  (pssv_cons (psv_if (ptv_cmp o_gt (pev_ix (pev_var 0) pev_int) pev_int) (pssv_cons (psv_set (pev_fnT (f := .int) f_int gf.n_int bt_int (pev_ix (pev_var 0) pev_int)) (pgv_nm 2 cz.nd)) (pssv_cons (psv_put (pev_bin o_fdiv (pev_var 2) (pev_var 1)) (pg_sub (pev_var 0) pev_int set_list)) (pssv_cons (psv_ret (pev_bin o_mod (pev_fnT (f := .int) f_int gf.n_int bt_int (pev_var 2)) (pev_var 1))) pssv_nil))) pssv_nil) (pssv_cons (psv_set (pev_ix (pev_var 0) pev_int) (pgv_nm 3 cz.nd)) (pssv_cons (psv_put (pev_bin o_add (pev_var 3) pev_int) (pg_sub (pev_var 0) pev_int set_list)) (pssv_cons (psv_set (pev_bin o_add (pev_bin o_mul pev_int (pev_var 3)) pev_int) (pgv_nm 4 cz.nd)) (pssv_cons (psv_if (ptv_cmp (Cz.ne cz) (pev_ix (pev_var 0) pev_int) (pev_lst pav_nil)) (pssv_cons (psv_set (pev_ix (pev_ix (pev_var 0) pev_int) (pev_bin o_mod (pev_fnT (f := .int) f_int gf.n_int bt_int (pev_var 3)) (pev_fnB (f := .len) f_len gf.n_len bt_len (pev_ix (pev_var 0) pev_int)))) (pgv_nm 4 cz.nd)) pssv_nil) pssv_nil) (pssv_cons (psv_if (ptv_w (pwv_and (ptv_cmp o_lt (pev_var 3) (pev_fnB (f := .len) f_len gf.n_len bt_len (pev_ix (pev_var 0) pev_int))) (pwv_and1 (ptv_cmp o_ge (pev_fnB (f := .abs) f_abs gf.n_abs bt_abs (pev_var 4)) (pev_bin o_pow pev_int pev_int))))) (pssv_cons (psv_set (pev_bin o_add (pev_bin o_mul pev_int (pev_bin o_sub (pev_fnB (f := .abs) f_abs gf.n_abs bt_abs (pev_fnT (f := .int) f_int gf.n_int bt_int (pev_var 4))) (pev_bin o_pow pev_int pev_int))) (pev_fnT (f := .int) f_int gf.n_int bt_int (pev_cmp o_lt (pev_var 4) pev_int))) (pgv_nm 2 cz.nd)) (pssv_cons (psv_put (pev_bin o_fdiv (pev_var 2) (pev_var 1)) (pg_sub (pev_var 0) pev_int set_list)) (pssv_cons (psv_ret (pev_bin o_mod (pev_fnT (f := .int) f_int gf.n_int bt_int (pev_var 2)) (pev_var 1))) pssv_nil))) pssv_nil) (pssv_cons (psv_set (pev_bin o_mod (pev_fnT (f := .int) f_int gf.n_int bt_int (pev_bin o_pow (pev_bin o_add (pev_bin o_add (pev_bin o_mod (pev_fnT (f := .int) f_int gf.n_int bt_int (pev_var 4)) pev_int) (pev_bin o_mul pev_int (pev_var 3))) pev_int) pev_int)) pev_int) (pgv_nm 5 cz.nd)) (pssv_cons (psv_set (pev_bin o_mod (pev_fnT (f := .int) f_int gf.n_int bt_int (pev_bin o_pow (pev_bin o_add (pev_bin o_add (pev_bin o_mul (pev_var 5) (pev_bin o_add (pev_bin o_mul pev_int (pev_var 3)) pev_int)) (pev_bin o_mul (pev_bin o_mul pev_int (pev_var 3)) (pev_var 3))) pev_int) pev_int)) pev_int) (pgv_nm 5 cz.nd)) (pssv_cons (psv_ret (pev_bin o_mod (pev_fnT (f := .int) f_int gf.n_int bt_int (pev_bin o_fdiv (pev_var 5) pev_int)) (pev_var 1))) pssv_nil)))))))))
theorem sc__law_pick : FnScope ["pen", "some"] ["pen", "some"] (defScope s__law_pick) := ⟨rfl, rfl, rfl, by decide +kernel, rfl, by decide +kernel, by decide +kernel⟩
theorem dv__law_pick (gf : Gf mg) (all : All P w K mg base n) (f : Addr) : ∀ (cdv : Value) (A : Around) (outer : List Env) (s : Shared) (H : Hp) (E : XK), Cz (cxOf CX0 P w K mg base ["pen", "some"] "_law_pick" (defScope s__law_pick) f cdv A outer s H E).nox n →
    PSsv (cxOf CX0 P w K mg base ["pen", "some"] "_law_pick" (defScope s__law_pick) f cdv A outer s H E).nox (evCall T n) (defBody s__law_pick) b__law_pick := fun cdv A outer s H E cz =>
  (pssv_cons (psv_ret (pev_ix (pev_var 1) (pev_callD all.d__law_draw cz (pav_cons (pev_var 0) (pav_cons (pev_fnB (f := .len) f_len gf.n_len bt_len (pev_var 1)) pav_nil))))) pssv_nil)
theorem sc__law_listed : FnScope ["value", "part"] ["value"] (defScope s__law_listed) := ⟨rfl, rfl, rfl, by decide +kernel, rfl, by decide +kernel, by decide +kernel⟩
theorem dv__law_listed (gf : Gf mg) (all : All P w K mg base n) (f : Addr) : ∀ (cdv : Value) (A : Around) (outer : List Env) (s : Shared) (H : Hp) (E : XK), Cz (cxOf CX0 P w K mg base ["value", "part"] "_law_listed" (defScope s__law_listed) f cdv A outer s H E).nox n →
    PSsv (cxOf CX0 P w K mg base ["value", "part"] "_law_listed" (defScope s__law_listed) f cdv A outer s H E).nox (evCall T n) (defBody s__law_listed) b__law_listed := fun cdv A outer s H E cz =>
  (pssv_cons (psv_ret (pev_ife (ptv_val (pev_isi2 .list .tuple (pev_var 0) gf.n_isinstance gf.n_list bt_list gf.n_tuple bt_tuple)) (pev_comp cz [("part", 1)] (pev_var 0) (show blkC ["value", "part"] (defScope s__law_listed) _ _ = true by decide +kernel) (fun _ _ _ _ _ => (pgv_nm 1 cz.nd)) (fun _ _ _ _ _ => ptcs_nil) (fun _ _ _ _ _ => (pev_callD all.d__law_listed ⟨cz.1, cz.2, cz.3, cz.4⟩ (pav_cons (pev_var 1) pav_nil)))) (pev_var 0))) pssv_nil)
theorem sc__law_is_word : FnScope ["value", "sign"] ["value"] (defScope s__law_is_word) := ⟨rfl, rfl, rfl, by decide +kernel, rfl, by decide +kernel, by decide +kernel⟩
theorem dv__law_is_word (gf : Gf mg) (all : All P w K mg base n) (f : Addr) : ∀ (cdv : Value) (A : Around) (outer : List Env) (s : Shared) (H : Hp) (E : XK), Cz (cxOf CX0 P w K mg base ["value", "sign"] "_law_is_word" (defScope s__law_is_word) f cdv A outer s H E).nox n →
    PSsv (cxOf CX0 P w K mg base ["value", "sign"] "_law_is_word" (defScope s__law_is_word) f cdv A outer s H E).nox (evCall T n) (defBody s__law_is_word) b__law_is_word := fun cdv A outer s H E cz =>
  (pssv_cons (psv_ret (pev_and (pev_isi1 .str (pev_var 0) gf.n_isinstance gf.n_str bt_str) (pev_and (pev_chain o_le o_le pev_int (pev_fnB (f := .len) f_len gf.n_len bt_len (pev_var 0)) pev_int) (pev_one (pev_cmp (Cz.eq cz) (pev_comp cz [("sign", 1)] (pev_var 0) (show blkC ["value", "sign"] (defScope s__law_is_word) _ _ = true by decide +kernel) (fun _ _ _ _ _ => (pgv_nm 1 cz.nd)) (fun _ _ _ _ _ => (ptcs_one (ptv_cmp (Cz.nin ⟨cz.1, cz.2, cz.3, cz.4⟩) (pev_var 1) pev_str))) (fun _ _ _ _ _ => (pev_var 1))) (pev_lst pav_nil)))))) pssv_nil)
theorem sc__law_size : FnScope ["value", "some", "one"] ["value"] (defScope s__law_size) := ⟨rfl, rfl, rfl, by decide +kernel, rfl, by decide +kernel, by decide +kernel⟩
theorem dv__law_size (gf : Gf mg) (all : All P w K mg base n) (f : Addr) : ∀ (cdv : Value) (A : Around) (outer : List Env) (s : Shared) (H : Hp) (E : XK), Cz (cxOf CX0 P w K mg base ["value", "some", "one"] "_law_size" (defScope s__law_size) f cdv A outer s H E).nox n →
    PSsv (cxOf CX0 P w K mg base ["value", "some", "one"] "_law_size" (defScope s__law_size) f cdv A outer s H E).nox (evCall T n) (defBody s__law_size) b__law_size := fun cdv A outer s H E cz =>
  (pssv_cons (psv_if (ptv_w (pwv_or (ptv_not (ptv_val (pev_isi2 .list .tuple (pev_var 0) gf.n_isinstance gf.n_list bt_list gf.n_tuple bt_tuple))) (pwv_or (ptv_cmp o_lt (pev_fnB (f := .len) f_len gf.n_len bt_len (pev_var 0)) pev_int) (pwv_or1 (ptv_not (ptv_val (pev_isi1 .str (pev_ix (pev_var 0) pev_int) gf.n_isinstance gf.n_str bt_str))))))) (pssv_cons (psv_ret pev_non) pssv_nil) pssv_nil) (pssv_cons (psv_if (ptv_cmp (Cz.isin cz) (pev_ix (pev_var 0) pev_int) (pev_tup (pav_cons pev_str (pav_cons pev_str pav_nil)))) (pssv_cons (psv_ret (pev_ife (ptv_w (pwv_and (ptv_cmp (Cz.eq cz) (pev_fnB (f := .len) f_len gf.n_len bt_len (pev_var 0)) pev_int) (pwv_and (ptv_val (pev_callD all.d__law_is_word cz (pav_cons (pev_ix (pev_var 0) pev_int) pav_nil))) (pwv_and1 (ptv_val (pev_callD all.d__law_is_word cz (pav_cons (pev_ix (pev_var 0) pev_int) pav_nil))))))) (pev_tup (pav_cons pev_int (pav_cons pev_int pav_nil))) pev_non)) pssv_nil) pssv_nil) (pssv_cons (psv_if (ptv_not (ptv_w (pwv_or (ptv_w (pwv_and (ptv_cmp (Cz.eq cz) (pev_ix (pev_var 0) pev_int) pev_str) (pwv_and1 (ptv_cmp (Cz.eq cz) (pev_fnB (f := .len) f_len gf.n_len bt_len (pev_var 0)) pev_int)))) (pwv_or1 (ptv_w (pwv_and (ptv_cmp (Cz.isin cz) (pev_ix (pev_var 0) pev_int) (pev_tup (pav_cons pev_str (pav_cons pev_str pav_nil)))) (pwv_and1 (ptv_cmp o_gt (pev_fnB (f := .len) f_len gf.n_len bt_len (pev_var 0)) pev_int)))))))) (pssv_cons (psv_ret pev_non) pssv_nil) pssv_nil) (pssv_cons (psv_setLc cz 1 [("one", 2)] (pev_sl (pev_var 0) (pov_some pev_int) pov_none) (show blkC ["value", "some", "one"] (defScope s__law_size) _ _ = true by decide +kernel) (fun _ _ _ _ _ => (pgv_nm 2 cz.nd)) (fun _ _ _ _ _ => ptcs_nil) (fun _ _ _ _ _ => (pev_callD all.d__law_size ⟨cz.1, cz.2, cz.3, cz.4⟩ (pav_cons (pev_var 2) pav_nil))) (sw_true rfl rfl rfl (by decide +kernel))) (pssv_cons (psv_ret (pev_ife (ptv_cmp (Cz.isin cz) pev_non (pev_var 1)) pev_non (pev_tup (pav_cons (pev_bin o_add pev_int (pev_fnB (f := .sum) (f_sum cz.calm) gf.n_sum bt_sum (pev_comp cz [("one", 2)] (pev_var 1) (show blkC ["value", "some", "one"] (defScope s__law_size) _ _ = true by decide +kernel) (fun _ _ _ _ _ => (pgv_nm 2 cz.nd)) (fun _ _ _ _ _ => ptcs_nil) (fun _ _ _ _ _ => (pev_ix (pev_var 2) pev_int))))) (pav_cons (pev_bin o_add pev_int (pev_fnB (f := .max) (f_max cz.calm) gf.n_max bt_max (pev_comp cz [("one", 2)] (pev_var 1) (show blkC ["value", "some", "one"] (defScope s__law_size) _ _ = true by decide +kernel) (fun _ _ _ _ _ => (pgv_nm 2 cz.nd)) (fun _ _ _ _ _ => ptcs_nil) (fun _ _ _ _ _ => (pev_ix (pev_var 2) pev_int))))) pav_nil))))) pssv_nil)))))
theorem sc__law_due : FnScope ["value", "size"] ["value"] (defScope s__law_due) := ⟨rfl, rfl, rfl, by decide +kernel, rfl, by decide +kernel, by decide +kernel⟩
theorem dv__law_due (gf : Gf mg) (all : All P w K mg base n) (f : Addr) : ∀ (cdv : Value) (A : Around) (outer : List Env) (s : Shared) (H : Hp) (E : XK), Cz (cxOf CX0 P w K mg base ["value", "size"] "_law_due" (defScope s__law_due) f cdv A outer s H E).nox n →
    PSsv (cxOf CX0 P w K mg base ["value", "size"] "_law_due" (defScope s__law_due) f cdv A outer s H E).nox (evCall T n) (defBody s__law_due) b__law_due := fun cdv A outer s H E cz =>
  (pssv_cons (psv_set (pev_callD all.d__law_size cz (pav_cons (pev_var 0) pav_nil)) (pgv_nm 1 cz.nd)) (pssv_cons (psv_ret (pev_and (pev_cmp o_nis (pev_var 1) pev_non) (pev_and (pev_cmp o_le (pev_ix (pev_var 1) pev_int) pev_int) (pev_one (pev_cmp o_le (pev_ix (pev_var 1) pev_int) pev_int))))) pssv_nil))
theorem sc__law_wild : FnScope ["pen", "deep", "way", "names", "turn"] ["pen", "deep"] (defScope s__law_wild) := ⟨rfl, rfl, rfl, by decide +kernel, rfl, by decide +kernel, by decide +kernel⟩
theorem dv__law_wild (gf : Gf mg) (all : All P w K mg base n) (f : Addr) : ∀ (cdv : Value) (A : Around) (outer : List Env) (s : Shared) (H : Hp) (E : XK), Cz (cxOf CX0 P w K mg base ["pen", "deep", "way", "names", "turn"] "_law_wild" (defScope s__law_wild) f cdv A outer s H E).nox n →
    PSsv (cxOf CX0 P w K mg base ["pen", "deep", "way", "names", "turn"] "_law_wild" (defScope s__law_wild) f cdv A outer s H E).nox (evCall T n) (defBody s__law_wild) b__law_wild := fun cdv A outer s H E cz =>
  (pssv_cons (psv_set (pev_ife (ptv_cmp o_gt (pev_var 1) pev_int) (pev_callD all.d__law_draw cz (pav_cons (pev_var 0) (pav_cons pev_int pav_nil))) pev_int) (pgv_nm 2 cz.nd)) (pssv_cons (psv_if (ptv_cmp o_lt (pev_var 2) pev_int) (pssv_cons (psv_set (pev_lst (pav_cons pev_str (pav_cons pev_str (pav_cons pev_str (pav_cons pev_str (pav_cons pev_str (pav_cons pev_str pav_nil))))))) (pgv_nm 3 cz.nd)) (pssv_cons (psv_ret (pev_tup (pav_cons (pev_callD all.d__law_pick cz (pav_cons (pev_var 0) (pav_cons (pev_lst (pav_cons pev_str (pav_cons pev_str pav_nil))) pav_nil))) (pav_cons (pev_callD all.d__law_pick cz (pav_cons (pev_var 0) (pav_cons (pev_var 3) pav_nil))) (pav_cons (pev_callD all.d__law_pick cz (pav_cons (pev_var 0) (pav_cons (pev_var 3) pav_nil))) pav_nil))))) pssv_nil)) pssv_nil) (pssv_cons (psv_if (ptv_cmp (Cz.eq cz) (pev_var 2) pev_int) (pssv_cons (psv_ret (pev_tup (pav_cons pev_str (pav_cons (pev_callD all.d__law_wild cz (pav_cons (pev_var 0) (pav_cons (pev_bin o_sub (pev_var 1) pev_int) pav_nil))) pav_nil)))) pssv_nil) pssv_nil) (pssv_cons (psv_ret (pev_fnT (f := .tuple) f_tuple gf.n_tuple bt_tuple (pev_bin o_add (pev_lst (pav_cons (pev_callD all.d__law_pick cz (pav_cons (pev_var 0) (pav_cons (pev_lst (pav_cons pev_str (pav_cons pev_str pav_nil))) pav_nil))) pav_nil)) (pev_rcomp cz [("turn", 4)] gf.n_range (pev_callD all.d__law_pick cz (pav_cons (pev_var 0) (pav_cons (pev_lst (pav_cons pev_int (pav_cons pev_int (pav_cons pev_int (pav_cons pev_int pav_nil))))) pav_nil))) (show blkC ["pen", "deep", "way", "names", "turn"] (defScope s__law_wild) _ _ = true by decide +kernel) (fun _ _ _ _ _ => (pgv_nm 4 cz.nd)) (fun _ _ _ _ _ => ptcs_nil) (fun _ _ _ _ _ => (pev_callD all.d__law_wild ⟨cz.1, cz.2, cz.3, cz.4⟩ (pav_cons (pev_var 0) (pav_cons (pev_bin o_sub (pev_var 1) pev_int) pav_nil)))))))) pssv_nil))))
theorem sc__law_bent : FnScope ["pen", "value", "at", "some"] ["pen", "value"] (defScope s__law_bent) := ⟨rfl, rfl, rfl, by decide +kernel, rfl, by decide +kernel, by decide +kernel⟩
theorem dv__law_bent (gf : Gf mg) (all : All P w K mg base n) (f : Addr) : ∀ (cdv : Value) (A : Around) (outer : List Env) (s : Shared) (H : Hp) (E : XK), Cz (cxOf CX0 P w K mg base ["pen", "value", "at", "some"] "_law_bent" (defScope s__law_bent) f cdv A outer s H E).nox n →
    PSsv (cxOf CX0 P w K mg base ["pen", "value", "at", "some"] "_law_bent" (defScope s__law_bent) f cdv A outer s H E).nox (evCall T n) (defBody s__law_bent) b__law_bent := fun cdv A outer s H E cz =>
  (pssv_cons (psv_if (ptv_w (pwv_and (ptv_val (pev_isi1 .tuple (pev_var 1) gf.n_isinstance gf.n_tuple bt_tuple)) (pwv_and (ptv_cmp o_gt (pev_fnB (f := .len) f_len gf.n_len bt_len (pev_var 1)) pev_int) (pwv_and1 (ptv_cmp o_gt (pev_callD all.d__law_draw cz (pav_cons (pev_var 0) (pav_cons pev_int pav_nil))) pev_int))))) (pssv_cons (psv_set (pev_callD all.d__law_draw cz (pav_cons (pev_var 0) (pav_cons (pev_fnB (f := .len) f_len gf.n_len bt_len (pev_var 1)) pav_nil))) (pgv_nm 2 cz.nd)) (pssv_cons (psv_ret (pev_bin o_add (pev_bin o_add (pev_sl (pev_var 1) pov_none (pov_some (pev_var 2))) (pev_tup (pav_cons (pev_callD all.d__law_bent cz (pav_cons (pev_var 0) (pav_cons (pev_ix (pev_var 1) (pev_var 2)) pav_nil))) pav_nil))) (pev_sl (pev_var 1) (pov_some (pev_bin o_add (pev_var 2) pev_int)) pov_none))) pssv_nil)) pssv_nil) (pssv_cons (psv_set (pev_lst (pav_cons pev_non (pav_cons pev_int (pav_cons pev_str (pav_cons pev_str (pav_cons pev_str (pav_cons pev_str (pav_cons pev_str (pav_cons pev_str (pav_cons (pev_lst pav_nil) (pav_cons (pev_tup pav_nil) (pav_cons (pev_tup (pav_cons pev_str (pav_cons pev_str pav_nil))) (pav_cons (pev_tup (pav_cons pev_str pav_nil)) (pav_cons (pev_tup (pav_cons pev_str (pav_cons (pev_tup (pav_cons pev_str (pav_cons pev_str (pav_cons pev_str pav_nil)))) pav_nil))) (pav_cons pev_bl (pav_cons pev_dnew pav_nil)))))))))))))))) (pgv_nm 3 cz.nd)) (pssv_cons (psv_ret (pev_callD all.d__law_pick cz (pav_cons (pev_var 0) (pav_cons (pev_bin o_add (pev_var 3) (pev_lst (pav_cons (pev_ife (ptv_val (pev_isi1 .tuple (pev_var 1) gf.n_isinstance gf.n_tuple bt_tuple)) (pev_fnT (f := .list) f_list gf.n_list bt_list (pev_var 1)) (pev_var 1)) (pav_cons (pev_var 1) pav_nil)))) pav_nil)))) pssv_nil)))
theorem sc_law : FnScope ["script", "pen", "turn", "value", "bent", "one", "atom", "deep", "wide"] ["script"] (defScope s_law) := ⟨rfl, rfl, rfl, by decide +kernel, rfl, by decide +kernel, by decide +kernel⟩
theorem dv_law (gf : Gf mg) (all : All P w K mg base n) (f : Addr) : ∀ (cdv : Value) (A : Around) (outer : List Env) (s : Shared) (H : Hp) (E : XK), Cz (cxOf CX0 P w K mg base ["script", "pen", "turn", "value", "bent", "one", "atom", "deep", "wide"] "law" (defScope s_law) f cdv A outer s H E).nox n →
    PSsv (cxOf CX0 P w K mg base ["script", "pen", "turn", "value", "bent", "one", "atom", "deep", "wide"] "law" (defScope s_law) f cdv A outer s H E).nox (evCall T n) (defBody s_law) b_law := fun cdv A outer s H E cz =>
  (pssv_cons (psv_set (pev_callD all.d__law_pen cz (pav_cons (pev_var 0) pav_nil)) (pgv_nm 1 cz.nd)) (pssv_cons (psv_range PassesOwn.never cz.calm gf.n_range pev_int (pgv_nm 2 cz.nd) (pssv_cons (psv_set (pev_callD all.d__law_wild cz (pav_cons (pev_var 1) (pav_cons (pev_bin o_add pev_int (pev_callD all.d__law_draw cz (pav_cons (pev_var 1) (pav_cons pev_int pav_nil)))) pav_nil))) (pgv_nm 3 cz.nd)) (pssv_cons (psv_set (pev_callD all.d__law_bent cz (pav_cons (pev_var 1) (pav_cons (pev_var 3) pav_nil))) (pgv_nm 4 cz.nd)) (pssv_cons (psv_for PassesOwn.never cz.calm (pev_tup (pav_cons (pev_var 3) (pav_cons (pev_callD all.d__law_listed cz (pav_cons (pev_var 3) pav_nil)) (pav_cons (pev_var 4) pav_nil)))) (pgv_nm 5 cz.nd) (pssv_cons (psv_if (ptv_cmp (Cz.ne cz) (pev_fnB (f := .repr) (f_repr cz) gf.n_repr bt_repr (pev_lst (pav_cons (pev_callD all.d_is_condition cz (pav_cons (pev_var 5) pav_nil)) (pav_cons (pev_callK all.d_is_condition cz (pkv_cons (pev_var 5) pkv_nil)) pav_nil)))) (pev_fnB (f := .repr) (f_repr cz) gf.n_repr bt_repr (pev_bin o_mul (pev_lst (pav_cons (pev_callD all.d__law_due cz (pav_cons (pev_var 5) pav_nil)) pav_nil)) pev_int))) (pssv_cons (psv_ret pev_bl) pssv_nil) pssv_nil) pssv_nil)) pssv_nil)))) (pssv_cons (psv_set (pev_tup (pav_cons (pev_tup (pav_cons pev_str (pav_cons pev_str (pav_cons pev_str pav_nil)))) (pav_cons (pev_tup (pav_cons pev_str (pav_cons pev_str (pav_cons pev_str pav_nil)))) pav_nil))) (pgv_tup cz.calm (pgsv_cons (pgv_nm 6 cz.nd) (pgsv_cons (pgv_nm 7 cz.nd) pgsv_nil)))) (pssv_cons (psv_range PassesOwn.never cz.calm gf.n_range pev_int (pgv_nm 2 cz.nd) (pssv_cons (psv_set (pev_tup (pav_cons pev_str (pav_cons (pev_var 7) pav_nil))) (pgv_nm 7 cz.nd)) pssv_nil)) (pssv_cons (psv_set (pev_fnT (f := .tuple) f_tuple gf.n_tuple bt_tuple (pev_bin o_add (pev_lst (pav_cons pev_str pav_nil)) (pev_bin o_mul (pev_lst (pav_cons (pev_var 6) pav_nil)) pev_int))) (pgv_nm 8 cz.nd)) (pssv_cons (psv_if (ptv_w (pwv_or (ptv_not (ptv_val (pev_callD all.d_is_condition cz (pav_cons (pev_var 7) pav_nil)))) (pwv_or (ptv_val (pev_callD all.d_is_condition cz (pav_cons (pev_tup (pav_cons pev_str (pav_cons (pev_var 7) pav_nil))) pav_nil))) (pwv_or (ptv_not (ptv_val (pev_callD all.d_is_condition cz (pav_cons (pev_var 8) pav_nil)))) (pwv_or (ptv_val (pev_callD all.d_is_condition cz (pav_cons (pev_bin o_add (pev_var 8) (pev_tup (pav_cons (pev_var 6) pav_nil))) pav_nil))) (pwv_or1 (ptv_val (pev_callD all.d_is_condition cz (pav_cons (pev_tup (pav_cons pev_str (pav_cons (pev_var 8) pav_nil))) pav_nil))))))))) (pssv_cons (psv_ret pev_bl) pssv_nil) pssv_nil) (pssv_cons (psv_ret (pev_cmp (Cz.eq cz) (pev_comp cz [("one", 5)] (pev_tup (pav_cons pev_non (pav_cons pev_int (pav_cons pev_str (pav_cons (pev_tup pav_nil) (pav_cons pev_dnew (pav_cons (pev_tup (pav_cons pev_str pav_nil)) (pav_cons (pev_lst (pav_cons pev_str (pav_cons pev_str (pav_cons pev_int pav_nil)))) (pav_cons (pev_tup (pav_cons pev_str (pav_cons pev_str (pav_cons pev_str (pav_cons pev_str pav_nil))))) pav_nil))))))))) (show blkC ["script", "pen", "turn", "value", "bent", "one", "atom", "deep", "wide"] (defScope s_law) _ _ = true by decide +kernel) (fun _ _ _ _ _ => (pgv_nm 5 cz.nd)) (fun _ _ _ _ _ => (ptcs_one (ptv_cmp o_nis (pev_callD all.d_is_condition ⟨cz.1, cz.2, cz.3, cz.4⟩ (pav_cons (pev_var 5) pav_nil)) pev_bl))) (fun _ _ _ _ _ => (pev_var 5))) (pev_lst pav_nil))) pssv_nil)))))))
abbrev FnP (K : PySem.W.Frag) (x : Str) (st : Stmt) (f : Addr) (fd : FuncData) : Prop := FunD K x x (defArgs st) (defBody st) (defScope st) [] [] f fd
/-- where each def stands -/
structure Ats (K : PySem.W.Frag) (mg : Str → Option Value) : Prop where
  a_is_name : ∃ f fd, mg "is_name" = some (.ref f) ∧ FnP K "is_name" s_is_name f fd
  a_is_listed : ∃ f fd, mg "is_listed" = some (.ref f) ∧ FnP K "is_listed" s_is_listed f fd
  a_is_row : ∃ f fd, mg "is_row" = some (.ref f) ∧ FnP K "is_row" s_is_row f fd
  a_is_atom : ∃ f fd, mg "is_atom" = some (.ref f) ∧ FnP K "is_atom" s_is_atom f fd
  a_parts_of : ∃ f fd, mg "parts_of" = some (.ref f) ∧ FnP K "parts_of" s_parts_of f fd
  a_is_condition : ∃ f fd, mg "is_condition" = some (.ref f) ∧ FnP K "is_condition" s_is_condition f fd
  a__law_pen : ∃ f fd, mg "_law_pen" = some (.ref f) ∧ FnP K "_law_pen" s__law_pen f fd
  a__law_draw : ∃ f fd, mg "_law_draw" = some (.ref f) ∧ FnP K "_law_draw" s__law_draw f fd
  a__law_pick : ∃ f fd, mg "_law_pick" = some (.ref f) ∧ FnP K "_law_pick" s__law_pick f fd
  a__law_listed : ∃ f fd, mg "_law_listed" = some (.ref f) ∧ FnP K "_law_listed" s__law_listed f fd
  a__law_is_word : ∃ f fd, mg "_law_is_word" = some (.ref f) ∧ FnP K "_law_is_word" s__law_is_word f fd
  a__law_size : ∃ f fd, mg "_law_size" = some (.ref f) ∧ FnP K "_law_size" s__law_size f fd
  a__law_due : ∃ f fd, mg "_law_due" = some (.ref f) ∧ FnP K "_law_due" s__law_due f fd
  a__law_wild : ∃ f fd, mg "_law_wild" = some (.ref f) ∧ FnP K "_law_wild" s__law_wild f fd
  a__law_bent : ∃ f fd, mg "_law_bent" = some (.ref f) ∧ FnP K "_law_bent" s__law_bent f fd
  a_law : ∃ f fd, mg "law" = some (.ref f) ∧ FnP K "law" s_law f fd
theorem at_is_name {f : Addr} {fd : FuncData} (hm : mg "is_name" = some (.ref f)) (F : FnP K "is_name" s_is_name f fd) : At K mg "is_name" ["value"] f fd := At.mk' F hm (fun _ _ _ _ _ _ us hl => match us, hl with | [_], _ => rfl) (fun _ _ _ _ _ _ us hl => match us, hl with | [_], _ => rfl)
theorem at_is_listed {f : Addr} {fd : FuncData} (hm : mg "is_listed" = some (.ref f)) (F : FnP K "is_listed" s_is_listed f fd) : At K mg "is_listed" ["value"] f fd := At.mk' F hm (fun _ _ _ _ _ _ us hl => match us, hl with | [_], _ => rfl) (fun _ _ _ _ _ _ us hl => match us, hl with | [_], _ => rfl)
theorem at_is_row {f : Addr} {fd : FuncData} (hm : mg "is_row" = some (.ref f)) (F : FnP K "is_row" s_is_row f fd) : At K mg "is_row" ["value", "least", "most"] f fd := At.mk' F hm (fun _ _ _ _ _ _ us hl => match us, hl with | [_, _, _], _ => rfl) (fun _ _ _ _ _ _ us hl => match us, hl with | [_, _, _], _ => rfl)
theorem at_is_atom {f : Addr} {fd : FuncData} (hm : mg "is_atom" = some (.ref f)) (F : FnP K "is_atom" s_is_atom f fd) : At K mg "is_atom" ["value"] f fd := At.mk' F hm (fun _ _ _ _ _ _ us hl => match us, hl with | [_], _ => rfl) (fun _ _ _ _ _ _ us hl => match us, hl with | [_], _ => rfl)
theorem at_parts_of {f : Addr} {fd : FuncData} (hm : mg "parts_of" = some (.ref f)) (F : FnP K "parts_of" s_parts_of f fd) : At K mg "parts_of" ["value"] f fd := At.mk' F hm (fun _ _ _ _ _ _ us hl => match us, hl with | [_], _ => rfl) (fun _ _ _ _ _ _ us hl => match us, hl with | [_], _ => rfl)
theorem at_is_condition {f : Addr} {fd : FuncData} (hm : mg "is_condition" = some (.ref f)) (F : FnP K "is_condition" s_is_condition f fd) : At K mg "is_condition" ["value"] f fd := At.mk' F hm (fun _ _ _ _ _ _ us hl => match us, hl with | [_], _ => rfl) (fun _ _ _ _ _ _ us hl => match us, hl with | [_], _ => rfl)
theorem at__law_pen {f : Addr} {fd : FuncData} (hm : mg "_law_pen" = some (.ref f)) (F : FnP K "_law_pen" s__law_pen f fd) : At K mg "_law_pen" ["script"] f fd := At.mk' F hm (fun _ _ _ _ _ _ us hl => match us, hl with | [_], _ => rfl) (fun _ _ _ _ _ _ us hl => match us, hl with | [_], _ => rfl)
theorem at__law_draw {f : Addr} {fd : FuncData} (hm : mg "_law_draw" = some (.ref f)) (F : FnP K "_law_draw" s__law_draw f fd) : At K mg "_law_draw" ["pen", "many"] f fd := At.mk' F hm (fun _ _ _ _ _ _ us hl => match us, hl with | [_, _], _ => rfl) (fun _ _ _ _ _ _ us hl => match us, hl with | [_, _], _ => rfl)
theorem at__law_pick {f : Addr} {fd : FuncData} (hm : mg "_law_pick" = some (.ref f)) (F : FnP K "_law_pick" s__law_pick f fd) : At K mg "_law_pick" ["pen", "some"] f fd := At.mk' F hm (fun _ _ _ _ _ _ us hl => match us, hl with | [_, _], _ => rfl) (fun _ _ _ _ _ _ us hl => match us, hl with | [_, _], _ => rfl)
theorem at__law_listed {f : Addr} {fd : FuncData} (hm : mg "_law_listed" = some (.ref f)) (F : FnP K "_law_listed" s__law_listed f fd) : At K mg "_law_listed" ["value"] f fd := At.mk' F hm (fun _ _ _ _ _ _ us hl => match us, hl with | [_], _ => rfl) (fun _ _ _ _ _ _ us hl => match us, hl with | [_], _ => rfl)
theorem at__law_is_word {f : Addr} {fd : FuncData} (hm : mg "_law_is_word" = some (.ref f)) (F : FnP K "_law_is_word" s__law_is_word f fd) : At K mg "_law_is_word" ["value"] f fd := At.mk' F hm (fun _ _ _ _ _ _ us hl => match us, hl with | [_], _ => rfl) (fun _ _ _ _ _ _ us hl => match us, hl with | [_], _ => rfl)
theorem at__law_size {f : Addr} {fd : FuncData} (hm : mg "_law_size" = some (.ref f)) (F : FnP K "_law_size" s__law_size f fd) : At K mg "_law_size" ["value"] f fd := At.mk' F hm (fun _ _ _ _ _ _ us hl => match us, hl with | [_], _ => rfl) (fun _ _ _ _ _ _ us hl => match us, hl with | [_], _ => rfl)
theorem at__law_due {f : Addr} {fd : FuncData} (hm : mg "_law_due" = some (.ref f)) (F : FnP K "_law_due" s__law_due f fd) : At K mg "_law_due" ["value"] f fd := At.mk' F hm (fun _ _ _ _ _ _ us hl => match us, hl with | [_], _ => rfl) (fun _ _ _ _ _ _ us hl => match us, hl with | [_], _ => rfl)
theorem at__law_wild {f : Addr} {fd : FuncData} (hm : mg "_law_wild" = some (.ref f)) (F : FnP K "_law_wild" s__law_wild f fd) : At K mg "_law_wild" ["pen", "deep"] f fd := At.mk' F hm (fun _ _ _ _ _ _ us hl => match us, hl with | [_, _], _ => rfl) (fun _ _ _ _ _ _ us hl => match us, hl with | [_, _], _ => rfl)
theorem at__law_bent {f : Addr} {fd : FuncData} (hm : mg "_law_bent" = some (.ref f)) (F : FnP K "_law_bent" s__law_bent f fd) : At K mg "_law_bent" ["pen", "value"] f fd := At.mk' F hm (fun _ _ _ _ _ _ us hl => match us, hl with | [_, _], _ => rfl) (fun _ _ _ _ _ _ us hl => match us, hl with | [_, _], _ => rfl)
theorem at_law {f : Addr} {fd : FuncData} (hm : mg "law" = some (.ref f)) (F : FnP K "law" s_law f fd) : At K mg "law" ["script"] f fd := At.mk' F hm (fun _ _ _ _ _ _ us hl => match us, hl with | [_], _ => rfl) (fun _ _ _ _ _ _ us hl => match us, hl with | [_], _ => rfl)
theorem all_ok (gf : Gf mg) (at_ : Ats K mg) : ∀ n, All P w K mg base n
  | 0 => ⟨(by obtain ⟨f, fd, hm, F⟩ := at_.a_is_name; exact DefOk.zero (at_is_name hm F)), (by obtain ⟨f, fd, hm, F⟩ := at_.a_is_listed; exact DefOk.zero (at_is_listed hm F)), (by obtain ⟨f, fd, hm, F⟩ := at_.a_is_row; exact DefOk.zero (at_is_row hm F)), (by obtain ⟨f, fd, hm, F⟩ := at_.a_is_atom; exact DefOk.zero (at_is_atom hm F)), (by obtain ⟨f, fd, hm, F⟩ := at_.a_parts_of; exact DefOk.zero (at_parts_of hm F)), (by obtain ⟨f, fd, hm, F⟩ := at_.a_is_condition; exact DefOk.zero (at_is_condition hm F)), (by obtain ⟨f, fd, hm, F⟩ := at_.a__law_pen; exact DefOk.zero (at__law_pen hm F)), (by obtain ⟨f, fd, hm, F⟩ := at_.a__law_draw; exact DefOk.zero (at__law_draw hm F)), (by obtain ⟨f, fd, hm, F⟩ := at_.a__law_pick; exact DefOk.zero (at__law_pick hm F)), (by obtain ⟨f, fd, hm, F⟩ := at_.a__law_listed; exact DefOk.zero (at__law_listed hm F)), (by obtain ⟨f, fd, hm, F⟩ := at_.a__law_is_word; exact DefOk.zero (at__law_is_word hm F)), (by obtain ⟨f, fd, hm, F⟩ := at_.a__law_size; exact DefOk.zero (at__law_size hm F)), (by obtain ⟨f, fd, hm, F⟩ := at_.a__law_due; exact DefOk.zero (at__law_due hm F)), (by obtain ⟨f, fd, hm, F⟩ := at_.a__law_wild; exact DefOk.zero (at__law_wild hm F)), (by obtain ⟨f, fd, hm, F⟩ := at_.a__law_bent; exact DefOk.zero (at__law_bent hm F)), (by obtain ⟨f, fd, hm, F⟩ := at_.a_law; exact DefOk.zero (at_law hm F))⟩
  | n + 1 => ⟨(by obtain ⟨f, fd, hm, F⟩ := at_.a_is_name; exact DefOk.succ (at_is_name hm F) F sc_is_name rfl (dv_is_name gf (all_ok gf at_ n) f)),
    (by obtain ⟨f, fd, hm, F⟩ := at_.a_is_listed; exact DefOk.succ (at_is_listed hm F) F sc_is_listed rfl (dv_is_listed gf (all_ok gf at_ n) f)),
    (by obtain ⟨f, fd, hm, F⟩ := at_.a_is_row; exact DefOk.succ (at_is_row hm F) F sc_is_row rfl (dv_is_row gf (all_ok gf at_ n) f)),
    (by obtain ⟨f, fd, hm, F⟩ := at_.a_is_atom; exact DefOk.succ (at_is_atom hm F) F sc_is_atom rfl (dv_is_atom gf (all_ok gf at_ n) f)),
    (by obtain ⟨f, fd, hm, F⟩ := at_.a_parts_of; exact DefOk.succ (at_parts_of hm F) F sc_parts_of rfl (dv_parts_of gf (all_ok gf at_ n) f)),
    (by obtain ⟨f, fd, hm, F⟩ := at_.a_is_condition; exact DefOk.succ (at_is_condition hm F) F sc_is_condition rfl (dv_is_condition gf (all_ok gf at_ n) f)),
    (by obtain ⟨f, fd, hm, F⟩ := at_.a__law_pen; exact DefOk.succ (at__law_pen hm F) F sc__law_pen rfl (dv__law_pen gf (all_ok gf at_ n) f)),
    (by obtain ⟨f, fd, hm, F⟩ := at_.a__law_draw; exact DefOk.succ (at__law_draw hm F) F sc__law_draw rfl (dv__law_draw gf (all_ok gf at_ n) f)),
    (by obtain ⟨f, fd, hm, F⟩ := at_.a__law_pick; exact DefOk.succ (at__law_pick hm F) F sc__law_pick rfl (dv__law_pick gf (all_ok gf at_ n) f)),
    (by obtain ⟨f, fd, hm, F⟩ := at_.a__law_listed; exact DefOk.succ (at__law_listed hm F) F sc__law_listed rfl (dv__law_listed gf (all_ok gf at_ n) f)),
    (by obtain ⟨f, fd, hm, F⟩ := at_.a__law_is_word; exact DefOk.succ (at__law_is_word hm F) F sc__law_is_word rfl (dv__law_is_word gf (all_ok gf at_ n) f)),
    (by obtain ⟨f, fd, hm, F⟩ := at_.a__law_size; exact DefOk.succ (at__law_size hm F) F sc__law_size rfl (dv__law_size gf (all_ok gf at_ n) f)),
    (by obtain ⟨f, fd, hm, F⟩ := at_.a__law_due; exact DefOk.succ (at__law_due hm F) F sc__law_due rfl (dv__law_due gf (all_ok gf at_ n) f)),
    (by obtain ⟨f, fd, hm, F⟩ := at_.a__law_wild; exact DefOk.succ (at__law_wild hm F) F sc__law_wild rfl (dv__law_wild gf (all_ok gf at_ n) f)),
    (by obtain ⟨f, fd, hm, F⟩ := at_.a__law_bent; exact DefOk.succ (at__law_bent hm F) F sc__law_bent rfl (dv__law_bent gf (all_ok gf at_ n) f)),
    (by obtain ⟨f, fd, hm, F⟩ := at_.a_law; exact DefOk.succ (at_law hm F) F sc_law rfl (dv_law gf (all_ok gf at_ n) f))⟩
end
/-! ### the head -/
def dd_is_name : He.DefD := ⟨("is_name", none), "is_name", "is_name", defArgs s_is_name, defBody s_is_name, defScope s_is_name, [], []⟩
def dd_is_listed : He.DefD := ⟨("is_listed", none), "is_listed", "is_listed", defArgs s_is_listed, defBody s_is_listed, defScope s_is_listed, [], []⟩
def dd_is_row : He.DefD := ⟨("is_row", none), "is_row", "is_row", defArgs s_is_row, defBody s_is_row, defScope s_is_row, [], []⟩
def dd_is_atom : He.DefD := ⟨("is_atom", none), "is_atom", "is_atom", defArgs s_is_atom, defBody s_is_atom, defScope s_is_atom, [], []⟩
def dd_parts_of : He.DefD := ⟨("parts_of", none), "parts_of", "parts_of", defArgs s_parts_of, defBody s_parts_of, defScope s_parts_of, [], []⟩
def dd_is_condition : He.DefD := ⟨("is_condition", none), "is_condition", "is_condition", defArgs s_is_condition, defBody s_is_condition, defScope s_is_condition, [], []⟩
def dd__law_pen : He.DefD := ⟨("_law_pen", none), "_law_pen", "_law_pen", defArgs s__law_pen, defBody s__law_pen, defScope s__law_pen, [], []⟩
def dd__law_draw : He.DefD := ⟨("_law_draw", none), "_law_draw", "_law_draw", defArgs s__law_draw, defBody s__law_draw, defScope s__law_draw, [], []⟩
def dd__law_pick : He.DefD := ⟨("_law_pick", none), "_law_pick", "_law_pick", defArgs s__law_pick, defBody s__law_pick, defScope s__law_pick, [], []⟩
def dd__law_listed : He.DefD := ⟨("_law_listed", none), "_law_listed", "_law_listed", defArgs s__law_listed, defBody s__law_listed, defScope s__law_listed, [], []⟩
def dd__law_is_word : He.DefD := ⟨("_law_is_word", none), "_law_is_word", "_law_is_word", defArgs s__law_is_word, defBody s__law_is_word, defScope s__law_is_word, [], []⟩
def dd__law_size : He.DefD := ⟨("_law_size", none), "_law_size", "_law_size", defArgs s__law_size, defBody s__law_size, defScope s__law_size, [], []⟩
def dd__law_due : He.DefD := ⟨("_law_due", none), "_law_due", "_law_due", defArgs s__law_due, defBody s__law_due, defScope s__law_due, [], []⟩
def dd__law_wild : He.DefD := ⟨("_law_wild", none), "_law_wild", "_law_wild", defArgs s__law_wild, defBody s__law_wild, defScope s__law_wild, [], []⟩
def dd__law_bent : He.DefD := ⟨("_law_bent", none), "_law_bent", "_law_bent", defArgs s__law_bent, defBody s__law_bent, defScope s__law_bent, [], []⟩
def dd_law : He.DefD := ⟨("law", none), "law", "law", defArgs s_law, defBody s_law, defScope s_law, [], []⟩
def fn : List He.DefD := [dd_is_name, dd_is_listed, dd_is_row, dd_is_atom, dd_parts_of, dd_is_condition, dd__law_pen, dd__law_draw, dd__law_pick, dd__law_listed, dd__law_is_word, dd__law_size, dd__law_due, dd__law_wild, dd__law_bent, dd_law]
def fa : List He.Fa := [.glo "is_name", .glo "is_listed", .glo "is_row", .glo "is_atom", .glo "parts_of", .glo "is_condition", .glo "_law_pen", .glo "_law_draw", .glo "_law_pick", .glo "_law_listed", .glo "_law_is_word", .glo "_law_size", .glo "_law_due", .glo "_law_wild", .glo "_law_bent", .glo "law", .free "abs", .free "all", .free "int", .free "isinstance", .free "len", .free "list", .free "max", .free "range", .free "repr", .free "str", .free "sum", .free "tuple", .str "AND" "and", .str "AT" "at", .str "LETTERS" "abcdefghijklmnopqrstuvwxyz", .int "MOST_DEEP" 6, .int "MOST_SIGNS" 8, .int "MOST_WORDS" 40, .str "NOT" "not", .str "OR" "or", .str "SIG" "sig"]
abbrev RowR : PySem.W.OpenRow := PySem.W.OpenLaw.row PySem.Challenge.rw_ownhearing_k01_forms_of_conditions
abbrev hk : PySem.W.Hook := He.hookD 4 fa fn
def ob (s : PySem.W.SharedT) : He.AlD := He.obsDG 4 fa fn (HandSHeadRun.getT s)
theorem ob_eq (s : PySem.W.SharedT) : ob s = hk.obs s.abs := He.obsDG_eq (HandSHeadRun.getT_eq s)
def loose : List Str := (["is_name", "is_listed", "is_row", "is_atom", "parts_of", "is_condition", "_law_pen", "_law_draw", "_law_pick", "_law_listed", "_law_is_word", "_law_size", "_law_due", "_law_wild", "_law_bent", "AND", "AT", "LETTERS", "MOST_DEEP", "MOST_SIGNS", "MOST_WORDS", "NOT", "OR", "SIG"] : List Str)
theorem run (w : World) : HandSHeadRun.RunEq RowR (PySem.W.view RowR.prog [27]) hk ob 6000 loose w := by
  intro os
  kernel_rfl
theorem facts_g {K : PySem.W.Frag} {h : Heap} {mg : Str → Option Value} (X : K.In h) (G : h.Ns mainGlobals mg) (c : He.SaysD fa fn K) : Gf mg :=
  ⟨He.free_ok X G (c.fact 16 rfl), He.free_ok X G (c.fact 17 rfl), He.free_ok X G (c.fact 18 rfl), He.free_ok X G (c.fact 19 rfl), He.free_ok X G (c.fact 20 rfl), He.free_ok X G (c.fact 21 rfl), He.free_ok X G (c.fact 22 rfl), He.free_ok X G (c.fact 23 rfl), He.free_ok X G (c.fact 24 rfl), He.free_ok X G (c.fact 25 rfl), He.free_ok X G (c.fact 26 rfl), He.free_ok X G (c.fact 27 rfl), He.str_ok X G (c.fact 28 rfl), He.str_ok X G (c.fact 29 rfl), He.str_ok X G (c.fact 30 rfl), He.int_ok X G (c.fact 31 rfl), He.int_ok X G (c.fact 32 rfl), He.int_ok X G (c.fact 33 rfl), He.str_ok X G (c.fact 34 rfl), He.str_ok X G (c.fact 35 rfl), He.str_ok X G (c.fact 36 rfl)⟩
theorem facts_a {K : PySem.W.Frag} {h : Heap} {mg : Str → Option Value} (X : K.In h) (G : h.Ns mainGlobals mg) (c : He.SaysD fa fn K) : Ats K mg :=
  ⟨(by obtain ⟨fd, F⟩ := c.def_ 0 (d := dd_is_name) rfl; exact ⟨_, fd, He.glo_ok X G (c.fact 0 (f := .glo "is_name") rfl), F⟩),
    (by obtain ⟨fd, F⟩ := c.def_ 1 (d := dd_is_listed) rfl; exact ⟨_, fd, He.glo_ok X G (c.fact 1 (f := .glo "is_listed") rfl), F⟩),
    (by obtain ⟨fd, F⟩ := c.def_ 2 (d := dd_is_row) rfl; exact ⟨_, fd, He.glo_ok X G (c.fact 2 (f := .glo "is_row") rfl), F⟩),
    (by obtain ⟨fd, F⟩ := c.def_ 3 (d := dd_is_atom) rfl; exact ⟨_, fd, He.glo_ok X G (c.fact 3 (f := .glo "is_atom") rfl), F⟩),
    (by obtain ⟨fd, F⟩ := c.def_ 4 (d := dd_parts_of) rfl; exact ⟨_, fd, He.glo_ok X G (c.fact 4 (f := .glo "parts_of") rfl), F⟩),
    (by obtain ⟨fd, F⟩ := c.def_ 5 (d := dd_is_condition) rfl; exact ⟨_, fd, He.glo_ok X G (c.fact 5 (f := .glo "is_condition") rfl), F⟩),
    (by obtain ⟨fd, F⟩ := c.def_ 6 (d := dd__law_pen) rfl; exact ⟨_, fd, He.glo_ok X G (c.fact 6 (f := .glo "_law_pen") rfl), F⟩),
    (by obtain ⟨fd, F⟩ := c.def_ 7 (d := dd__law_draw) rfl; exact ⟨_, fd, He.glo_ok X G (c.fact 7 (f := .glo "_law_draw") rfl), F⟩),
    (by obtain ⟨fd, F⟩ := c.def_ 8 (d := dd__law_pick) rfl; exact ⟨_, fd, He.glo_ok X G (c.fact 8 (f := .glo "_law_pick") rfl), F⟩),
    (by obtain ⟨fd, F⟩ := c.def_ 9 (d := dd__law_listed) rfl; exact ⟨_, fd, He.glo_ok X G (c.fact 9 (f := .glo "_law_listed") rfl), F⟩),
    (by obtain ⟨fd, F⟩ := c.def_ 10 (d := dd__law_is_word) rfl; exact ⟨_, fd, He.glo_ok X G (c.fact 10 (f := .glo "_law_is_word") rfl), F⟩),
    (by obtain ⟨fd, F⟩ := c.def_ 11 (d := dd__law_size) rfl; exact ⟨_, fd, He.glo_ok X G (c.fact 11 (f := .glo "_law_size") rfl), F⟩),
    (by obtain ⟨fd, F⟩ := c.def_ 12 (d := dd__law_due) rfl; exact ⟨_, fd, He.glo_ok X G (c.fact 12 (f := .glo "_law_due") rfl), F⟩),
    (by obtain ⟨fd, F⟩ := c.def_ 13 (d := dd__law_wild) rfl; exact ⟨_, fd, He.glo_ok X G (c.fact 13 (f := .glo "_law_wild") rfl), F⟩),
    (by obtain ⟨fd, F⟩ := c.def_ 14 (d := dd__law_bent) rfl; exact ⟨_, fd, He.glo_ok X G (c.fact 14 (f := .glo "_law_bent") rfl), F⟩),
    (by obtain ⟨fd, F⟩ := c.def_ 15 (d := dd_law) rfl; exact ⟨_, fd, He.glo_ok X G (c.fact 15 (f := .glo "law") rfl), F⟩)⟩
end Law
end
section
set_option Elab.async false
set_option autoImplicit false
set_option linter.all false
set_option maxRecDepth 100000
set_option maxHeartbeats 2000000
namespace Law
open PySem L2 Pv
theorem sl0 : 0 ≤ sizeLine := by decide
theorem sl1 : 1 ≤ sizeLine := by decide
theorem sl2 : 2 ≤ sizeLine := by decide
theorem sl3 : 3 ≤ sizeLine := by decide
theorem sl4 : 4 ≤ sizeLine := by decide
theorem sl5 : 5 ≤ sizeLine := by decide
theorem sl6 : 6 ≤ sizeLine := by decide
theorem sl7 : 7 ≤ sizeLine := by decide
theorem sl8 : 8 ≤ sizeLine := by decide
theorem sl9 : 9 ≤ sizeLine := by decide
theorem sl10 : 10 ≤ sizeLine := by decide
theorem sl11 : 11 ≤ sizeLine := by decide
theorem sl12 : 12 ≤ sizeLine := by decide
theorem sl13 : 13 ≤ sizeLine := by decide
theorem sl14 : 14 ≤ sizeLine := by decide
theorem sl15 : 15 ≤ sizeLine := by decide
theorem sl16 : 16 ≤ sizeLine := by decide
theorem sl17 : 17 ≤ sizeLine := by decide
theorem sl18 : 18 ≤ sizeLine := by decide
theorem sl19 : 19 ≤ sizeLine := by decide
local macro_rules | `(tactic| walk_at "pv") => `(tactic| simp [ess_cons, ess_nil, es_set, es_par, es_if, es_ret, es_retN, es_for, es_range, es_exp, es_put, ev_var, ev_lit, ev_bin, ev_cmp, ev_chain, ev_and, ev_or, ev_not, ev_neg, ev_ife, ev_tup, ev_lst, ev_mlst, ev_dnew, ev_ix, ev_sl, ev_call, ev_fn, ev_isi, evs_nil, evs_cons, evc_nil, evc_cons, evo_none, evo_some, go_next, go_ret, go_brk, go_cont, res_next, res_ret, turn_next, turn_cont, turn_brk, turn_ret, eqD_nil, eqD_intc, startE, bindT, bindTs,
  bin_add_int, bin_add_str, bin_add_tup, bin_add_lst, bin_sub_int, bin_mul_int, bin_mul_lst, bin_fdiv_int, bin_mod_int, bin_pow_int, fn_len_str, fn_len_tup, fn_len_lst, fn_int_int, fn_int_bl, fn_abs_int, fn_all_lst, fn_any_lst, fn_sum_lst, fn_max_lst, fn_list_lst, fn_list_tup, fn_tuple_lst, fn_tuple_tup,
  cm_lt, cm_le, cm_gt, cm_ge, cm_eq, cm_ne, cm_is, cm_nis, cm_in, cm_nin, eqD_int, eqS_int, Pv.ix_tup, Pv.ix_lst, ix_mrf, put_mrf, sl_tup', sl_lst', sl_rol', tr_bl, tr_int, tr_non, asI_int, lv_tup, lv_lst, lv_str, lv_int, lv_bl, lv_non, lv_dct, it_str, it_lst, it_tup, eqS_nil, isiOne, isiK, kdOf, wipeE, atI_0, atI_1, atI_2, ixN, must, sl0, sl1, sl2, sl3, sl4, sl5, sl6, sl7, sl8, sl9, sl10, sl11, sl12, sl13, sl14, sl15, sl16, sl17, sl18, sl19, *])

def okS (x : Str) : Prop := PyData.strOk x = true ∧ x.length ≤ 100
inductive Gd : Nat → D → Prop where
  | non {k} : Gd k .non
  | bl {k} (b : Bool) : Gd k (.bl b)
  | int {k} (i : Int) : Gd k (.int i)
  | str {k} {x : Str} (h : okS x) : Gd k (.str x)
  | dct {k} : Gd k (.dct [])
  | tup {k} {xs : List D} (hl : xs.length ≤ 100) (h : ∀ x ∈ xs, Gd k x) : Gd (k + 1) (.tup xs)
  | lst {k} {xs : List D} (hl : xs.length ≤ 100) (h : ∀ x ∈ xs, Gd k x) : Gd (k + 1) (.lst xs)
theorem Gd.up {k : Nat} {d : D} (h : Gd k d) : Gd (k + 1) d := by
  induction h with
  | non => exact .non
  | bl b => exact .bl b
  | int i => exact .int i
  | str h => exact .str h
  | dct => exact .dct
  | tup hl _ ih => exact .tup hl ih
  | lst hl _ ih => exact .lst hl ih
theorem Gd.mono {j k : Nat} {d : D} (h : Gd j d) (e : j ≤ k) : Gd k d := by
  induction k with
  | zero => cases Nat.le_zero.mp e; exact h
  | succ k ih =>
    by_cases q : j = k + 1
    · subst q; exact h
    · exact (ih (by omega)).up
def seqL : D → Option (List D)
  | .tup xs => some xs
  | .lst xs => some xs
  | _ => none
theorem is_listed_v (n : Nat) {k : Nat} {d : D} (st : Sto) (h : Gd k d) : evCall T (n + 1) 1 [d] st = .ok (.bl (seqL d).isSome) st := by
  rw [call_of (d := ⟨1, 1, b_is_listed⟩) rfl]
  unfold b_is_listed
  cases h <;> walk_at "pv" <;> rfl
theorem is_row_v (n : Nat) {k : Nat} {d : D} (lo hi : Int) (st : Sto) (h : Gd k d) : evCall T (n + 2) 2 [d, .int lo, .int hi] st = .ok (.bl ((seqL d).any fun xs => decide (lo ≤ xs.length) && decide ((xs.length : Int) ≤ hi))) st := by
  rw [call_of (d := ⟨3, 3, b_is_row⟩) rfl]
  unfold b_is_row
  have hl := is_listed_v n st h
  have key : ∀ xs : List D, (d = .tup xs ∨ d = .lst xs) → resOf (evSs (evCall T (n + 1)) b_is_row (startE 3 [d, .int lo, .int hi]) st) = .ok (.bl (decide (lo ≤ xs.length) && decide ((xs.length : Int) ≤ hi))) st := by
    intro xs hx
    unfold b_is_row
    by_cases q : lo ≤ (xs.length : Int)
    · rcases hx with rfl | rfl <;> (simp only [seqL, Option.isSome] at hl; walk_at "pv")
    · rcases hx with rfl | rfl <;> (simp only [seqL, Option.isSome] at hl; walk_at "pv")
  cases h with
  | tup => exact key _ (.inl rfl)
  | lst => exact key _ (.inr rfl)
  | _ => simp only [seqL, Option.isSome] at hl; walk_at "pv"; rfl
/-! ### names -/
def letters : Str := "abcdefghijklmnopqrstuvwxyz"
def isLet (c : Nat) : Bool := decide (c ∈ letters.cps.toList)
def nm : D → Bool
  | .str x => decide (1 ≤ (x.length : Int)) && decide ((x.length : Int) ≤ 8) && (x.cps.toList.map isLet).all id
  | _ => false
theorem bools_map {α : Type} (f : α → Bool) : ∀ l : List α, bools? (l.map fun c => D.bl (f c)) = some (l.map f)
  | [] => rfl
  | c :: l => by
    show (bools? (l.map fun c => D.bl (f c))).map (f c :: ·) = _
    rw [bools_map f l]
    rfl
theorem sz {n : Nat} (h : n ≤ 100) : n ≤ sizeLine := Nat.le_trans h (by decide)
theorem is_name_v (n : Nat) {k : Nat} {d : D} (st : Sto) (h : Gd k d) : evCall T (n + 1) 0 [d] st = .ok (.bl (nm d)) st := by
  rw [call_of (d := ⟨1, 2, b_is_name⟩) rfl]
  unfold b_is_name
  cases h with
  | str hx =>
    rename_i x
    have hz : x.length ≤ sizeLine := sz hx.2
    have hcl : x.cps.toList.length = x.length := by rw [Array.length_toList]; rfl
    have hc : evX (evCall T n) (.comp [1] (.nm 1) (.var 0) [] (.cmp .isin (.var 1) (.lit (.str letters)))) [some (D.str x), none] st = .ok (.lst ((x.cps.toList.map fun c => D.str ⟨#[c]⟩).map fun d => match d with | .str a => .bl ((inS a letters).getD false) | _ => .non)) st := by
      refine comp_map _ (by walk_at "pv") (it_str x st) (fun d hd => ?_) (by rw [List.length_map, hcl]; exact hz)
      obtain ⟨c, _, rfl⟩ := List.mem_map.mp hd
      refine ⟨_, rfl, ?_⟩
      walk_at "pv"
      rfl
    have hm : ((x.cps.toList.map fun c => D.str ⟨#[c]⟩).map fun d => match d with | .str a => D.bl ((inS a letters).getD false) | _ => .non) = x.cps.toList.map fun c => .bl (isLet c) := by
      rw [List.map_map]
      rfl
    rw [hm] at hc
    have hb := bools_map isLet x.cps.toList
    rw [show nm (.str x) = (decide (1 ≤ (x.length : Int)) && decide ((x.length : Int) ≤ 8) && (x.cps.toList.map isLet).all id) from rfl]
    generalize x.cps.toList.map (fun c => D.bl (isLet c)) = l1 at hc hb
    generalize x.cps.toList.map isLet = l2 at hb ⊢
    unfold letters at hc
    by_cases q1 : 1 ≤ (x.length : Int)
    · by_cases q2 : (x.length : Int) ≤ 8
      · walk_at "pv"
      · walk_at "pv"
    · walk_at "pv"
  | _ => walk_at "pv" <;> rfl
/-! ### the other word -/
theorem filt_empty : ∀ l : List Nat, ((((l.map fun c => D.str ⟨#[c]⟩).filter fun d => match d with | .str a => !((inS a letters).getD false) | _ => false).map fun d => d).isEmpty) = (l.map isLet).all id
  | [] => rfl
  | c :: l => by
    have ih := filt_empty l
    have e : (inS ⟨#[c]⟩ letters).getD false = isLet c := rfl
    rw [List.map_cons, List.map_cons, List.all_cons]
    cases q : isLet c with
    | true =>
      rw [List.filter_cons_of_neg (by show ¬ (!((inS ⟨#[c]⟩ letters).getD false)) = true; rw [e, q]; decide), ih]
      rfl
    | false =>
      rw [List.filter_cons_of_pos (by show (!((inS ⟨#[c]⟩ letters).getD false)) = true; rw [e, q]; decide)]
      rfl
theorem is_word_v (n : Nat) {k : Nat} {d : D} (st : Sto) (h : Gd k d) : evCall T (n + 1) 10 [d] st = .ok (.bl (nm d)) st := by
  rw [call_of (d := ⟨1, 2, b__law_is_word⟩) rfl]
  unfold b__law_is_word
  cases h with
  | str hx =>
    rename_i x
    have hz : x.length ≤ sizeLine := sz hx.2
    have hcl : x.cps.toList.length = x.length := by rw [Array.length_toList]; rfl
    have hc : evX (evCall T n) (.comp [1] (.nm 1) (.var 0) [.cmp .nin (.var 1) (.lit (.str letters))] (.var 1)) [some (D.str x), none] st = .ok (.lst ((((x.cps.toList.map fun c => D.str ⟨#[c]⟩).filter fun d => match d with | .str a => !((inS a letters).getD false) | _ => false).map fun d => d))) st := by
      refine comp_filter _ _ (by walk_at "pv") (it_str x st) (fun d hd => ?_) (by rw [List.length_map, hcl]; exact hz)
      obtain ⟨c, _, rfl⟩ := List.mem_map.mp hd
      refine ⟨_, rfl, ?_, fun _ => ?_⟩
      · walk_at "pv"
        rfl
      · walk_at "pv"
    have he := filt_empty x.cps.toList
    rw [show nm (.str x) = (decide (1 ≤ (x.length : Int)) && decide ((x.length : Int) ≤ 8) && (x.cps.toList.map isLet).all id) from rfl, ← he]
    generalize ((((x.cps.toList.map fun c => D.str ⟨#[c]⟩).filter fun d => match d with | .str a => !((inS a letters).getD false) | _ => false).map fun d => d)) = l1 at hc ⊢
    unfold letters at hc
    by_cases q1 : 1 ≤ (x.length : Int)
    · by_cases q2 : (x.length : Int) ≤ 8
      · walk_at "pv"
      · walk_at "pv"
    · walk_at "pv"
  | _ => walk_at "pv" <;> rfl
/-! ### atoms, parts -/
def isAt (s : Str) : Bool := ("at" : Str) == s || ("sig" : Str) == s
def isAO (s : Str) : Bool := ("and" : Str) == s || ("or" : Str) == s
def isNot (s : Str) : Bool := s == ("not" : Str)
theorem in_at (st : Sto) (s : Str) : inD st (.str s) (.tup [.str "at", .str "sig"]) = some (isAt s) := by
  show some (inV (.str s) [.str "at", .str "sig"]) = _
  unfold inV isAt
  rw [List.any_cons, List.any_cons, List.any_nil, Bool.or_false]
  rfl
theorem in_ao (st : Sto) (s : Str) : inD st (.str s) (.tup [.str "and", .str "or"]) = some (isAO s) := by
  show some (inV (.str s) [.str "and", .str "or"]) = _
  unfold inV isAO
  rw [List.any_cons, List.any_cons, List.any_nil, Bool.or_false]
  rfl
theorem eq_not (st : Sto) {s : Str} (h : okS s) : eqS st (.str s) (.str "not") = some (isNot s) := eqS_of (eqD_str h.1 (by decide +kernel))
def atomB (d : D) : Bool := match seqL d with
  | some [.str s, b, c] => isAt s && (nm b && nm c)
  | _ => false
theorem seq_gd {k : Nat} {d : D} {xs : List D} (h : Gd (k + 1) d) (e : d = .tup xs ∨ d = .lst xs) : xs.length ≤ 100 ∧ ∀ x ∈ xs, Gd k x := by
  cases h with
  | tup hl h => rcases e with e | e <;> cases e; exact ⟨hl, h⟩
  | lst hl h => rcases e with e | e <;> cases e; exact ⟨hl, h⟩
  | _ => rcases e with e | e <;> cases e
theorem is_atom_v (n : Nat) {k : Nat} {d : D} (st : Sto) (h : Gd k d) : evCall T (n + 3) 3 [d] st = .ok (.bl (atomB d)) st := by
  rw [call_of (d := ⟨1, 1, b_is_atom⟩) rfl]
  have hr := is_row_v n 3 3 st h
  have key : ∀ (j : Nat) (xs : List D), k = j + 1 → (d = .tup xs ∨ d = .lst xs) → resOf (evSs (evCall T (n + 2)) b_is_atom (startE 1 [d]) st) = .ok (.bl (atomB d)) st := by
    intro j xs hj hx
    subst hj
    obtain ⟨hl, hk⟩ := seq_gd h hx
    have hs : seqL d = some xs := by rcases hx with rfl | rfl <;> rfl
    unfold b_is_atom
    unfold atomB
    rw [hs] at hr ⊢
    match xs, hk with
    | [], _ => rcases hx with rfl | rfl <;> (simp at hr; walk_at "pv")
    | [_], _ => rcases hx with rfl | rfl <;> (simp at hr; walk_at "pv")
    | [_, _], _ => rcases hx with rfl | rfl <;> (simp at hr; walk_at "pv")
    | a :: b :: c :: e :: r, _ =>
      replace hr : evCall T (n + 2) 2 [d, .int 3, .int 3] st = .ok (.bl false) st := by
        rw [hr]
        have : ¬ (((a :: b :: c :: e :: r).length : Int) ≤ 3) := by simp only [List.length_cons]; omega
        show R.ok (D.bl (decide _ && decide _)) st = _
        rw [decide_eq_false this, Bool.and_false]
      rcases hx with rfl | rfl <;> (cases a <;> walk_at "pv")
    | [a, b, c], hk =>
      have hb := is_name_v (n + 1) st (hk b (by simp))
      have hc := is_name_v (n + 1) st (hk c (by simp))
      have ha := hk a (by simp)
      cases ha with
      | @str _ x hs =>
        have hi := in_at st x
        cases q1 : isAt x <;> cases q2 : nm b <;> (rw [q1] at hi; rw [q2] at hb; rcases hx with rfl | rfl <;> (simp at hr; walk_at "pv"))
      | _ => rcases hx with rfl | rfl <;> (simp at hr; walk_at "pv")
  cases h with
  | tup hl h => exact key _ _ rfl (.inl rfl)
  | lst hl h => exact key _ _ rfl (.inr rfl)
  | _ => unfold b_is_atom; simp [seqL] at hr; walk_at "pv"; rfl
def partsO (d : D) : Option (List D) := match seqL d with
  | some (.str s :: a :: r) => if isNot s then (if r.isEmpty then some [a] else none) else if isAO s && !r.isEmpty then some (a :: r) else none
  | _ => none
def partsD : Option (List D) → D
  | none => .non
  | some xs => .lst xs
theorem cut1 {α : Type} (a : α) (r : List α) : cutD (a :: r) (some 1) none = r := by
  show ((a :: r).drop (HT.sIx (a :: r).length 0 (some 1))).take (HT.sIx (a :: r).length (a :: r).length none - HT.sIx (a :: r).length 0 (some 1)) = r
  have e : HT.sIx (a :: r).length 0 (some 1) = 1 := by
    show min (1 : Int).toNat (a :: r).length = 1
    rw [List.length_cons]
    show min 1 (r.length + 1) = 1
    omega
  rw [e]
  show ((a :: r).drop 1).take ((a :: r).length - 1) = r
  rw [List.drop_one, List.tail_cons, List.length_cons, Nat.add_sub_cancel, List.take_length]
theorem parts_v (n : Nat) {k : Nat} {d : D} (st : Sto) (h : Gd k d) : evCall T (n + 2) 4 [d] st = .ok (partsD (partsO d)) st := by
  rw [call_of (d := ⟨1, 1, b_parts_of⟩) rfl]
  have hr := is_listed_v n st h
  have key : ∀ (j : Nat) (xs : List D), k = j + 1 → (d = .tup xs ∨ d = .lst xs) → resOf (evSs (evCall T (n + 1)) b_parts_of (startE 1 [d]) st) = .ok (partsD (partsO d)) st := by
    intro j xs hj hx
    subst hj
    obtain ⟨hl, hk⟩ := seq_gd h hx
    have hs : seqL d = some xs := by rcases hx with rfl | rfl <;> rfl
    unfold b_parts_of
    unfold partsO
    rw [hs] at hr ⊢
    simp only [Option.isSome] at hr
    match xs, hk with
    | [], _ => rcases hx with rfl | rfl <;> (walk_at "pv"; try rfl)
    | [_], _ => rcases hx with rfl | rfl <;> (walk_at "pv"; try rfl)
    | [a, b], hk =>
      have hcut := cut1 a [b]
      have ha := hk a (by simp)
      cases ha with
      | @str _ x hs' =>
        have he := eq_not st hs'
        have hi := in_ao st x
        cases q1 : isNot x <;> cases q2 : isAO x <;> (rw [q1] at he; rw [q2] at hi; rcases hx with rfl | rfl <;> (walk_at "pv"; try rfl))
      | _ => rcases hx with rfl | rfl <;> (walk_at "pv"; try rfl)
    | a :: b :: c :: r, hk =>
      have hl1 : ¬ ((r.length : Int) + 1 + 1 + 1 < 2) := by omega
      have hl2 : ¬ ((r.length : Int) + 1 + 1 + 1 = 2) := by omega
      have hl3 : 2 < (r.length : Int) + 1 + 1 + 1 := by omega
      have hcut := cut1 a (b :: c :: r)
      have ha := hk a (by simp)
      cases ha with
      | @str _ x hs' =>
        have he := eq_not st hs'
        have hi := in_ao st x
        cases q1 : isNot x <;> cases q2 : isAO x <;> (rw [q1] at he; rw [q2] at hi; rcases hx with rfl | rfl <;> (walk_at "pv"; try rfl))
      | _ => rcases hx with rfl | rfl <;> (walk_at "pv"; try rfl)
  cases h with
  | tup hl h => exact key _ _ rfl (.inl rfl)
  | lst hl h => exact key _ _ rfl (.inr rfl)
  | _ => unfold b_parts_of; simp [seqL] at hr; walk_at "pv"; rfl
end Law
end
section
set_option Elab.async false
set_option autoImplicit false
set_option linter.all false
set_option maxRecDepth 100000
set_option maxHeartbeats 2000000
namespace Law
open PySem L2 Pv
local macro_rules | `(tactic| walk_at "pv") => `(tactic| simp [ess_cons, ess_nil, es_set, es_par, es_if, es_ret, es_retN, es_for, es_range, es_exp, es_put, ev_var, ev_lit, ev_bin, ev_cmp, ev_chain, ev_and, ev_or, ev_not, ev_neg, ev_ife, ev_tup, ev_lst, ev_mlst, ev_dnew, ev_ix, ev_sl, ev_call, ev_fn, ev_isi, evs_nil, evs_cons, evc_nil, evc_cons, evo_none, evo_some, go_next, go_ret, go_brk, go_cont, res_next, res_ret, turn_next, turn_cont, turn_brk, turn_ret, eqD_nil, eqD_intc, startE, bindT, bindTs,
  bin_add_int, bin_add_str, bin_add_tup, bin_add_lst, bin_sub_int, bin_mul_int, bin_mul_lst, bin_fdiv_int, bin_mod_int, bin_pow_int, fn_len_str, fn_len_tup, fn_len_lst, fn_int_int, fn_int_bl, fn_abs_int, fn_all_lst, fn_any_lst, fn_sum_lst, fn_max_lst, fn_list_lst, fn_list_tup, fn_tuple_lst, fn_tuple_tup,
  cm_lt, cm_le, cm_gt, cm_ge, cm_eq, cm_ne, cm_is, cm_nis, cm_in, cm_nin, eqD_int, eqS_int, Pv.ix_tup, Pv.ix_lst, ix_mrf, put_mrf, sl_tup', sl_lst', sl_rol', tr_bl, tr_int, tr_non, asI_int, lv_tup, lv_lst, lv_str, lv_int, lv_bl, lv_non, lv_dct, it_str, it_lst, it_tup, eqS_nil, isiOne, isiK, kdOf, wipeE, atI_0, atI_1, atI_2, ixN, must, sl0, sl1, sl2, sl3, sl4, sl5, sl6, sl7, sl8, sl9, sl10, sl11, sl12, sl13, sl14, sl15, sl16, sl17, sl18, sl19, *])

/-! ### is_condition -/
def cls (d : D) : Option (List D) := if atomB d then some [] else partsO d
theorem seq_of_gd {k : Nat} {d : D} (h : Gd k d) {xs : List D} (e : seqL d = some xs) : ∃ j, k = j + 1 ∧ xs.length ≤ 100 ∧ ∀ x ∈ xs, Gd j x := by
  cases h with
  | tup hl h => cases e; exact ⟨_, rfl, hl, h⟩
  | lst hl h => cases e; exact ⟨_, rfl, hl, h⟩
  | _ => cases e
theorem parts_gd {k : Nat} {d : D} (h : Gd k d) {ps : List D} (e : partsO d = some ps) : ∃ j, k = j + 1 ∧ ps.length ≤ 100 ∧ ∀ x ∈ ps, Gd j x := by
  unfold partsO at e
  cases q : seqL d with
  | none => rw [q] at e; cases e
  | some xs =>
    obtain ⟨j, hj, hl, hx⟩ := seq_of_gd h q
    rw [q] at e
    refine ⟨j, hj, ?_⟩
    match xs, hl, hx, e with
    | .str s :: a :: r, hl, hx, e =>
      simp only at e
      have hr : ps = a :: r := by
        split at e
        · split at e
          · rename_i h1
            cases r with
            | nil => cases e; rfl
            | cons => cases h1
          · cases e
        · split at e
          · cases e; rfl
          · cases e
      subst hr
      exact ⟨by simp only [List.length_cons] at hl ⊢; omega, fun x m => hx x (List.mem_cons_of_mem _ m)⟩
    | [], _, _, e => cases e
    | [.str _], _, _, e => cases e
theorem cls_gd {k : Nat} {d : D} (h : Gd k d) {ps : List D} (e : cls d = some ps) : ps.length ≤ 100 ∧ ∀ x ∈ ps, Gd k x := by
  unfold cls at e
  split at e
  · cases e; exact ⟨by decide, fun _ m => (List.not_mem_nil m).elim⟩
  · obtain ⟨j, rfl, hl, hx⟩ := parts_gd h e
    exact ⟨hl, fun x m => (hx x m).up⟩
def kidsL : List D → Option (List D)
  | [] => some []
  | d :: r => match cls d, kidsL r with
    | some a, some b => some (a ++ b)
    | _, _ => none
theorem kids_gd {k : Nat} : ∀ {line ks : List D}, (∀ d ∈ line, Gd k d) → kidsL line = some ks → ks.length ≤ 100 * line.length ∧ ∀ x ∈ ks, Gd k x
  | [], ks, _, e => by cases e; exact ⟨by decide, fun _ m => (List.not_mem_nil m).elim⟩
  | d :: r, ks, h, e => by
    unfold kidsL at e
    split at e
    · rename_i a b ea eb
      cases e
      obtain ⟨h1, h2⟩ := cls_gd (h d List.mem_cons_self) ea
      obtain ⟨h3, h4⟩ := kids_gd (fun x m => h x (List.mem_cons_of_mem _ m)) eb
      refine ⟨by rw [List.length_append, List.length_cons]; omega, fun x m => ?_⟩
      rcases List.mem_append.mp m with m | m
      · exact h2 x m
      · exact h4 x m
    · cases e
def bfs : Nat → Nat → List D → Bool
  | 0, _, _ => false
  | k + 1, m, line => if 40 < m + line.length then false else match kidsL line with
    | none => false
    | some ks => if ks.isEmpty then true else bfs k (m + line.length) ks
def bIn : List S := [.if (.not (.call 3 [.var 5])) [.set (.nm 6) (.call 4 [.var 5]), .if (.cmp .is (.var 6) (.lit .non)) [.ret (.lit (.bl false))] [], .set (.nm 4) (.bin .add (.var 4) (.var 6))] []]
theorem in_atom (n : Nat) {k : Nat} {d : D} (st : Sto) (x0 x1 x2 x3 x4 x6 : Option D) (hd : Gd k d) (qa : atomB d = true) : evSs (evCall T (n + 3)) bIn [x0, x1, x2, x3, x4, some d, x6] st = .ok (.next [x0, x1, x2, x3, x4, some d, x6]) st := by
  have h1 := is_atom_v n st hd
  rw [qa] at h1
  unfold bIn
  walk_at "pv"
theorem in_bad (n : Nat) {k : Nat} {d : D} (st : Sto) (x0 x1 x2 x3 x4 x6 : Option D) (hd : Gd k d) (qa : atomB d = false) (qp : partsO d = none) : evSs (evCall T (n + 3)) bIn [x0, x1, x2, x3, x4, some d, x6] st = .ok (.ret (.bl false)) st := by
  have h1 := is_atom_v n st hd
  have h2 := parts_v (n + 1) st hd
  rw [qa] at h1
  rw [qp] at h2
  simp only [partsD] at h2
  have hi : isD .non .non = some true := rfl
  unfold bIn
  walk_at "pv"
theorem in_some (n : Nat) {k : Nat} {d : D} (st : Sto) (x0 x1 x2 x3 x6 : Option D) (acc ps : List D) (hd : Gd k d) (qa : atomB d = false) (qp : partsO d = some ps) (hz : acc.length + ps.length ≤ sizeLine) : evSs (evCall T (n + 3)) bIn [x0, x1, x2, x3, some (.lst acc), some d, x6] st = .ok (.next [x0, x1, x2, x3, some (.lst (acc ++ ps)), some d, some (.lst ps)]) st := by
  have h1 := is_atom_v n st hd
  have h2 := parts_v (n + 1) st hd
  rw [qa] at h1
  rw [qp] at h2
  simp only [partsD] at h2
  have hi : isD (.lst ps) .non = some false := rfl
  unfold bIn
  walk_at "pv"
theorem inner_v (n : Nat) {k : Nat} (st : Sto) (x0 x1 x2 x3 : Option D) : ∀ (line acc : List D) (x5 x6 : Option D), (∀ d ∈ line, Gd k d) → acc.length + 100 * line.length ≤ sizeLine →
    ∃ x5' x6', forR (.nm 5) (fun env st => evSs (evCall T (n + 3)) bIn env st) [x0, x1, x2, x3, some (.lst acc), x5, x6] line st =
      match kidsL line with
      | none => .ok (.ret (.bl false)) st
      | some ks => .ok (.next [x0, x1, x2, x3, some (.lst (acc ++ ks)), x5', x6']) st
  | [], acc, x5, x6, _, _ => ⟨x5, x6, by rw [forR_nil]; simp [kidsL]⟩
  | d :: r, acc, x5, x6, h, hl => by
    have hd := h d List.mem_cons_self
    have hr : ∀ x ∈ r, Gd k x := fun x m => h x (List.mem_cons_of_mem _ m)
    simp only [List.length_cons] at hl
    cases qa : atomB d with
    | true =>
      obtain ⟨y5, y6, e⟩ := inner_v n st x0 x1 x2 x3 r acc (some d) x6 hr (by omega)
      refine ⟨y5, y6, ?_⟩
      have hc : cls d = some [] := by unfold cls; rw [qa]; rfl
      have : kidsL (d :: r) = kidsL r := by
        rw [kidsL, hc]
        cases kidsL r <;> rfl
      rw [this, ← e, forR_cons]
      show (evSs (evCall T (n + 3)) bIn [x0, x1, x2, x3, some (.lst acc), some d, x6] st).bind _ = _
      rw [in_atom n st x0 x1 x2 x3 _ x6 hd qa]
      rfl
    | false =>
      have hc : cls d = partsO d := by unfold cls; rw [qa]; rfl
      cases qp : partsO d with
      | none =>
        refine ⟨none, none, ?_⟩
        rw [kidsL, hc, qp, forR_cons]
        show (evSs (evCall T (n + 3)) bIn [x0, x1, x2, x3, some (.lst acc), some d, x6] st).bind _ = _
        rw [in_bad n st x0 x1 x2 x3 _ x6 hd qa qp]
        rfl
      | some ps =>
        obtain ⟨hp, _⟩ := cls_gd hd (hc.trans qp)
        obtain ⟨y5, y6, e⟩ := inner_v n st x0 x1 x2 x3 r (acc ++ ps) (some d) (some (.lst ps)) hr (by rw [List.length_append]; omega)
        refine ⟨y5, y6, ?_⟩
        have hz : acc.length + ps.length ≤ sizeLine := by omega
        have e2 : kidsL (d :: r) = (kidsL r).map (ps ++ ·) := by
          rw [kidsL, hc, qp]
          cases kidsL r <;> rfl
        rw [e2]
        have e3 : (match (kidsL r).map (ps ++ ·) with
          | none => .ok (.ret (.bl false)) st
          | some ks => .ok (.next [x0, x1, x2, x3, some (.lst (acc ++ ks)), y5, y6]) st : R Fl) = match kidsL r with
          | none => .ok (.ret (.bl false)) st
          | some ks => .ok (.next [x0, x1, x2, x3, some (.lst (acc ++ ps ++ ks)), y5, y6]) st := by
          cases kidsL r with
          | none => rfl
          | some ks => simp only [Option.map, List.append_assoc]
        rw [e3, ← e, forR_cons]
        show (evSs (evCall T (n + 3)) bIn [x0, x1, x2, x3, some (.lst acc), some d, x6] st).bind _ = _
        rw [in_some n st x0 x1 x2 x3 x6 acc ps hd qa qp hz]
        rfl
def bOut : List S := [.par 1 4 (.bin .add (.var 1) (.fn .len (.var 2))) (.lst []), .if (.cmp .gt (.var 1) (.lit (.int 40))) [.ret (.lit (.bl false))] [], .for (.nm 5) (.var 2) bIn, .if (.cmp .eq (.var 4) (.lst [])) [.ret (.lit (.bl true))] [], .set (.nm 2) (.var 4)]
theorem outer_v (n : Nat) {k : Nat} (st : Sto) (x0 : Option D) : ∀ (ds : List D) (m : Nat) (line : List D) (x3 x4 x5 x6 : Option D), (∀ d ∈ line, Gd k d) →
    (forR (.nm 3) (fun env st => evSs (evCall T (n + 3)) bOut env st) [x0, some (.int m), some (.lst line), x3, x4, x5, x6] ds st).bind (fun f st => goOn (evCall T (n + 3)) [.ret (.lit (.bl false))] f st) = .ok (.ret (.bl (bfs ds.length m line))) st
  | [], m, line, x3, x4, x5, x6, _ => by
    rw [forR_nil]
    walk_at "pv"
    rfl
  | d :: r, m, line, x3, x4, x5, x6, h => by
    rw [forR_cons]
    rw [List.length_cons, bfs]
    show ((evSs (evCall T (n + 3)) bOut [x0, some (.int m), some (.lst line), some d, x4, x5, x6] st).bind _).bind _ = _
    by_cases q : 40 < m + line.length
    · have q' : (40 : Int) < (m : Int) + (line.length : Int) := by omega
      have e : evSs (evCall T (n + 3)) bOut [x0, some (.int m), some (.lst line), some d, x4, x5, x6] st = .ok (.ret (.bl false)) st := by
        unfold bOut
        walk_at "pv"
      rw [if_pos q, e]
      rfl
    · have q' : ¬ (40 : Int) < (m : Int) + (line.length : Int) := by omega
      rw [if_neg q]
      obtain ⟨y5, y6, e⟩ := inner_v n st x0 (some (.int ((m : Int) + (line.length : Int)))) (some (.lst line)) (some d) line [] x5 x6 h (by
        have : (4000 : Nat) ≤ sizeLine := by decide
        rw [List.length_nil]; omega)
      cases qk : kidsL line with
      | none =>
        rw [qk] at e
        simp only at e
        have e : evSs (evCall T (n + 3)) bOut [x0, some (.int m), some (.lst line), some d, x4, x5, x6] st = .ok (.ret (.bl false)) st := by
          unfold bOut
          walk_at "pv"
        rw [e]
        rfl
      | some ks =>
        rw [qk] at e
        simp only [List.nil_append] at e
        have hk := (kids_gd h qk).2
        have hn := eqS_nil st ks
        cases qe : ks.isEmpty with
        | true =>
          rw [qe] at hn
          have e : evSs (evCall T (n + 3)) bOut [x0, some (.int m), some (.lst line), some d, x4, x5, x6] st = .ok (.ret (.bl true)) st := by
            unfold bOut
            simp only [List.isEmpty_iff] at qe
            subst qe
            walk_at "pv"
          rw [e]
          show _ = R.ok (Fl.ret (D.bl (if ks.isEmpty = true then true else _))) st
          rw [qe]
          rfl
        | false =>
          rw [qe] at hn
          have ih := outer_v n st x0 r (m + line.length) ks (some d) (some (.lst ks)) y5 y6 hk
          have e : evSs (evCall T (n + 3)) bOut [x0, some (.int m), some (.lst line), some d, x4, x5, x6] st = .ok (.next [x0, some (.int ((m : Int) + (line.length : Int))), some (.lst ks), some d, some (.lst ks), y5, y6]) st := by
            unfold bOut
            have qe' : ks ≠ [] := fun e => by subst e; cases qe
            walk_at "pv"
          rw [e]
          show _ = R.ok (Fl.ret (D.bl (if ks.isEmpty = true then true else _))) st
          rw [qe, if_neg (by decide), ← ih, show (((m + line.length : Nat) : Int)) = (m : Int) + (line.length : Int) by omega]
          rfl
theorem b_is_condition_e : b_is_condition = [.par 1 2 (.lit (.int 0)) (.lst [.var 0]), .range (.nm 3) (.lit (.int 6)) bOut, .ret (.lit (.bl false))] := rfl
theorem is_condition_v (n : Nat) {k : Nat} {d : D} (st : Sto) (h : Gd k d) : evCall T (n + 4) 5 [d] st = .ok (.bl (bfs 6 0 [d])) st := by
  rw [call_of (d := ⟨1, 7, b_is_condition⟩) rfl, b_is_condition_e, if_pos (by rfl)]
  have e := outer_v n st (some d) (rangeD 6) 0 [d] none none none none (fun x m => by cases List.mem_singleton.mp m; exact h)
  rw [show (rangeD 6).length = 6 from rfl] at e
  have e1 : evS (evCall T (n + 3)) (.par 1 2 (.lit (.int 0)) (.lst [.var 0])) (startE 7 [d]) st = .ok (.next [some d, some (.int 0), some (.lst [d]), none, none, none, none]) st := by
    walk_at "pv"
  have e2 : ∀ env, evS (evCall T (n + 3)) (.range (.nm 3) (.lit (.int 6)) bOut) env st = forR (.nm 3) (fun env st => evSs (evCall T (n + 3)) bOut env st) env (rangeD 6) st := by
    intro env
    rw [es_range, ev_lit]
    rfl
  rw [ess_cons, e1]
  show resOf (evSs (evCall T (n + 3)) [.range (.nm 3) (.lit (.int 6)) bOut, .ret (.lit (.bl false))] _ st) = _
  rw [ess_cons, e2]
  show resOf ((forR (.nm 3) (fun env st => evSs (evCall T (n + 3)) bOut env st) _ _ st).bind (fun f st => goOn (evCall T (n + 3)) [.ret (.lit (.bl false))] f st)) = _
  rw [show (some (D.int 0)) = some (D.int ((0 : Nat) : Int)) from rfl, e]
  rfl
end Law
end
section
set_option Elab.async false
set_option autoImplicit false
set_option linter.all false
set_option maxRecDepth 100000
set_option maxHeartbeats 2000000
namespace Law
open PySem L2 Pv
local macro_rules | `(tactic| walk_at "pv") => `(tactic| simp [ess_cons, ess_nil, es_set, es_par, es_if, es_ret, es_retN, es_for, es_range, es_exp, es_put, ev_var, ev_lit, ev_bin, ev_cmp, ev_chain, ev_and, ev_or, ev_not, ev_neg, ev_ife, ev_tup, ev_lst, ev_mlst, ev_dnew, ev_ix, ev_sl, ev_call, ev_fn, ev_isi, evs_nil, evs_cons, evc_nil, evc_cons, evo_none, evo_some, go_next, go_ret, go_brk, go_cont, res_next, res_ret, turn_next, turn_cont, turn_brk, turn_ret, eqD_nil, eqD_intc, startE, bindT, bindTs,
  bin_add_int, bin_add_str, bin_add_tup, bin_add_lst, bin_sub_int, bin_mul_int, bin_mul_lst, bin_fdiv_int, bin_mod_int, bin_pow_int, fn_len_str, fn_len_tup, fn_len_lst, fn_int_int, fn_int_bl, fn_abs_int, fn_all_lst, fn_any_lst, fn_sum_lst, fn_max_lst, fn_list_lst, fn_list_tup, fn_tuple_lst, fn_tuple_tup,
  cm_lt, cm_le, cm_gt, cm_ge, cm_eq, cm_ne, cm_is, cm_nis, cm_in, cm_nin, eqD_int, eqS_int, Pv.ix_tup, Pv.ix_lst, ix_mrf, put_mrf, sl_tup', sl_lst', sl_rol', tr_bl, tr_int, tr_non, asI_int, lv_tup, lv_lst, lv_str, lv_int, lv_bl, lv_non, lv_dct, it_str, it_lst, it_tup, eqS_nil, isiOne, isiK, kdOf, wipeE, atI_0, atI_1, atI_2, ixN, must, sl0, sl1, sl2, sl3, sl4, sl5, sl6, sl7, sl8, sl9, sl10, sl11, sl12, sl13, sl14, sl15, sl16, sl17, sl18, sl19, *])

/-! ### sizes -/
abbrev Sz := Option (Nat × Nat)
def comb : Sz → Sz → Sz
  | some (a, b), some (c, d) => some (a + c, max b d)
  | _, _ => none
def szs : List Sz → Sz
  | [] => some (0, 0)
  | x :: r => comb x (szs r)
theorem comb_assoc (x y z : Sz) : comb (comb x y) z = comb x (comb y z) := by
  rcases x with _ | ⟨a, b⟩ <;> rcases y with _ | ⟨c, d⟩ <;> rcases z with _ | ⟨e, f⟩ <;> simp [comb, Nat.add_assoc, Nat.max_assoc]
theorem comb_zero (x : Sz) : comb (some (0, 0)) x = x := by
  rcases x with _ | ⟨a, b⟩ <;> simp [comb]
theorem szs_app : ∀ xs ys : List Sz, szs (xs ++ ys) = comb (szs xs) (szs ys)
  | [], ys => (comb_zero _).symm
  | x :: xs, ys => by
    show comb x (szs (xs ++ ys)) = comb (comb x (szs xs)) (szs ys)
    rw [szs_app xs ys, comb_assoc]
def up1 : Sz → Sz := Option.map fun p => (1 + p.1, 1 + p.2)
def sizeK : Nat → D → Sz
  | 0, _ => none
  | k + 1, d => if atomB d then some (1, 1) else match partsO d with
    | none => none
    | some ps => up1 (szs (ps.map (sizeK k)))
theorem no_parts {d : D} (h : Gd 0 d) : atomB d = false ∧ partsO d = none := by
  cases h <;> exact ⟨rfl, rfl⟩
theorem size_up : ∀ (k : Nat) {d : D}, Gd k d → sizeK (k + 1) d = sizeK k d
  | 0, d, h => by
    obtain ⟨h1, h2⟩ := no_parts h
    rw [sizeK, sizeK, h1, h2]
    rfl
  | k + 1, d, h => by
    rw [sizeK, sizeK]
    cases q : partsO d with
    | none => rfl
    | some ps =>
      obtain ⟨j, hj, _, hx⟩ := parts_gd h q
      cases hj
      have e : ps.map (sizeK (k + 1)) = ps.map (sizeK k) := List.map_congr_left fun x m => size_up k (hx x m)
      simp only [e]
theorem size_cls {K : Nat} {d : D} (h : Gd K d) : sizeK K d = match cls d with
    | none => none
    | some ks => up1 (szs (ks.map (sizeK K))) := by
  unfold cls
  cases K with
  | zero =>
    obtain ⟨h1, h2⟩ := no_parts h
    rw [h1, h2]
    rfl
  | succ k =>
    rw [sizeK]
    cases qa : atomB d with
    | true => rfl
    | false =>
      simp only [Bool.false_eq_true, if_false]
      cases q : partsO d with
      | none => rfl
      | some ps =>
        obtain ⟨j, hj, _, hx⟩ := parts_gd h q
        cases hj
        have e : ps.map (sizeK (k + 1)) = ps.map (sizeK k) := List.map_congr_left fun x m => size_up k (hx x m)
        simp only [e]
theorem size_line {K : Nat} : ∀ {line : List D}, (∀ d ∈ line, Gd K d) → line ≠ [] → szs (line.map (sizeK K)) = match kidsL line with
    | none => none
    | some ks => (szs (ks.map (sizeK K))).map fun p => (line.length + p.1, 1 + p.2)
  | [], _, h => absurd rfl h
  | d :: r, h, _ => by
    rw [List.map_cons, szs, size_cls (h d List.mem_cons_self), kidsL]
    cases hc : cls d with
    | none => rfl
    | some a =>
      cases r with
      | nil =>
        simp only [kidsL, List.map_nil, szs, List.append_nil, List.length_cons, List.length_nil]
        rcases szs (a.map (sizeK K)) with _ | ⟨p, q⟩ <;> simp [comb, up1]
      | cons e r =>
        have ih := size_line (line := e :: r) (fun x m => h x (List.mem_cons_of_mem _ m)) (by simp)
        rw [ih]
        cases hk : kidsL (e :: r) with
        | none => simp only; rcases szs (a.map (sizeK K)) with _ | ⟨p, q⟩ <;> rfl
        | some b =>
          simp only [List.map_append, szs_app]
          rcases szs (a.map (sizeK K)) with _ | ⟨p, q⟩ <;> rcases szs (b.map (sizeK K)) with _ | ⟨p', q'⟩ <;> simp [comb, up1]
          try omega
def within (m k : Nat) : Sz → Bool
  | none => false
  | some (a, b) => decide (m + a ≤ 40) && decide (b ≤ k)
theorem bfs_spec {K : Nat} : ∀ (k m : Nat) (line : List D), (∀ d ∈ line, Gd K d) → line ≠ [] → bfs k m line = within m k (szs (line.map (sizeK K)))
  | 0, m, line, h, hn => by
    rw [size_line h hn]
    cases kidsL line with
    | none => rfl
    | some ks =>
      simp only
      rcases szs (ks.map (sizeK K)) with _ | ⟨p, q⟩
      · rfl
      · simp [bfs, within]
        try omega
  | k + 1, m, line, h, hn => by
    rw [size_line h hn, bfs]
    cases hk : kidsL line with
    | none => split <;> rfl
    | some ks =>
      have hg := (kids_gd h hk).2
      simp only
      cases ks with
      | nil =>
        show (if 40 < m + line.length then false else true) = (decide (m + (line.length + 0) ≤ 40) && decide (1 + 0 ≤ k + 1))
        rw [decide_eq_true (show 1 + 0 ≤ k + 1 by omega), Bool.and_true]
        by_cases h1 : 40 < m + line.length
        · rw [if_pos h1, decide_eq_false (by omega)]
        · rw [if_neg h1, decide_eq_true (by omega)]
      | cons c r =>
        have ih := bfs_spec k (m + line.length) (c :: r) hg (by simp)
        rw [ih]
        rcases szs ((c :: r).map (sizeK K)) with _ | ⟨p, q⟩
        · simp [within]
        · simp only [within, Option.map, List.isEmpty]
          by_cases h1 : 40 < m + line.length
          · rw [if_pos h1]
            have : ¬ (m + (line.length + p) ≤ 40) := by omega
            rw [decide_eq_false this]
            rfl
          · rw [if_neg h1, if_neg (by decide)]
            have e1 : (m + line.length + p ≤ 40) = (m + (line.length + p) ≤ 40) := by rw [Nat.add_assoc]
            have e2 : (1 + q ≤ k + 1) = (q ≤ k) := by apply propext; omega
            simp only [e1, e2]
def dueB (K : Nat) (d : D) : Bool := within 0 6 (sizeK K d)
theorem is_condition_due (n : Nat) {K : Nat} {d : D} (st : Sto) (h : Gd K d) : evCall T (n + 4) 5 [d] st = .ok (.bl (dueB K d)) st := by
  rw [is_condition_v n st h, bfs_spec 6 0 [d] (fun x m => by cases List.mem_singleton.mp m; exact h) (by simp)]
  have : szs ([d].map (sizeK K)) = sizeK K d := by
    rw [List.map_cons, List.map_nil, szs, szs]
    rcases sizeK K d with _ | ⟨a, b⟩ <;> simp [comb]
  rw [this]
  rfl
/-! ### the other reading -/
def szD : Sz → D
  | none => .non
  | some (a, b) => .tup [.int (a : Nat), .int (b : Nat)]
def szP : Sz → PyData
  | none => .none
  | some (a, b) => .tuple [.int (a : Nat), .int (b : Nat)]
theorem toPs_sz : ∀ c : List Sz, toPs (c.map szD) = some (c.map szP)
  | [] => rfl
  | i :: c => by
    show (match toP (szD i), toPs (c.map szD) with | some p, some ps => some (p :: ps) | _, _ => none) = _
    rw [toPs_sz c]
    rcases i with _ | ⟨a, b⟩ <;> rfl
theorem shaped_sz (c : List Sz) : SeqAt.shaped (.list (c.map szP)) = true := by
  have h1 : ∀ c : List Sz, PyData.canLayAll0 (c.map szP) = true := by
    intro c
    induction c with
    | nil => rfl
    | cons i c ih =>
      rcases i with _ | ⟨a, b⟩ <;> simp [szP, PyData.canLayAll0, PyData.canLay0, ih]
  have h2 : ∀ c : List Sz, PyData.depthAll (c.map szP) ≤ 1 := by
    intro c
    induction c with
    | nil => decide
    | cons i c ih =>
      rcases i with _ | ⟨a, b⟩
      · simp only [List.map_cons, szP, PyData.depthAll, PyData.depth]; omega
      · simp only [List.map_cons, szP, PyData.depthAll, PyData.depth]; omega
  have h3 := h2 c
  unfold SeqAt.shaped
  simp only [PyData.canLay0, PyData.depth, h1]
  simp
  omega
theorem none_in (st : Sto) (c : List Sz) : inD st .non (.lst (c.map szD)) = some (c.any Option.isNone) := by
  show (match toP .non, toPs (c.map szD) with
      | some p, some qs => if SeqAt.shaped p = true ∧ SeqAt.shaped (.list qs) = true then some (qs.any fun z => PyData.eqv z p) else none
      | _, _ => none) = _
  rw [toPs_sz]
  show (if SeqAt.shaped PyData.none = true ∧ SeqAt.shaped (.list (c.map szP)) = true then some ((c.map szP).any fun z => PyData.eqv z PyData.none) else none) = _
  rw [if_pos ⟨by decide, shaped_sz c⟩]
  congr 1
  induction c with
  | nil => rfl
  | cons i c ih =>
    rw [List.map_cons, List.any_cons, List.any_cons, ih]
    rcases i with _ | ⟨a, b⟩ <;> rfl
theorem all_some : ∀ c : List Sz, c.any Option.isNone = false → ∃ q : List (Nat × Nat), c = q.map some
  | [], _ => ⟨[], rfl⟩
  | x :: c, h => by
    rw [List.any_cons, Bool.or_eq_false_iff] at h
    obtain ⟨q, rfl⟩ := all_some c h.2
    rcases x with _ | p
    · cases h.1
    · exact ⟨p :: q, rfl⟩
theorem szs_none : ∀ c : List Sz, c.any Option.isNone = true → szs c = none
  | [], h => by cases h
  | x :: c, h => by
    rw [List.any_cons, Bool.or_eq_true] at h
    rw [szs]
    rcases h with h | h
    · rcases x with _ | p
      · rfl
      · cases h
    · rw [szs_none c h]
      rcases x with _ | p <;> rfl
theorem ints_map : ∀ l : List Nat, ints? (l.map fun a => D.int (a : Nat)) = some (l.map fun a => ((a : Nat) : Int))
  | [] => rfl
  | a :: l => by
    show (ints? (l.map fun a => D.int (a : Nat))).map (((a : Nat) : Int) :: ·) = _
    rw [ints_map l]
    rfl
theorem fold_max : ∀ (l : List Nat) (b : Nat), (l.map fun a => ((a : Nat) : Int)).foldl max (b : Int) = ((l.foldl max b : Nat) : Int)
  | [], b => rfl
  | a :: l, b => by
    rw [List.map_cons, List.foldl_cons, List.foldl_cons]
    have : max (b : Int) (a : Int) = ((max b a : Nat) : Int) := by omega
    rw [this, fold_max l]
theorem sum_cast : ∀ l : List Nat, (l.map fun a => ((a : Nat) : Int)).sum = ((l.sum : Nat) : Int)
  | [] => rfl
  | a :: l => by
    rw [List.map_cons, List.sum_cons, List.sum_cons, sum_cast l]
    omega
theorem fold_foldr : ∀ (l : List Nat) (b : Nat), l.foldl max b = max b (l.foldr max 0)
  | [], b => by simp
  | a :: l, b => by
    rw [List.foldl_cons, List.foldr_cons, fold_foldr l]
    omega
theorem szs_some : ∀ q : List (Nat × Nat), szs (q.map some) = some ((q.map (·.1)).sum, (q.map (·.2)).foldr max 0)
  | [] => rfl
  | p :: q => by
    rw [List.map_cons, szs, szs_some q]
    rfl
def ix0 : D → D
  | .tup (x :: _) => x
  | _ => .non
def ix1 : D → D
  | .tup (_ :: x :: _) => x
  | _ => .non
theorem at_excl {s : Str} (h : isAt s = true) : isNot s = false ∧ isAO s = false := by
  unfold isAt at h
  rw [Bool.or_eq_true] at h
  rcases h with h | h
  · have e : ("at" : Str) = s := by simpa using h
    subst e; decide +kernel
  · have e : ("sig" : Str) = s := by simpa using h
    subst e; decide +kernel
theorem not_excl {s : Str} (h : isNot s = true) : isAO s = false := by
  unfold isNot at h
  have e : s = ("not" : Str) := by simpa using h
  subst e; decide +kernel
def reseq : D → List D → D
  | .tup _, ys => .tup ys
  | _, ys => .lst ys
/-- what follows once the parts are measured -/
def bSzT : List S := [.set (.nm 1) (.comp [2] (.nm 2) (.sl (.var 0) (some (.lit (.int 1))) none) [] (.call 11 [.var 2])), .ret (.ife (.cmp .isin (.lit .non) (.var 1)) (.lit .non) (.tup [.bin .add (.lit (.int 1)) (.fn .sum (.comp [2] (.nm 2) (.var 1) [] (.ix (.var 2) (.lit (.int 0))))), .bin .add (.lit (.int 1)) (.fn .max (.comp [2] (.nm 2) (.var 1) [] (.ix (.var 2) (.lit (.int 1)))))]))]
theorem sum_v (call : Nat → List D → Sto → R D) (st : Sto) (x0 x2 : Option D) (q : List (Nat × Nat)) (hl : q.length ≤ 100) :
    evX call (.fn .sum (.comp [2] (.nm 2) (.var 1) [] (.ix (.var 2) (.lit (.int 0))))) [x0, some (.lst ((q.map some).map szD)), x2] st = .ok (.int (((q.map (·.1)).sum : Nat) : Int)) st := by
  have hc : evX call (.comp [2] (.nm 2) (.var 1) [] (.ix (.var 2) (.lit (.int 0)))) [x0, some (.lst ((q.map some).map szD)), x2] st = .ok (.lst (((q.map some).map szD).map ix0)) st := by
    refine comp_map _ (by walk_at "pv") (it_lst _ st) (fun d hd => ?_) (by simp only [List.length_map]; exact sz hl)
    obtain ⟨c, hc, rfl⟩ := List.mem_map.mp hd
    obtain ⟨p, _, rfl⟩ := List.mem_map.mp hc
    refine ⟨_, rfl, ?_⟩
    simp only [szD, ix0]
    walk_at "pv"
  have e : (((q.map some).map szD).map ix0) = (q.map (·.1)).map fun a => D.int (a : Nat) := by
    simp only [List.map_map]
    rfl
  rw [e] at hc
  rw [ev_fn, hc]
  show (opt (ints? ((q.map (·.1)).map fun a => D.int (a : Nat))) st).bind _ = _
  rw [ints_map]
  show R.ok (D.int (List.sum _)) st = _
  rw [sum_cast]
theorem max_v (call : Nat → List D → Sto → R D) (st : Sto) (x0 x2 : Option D) (q : List (Nat × Nat)) (hn : q ≠ []) (hl : q.length ≤ 100) :
    evX call (.fn .max (.comp [2] (.nm 2) (.var 1) [] (.ix (.var 2) (.lit (.int 1))))) [x0, some (.lst ((q.map some).map szD)), x2] st = .ok (.int (((q.map (·.2)).foldr max 0 : Nat) : Int)) st := by
  have hc : evX call (.comp [2] (.nm 2) (.var 1) [] (.ix (.var 2) (.lit (.int 1)))) [x0, some (.lst ((q.map some).map szD)), x2] st = .ok (.lst (((q.map some).map szD).map ix1)) st := by
    refine comp_map _ (by walk_at "pv") (it_lst _ st) (fun d hd => ?_) (by simp only [List.length_map]; exact sz hl)
    obtain ⟨c, hc, rfl⟩ := List.mem_map.mp hd
    obtain ⟨p, _, rfl⟩ := List.mem_map.mp hc
    refine ⟨_, rfl, ?_⟩
    simp only [szD, ix1]
    walk_at "pv"
  have e : (((q.map some).map szD).map ix1) = (q.map (·.2)).map fun a => D.int (a : Nat) := by
    simp only [List.map_map]
    rfl
  rw [e] at hc
  rw [ev_fn, hc]
  show (opt ((ints? ((q.map (·.2)).map fun a => D.int (a : Nat))).bind maxL) st).bind _ = _
  rw [ints_map]
  cases q with
  | nil => exact absurd rfl hn
  | cons p q =>
    show R.ok (D.int (List.foldl max _ _)) st = _
    rw [fold_max, fold_foldr]
    rfl
theorem szT_v (n : Nat) {d : D} (st : Sto) (xs ys : List D) (hd : d = .tup xs ∨ d = .lst xs) (hy : cutD xs (some 1) none = ys) (hn : ys ≠ []) (hl : ys.length ≤ 100) (f : D → Sz)
    (hf : ∀ y ∈ ys, evCall T n 11 [y] st = .ok (szD (f y)) st) : evSs (evCall T n) bSzT [some d, none, none] st = .ok (.ret (szD (up1 (szs (ys.map f))))) st := by
  have hs : evX (evCall T n) (.sl (.var 0) (some (.lit (.int 1))) none) [some d, none, none] st = .ok (reseq d ys) st := by
    rcases hd with rfl | rfl <;> (simp only [reseq]; walk_at "pv")
  have hi : itemsOf st (reseq d ys) = some ys := by
    rcases hd with rfl | rfl <;> rfl
  have hc : evX (evCall T n) (.comp [2] (.nm 2) (.sl (.var 0) (some (.lit (.int 1))) none) [] (.call 11 [.var 2])) [some d, none, none] st = .ok (.lst (ys.map fun y => szD (f y))) st := by
    refine Pv.comp_map _ hs hi (fun y hy => ?_) (sz hl)
    refine ⟨_, rfl, ?_⟩
    have := hf y hy
    walk_at "pv"
  have e : (ys.map fun y => szD (f y)) = (ys.map f).map szD := by rw [List.map_map]; rfl
  rw [e] at hc
  have hin := none_in st (ys.map f)
  have hlen : (ys.map f).length ≤ 100 := by rw [List.length_map]; exact hl
  have hne : ys.map f ≠ [] := by simpa using hn
  generalize ys.map f = c at hc hin hlen hne ⊢
  unfold bSzT
  rw [ess_cons, es_set, hc]
  cases qq : c.any Option.isNone with
  | true =>
    rw [qq] at hin
    rw [szs_none c qq]
    clear hf hs hi hc hd hy
    show goOn (evCall T n) [.ret _] (.next [some d, some (.lst (c.map szD)), none]) st = _
    simp only [go_next, ess_cons, es_ret, ev_ife, ev_cmp, ev_lit, ev_var, cm_in]
    show (((((((opt (inD st .non (.lst (c.map szD))) st).bind _).bind _).bind _).bind _)) : R Fl) = _
    rw [hin]
    rfl
  | false =>
    rw [qq] at hin
    obtain ⟨q, rfl⟩ := all_some c qq
    have h1 := sum_v (evCall T n) st (some d) none q (by simpa using hlen)
    have h2 := max_v (evCall T n) st (some d) none q (by simpa using hne) (by simpa using hlen)
    rw [szs_some]
    clear hf hs hi hc hd hy
    show goOn (evCall T n) [.ret _] (.next [some d, some (.lst ((q.map some).map szD)), none]) st = _
    generalize (q.map some).map szD = zz at h1 h2 hin ⊢
    have key : evX (evCall T n) (.tup [.bin .add (.lit (.int 1)) (.fn .sum (.comp [2] (.nm 2) (.var 1) [] (.ix (.var 2) (.lit (.int 0))))), .bin .add (.lit (.int 1)) (.fn .max (.comp [2] (.nm 2) (.var 1) [] (.ix (.var 2) (.lit (.int 1)))))]) [some d, some (.lst zz), none] st = .ok (.tup [.int (1 + (((q.map (·.1)).sum : Nat) : Int)), .int (1 + (((q.map (·.2)).foldr max 0 : Nat) : Int))]) st := by
      rw [ev_tup, evs_cons, ev_bin, ev_lit]
      show ((((evX (evCall T n) (.fn .sum _) _ st).bind _).bind _).bind _ : R D) = _
      rw [h1]
      show ((evXs (evCall T n) [.bin .add (.lit (.int 1)) (.fn .max _)] _ st).bind _).bind _ = _
      rw [evs_cons, ev_bin, ev_lit]
      show (((((evX (evCall T n) (.fn .max _) _ st).bind _).bind _).bind _).bind _ : R D) = _
      rw [h2]
      simp only [evs_nil]
      rfl
    simp only [go_next, ess_cons, es_ret, ev_ife, ev_cmp, ev_lit, cm_in]
    show ((((((((opt (inD st .non (.lst zz)) st).bind _).bind _).bind _).bind _)) : R Fl)) = _
    rw [hin]
    show (((evX (evCall T n) (.tup _) _ st).bind _).bind _ : R Fl) = _
    rw [key]
    show R.ok (Fl.ret (D.tup [.int _, .int _])) st = _
    simp only [up1, Option.map, szD]
    rfl
def sz1 : S := .if (.or (.not (.isi (.var 0) [.list, .tuple])) (.or (.cmp .lt (.fn .len (.var 0)) (.lit (.int 2))) (.not (.isi (.ix (.var 0) (.lit (.int 0))) [.str])))) [.ret (.lit .non)] []
def sz2 : S := .if (.cmp .isin (.ix (.var 0) (.lit (.int 0))) (.tup [.lit (.str "at"), .lit (.str "sig")])) [.ret (.ife (.and (.cmp .eq (.fn .len (.var 0)) (.lit (.int 3))) (.and (.call 10 [.ix (.var 0) (.lit (.int 1))]) (.call 10 [.ix (.var 0) (.lit (.int 2))]))) (.tup [.lit (.int 1), .lit (.int 1)]) (.lit .non))] []
def sz3 : S := .if (.not (.or (.and (.cmp .eq (.ix (.var 0) (.lit (.int 0))) (.lit (.str "not"))) (.cmp .eq (.fn .len (.var 0)) (.lit (.int 2)))) (.and (.cmp .isin (.ix (.var 0) (.lit (.int 0))) (.tup [.lit (.str "and"), .lit (.str "or")])) (.cmp .gt (.fn .len (.var 0)) (.lit (.int 2)))))) [.ret (.lit .non)] []
theorem b_size_e : b__law_size = sz1 :: sz2 :: sz3 :: bSzT := rfl
def atomL : List D → Bool
  | [.str s, b, c] => isAt s && (nm b && nm c)
  | _ => false
def partsL : List D → Option (List D)
  | .str s :: a :: r => if isNot s then (if r.isEmpty then some [a] else none) else if isAO s && !r.isEmpty then some (a :: r) else none
  | _ => none
theorem atomB_e {d : D} {xs : List D} (h : seqL d = some xs) : atomB d = atomL xs := by
  unfold atomB
  rw [h]
  rcases xs with _ | ⟨a, _ | ⟨b, _ | ⟨c, _ | ⟨e, r⟩⟩⟩⟩ <;> first | rfl | (cases a <;> rfl)
theorem partsO_e {d : D} {xs : List D} (h : seqL d = some xs) : partsO d = partsL xs := by
  unfold partsO
  rw [h]
  rcases xs with _ | ⟨a, _ | ⟨b, r⟩⟩ <;> first | rfl | (cases a <;> rfl)
theorem size_e (k : Nat) {d : D} {xs : List D} (h : seqL d = some xs) : sizeK (k + 1) d = if atomL xs = true then some (1, 1) else match partsL xs with
    | none => none
    | some ps => up1 (szs (ps.map (sizeK k))) := by
  rw [sizeK, atomB_e h, partsO_e h]
section
variable (call : Nat → List D → Sto → R D) (st : Sto)
theorem sz1_a {d : D} {xs : List D} (hx : d = .tup xs ∨ d = .lst xs) (h : xs = [] ∨ ∃ a, xs = [a]) : evS call sz1 [some d, none, none] st = .ok (.ret .non) st := by
  unfold sz1
  rcases h with rfl | ⟨a, rfl⟩ <;> rcases hx with rfl | rfl <;> walk_at "pv"
theorem sz1_b {d a b : D} {r : List D} (hx : d = .tup (a :: b :: r) ∨ d = .lst (a :: b :: r)) {k : Nat} (ha : Gd k a) (h : ∀ x, a ≠ .str x) : evS call sz1 [some d, none, none] st = .ok (.ret .non) st := by
  unfold sz1
  have hl : ¬ ((r.length : Int) + 1 + 1 < 2) := by omega
  cases ha with
  | str => exact absurd rfl (h _)
  | _ => rcases hx with rfl | rfl <;> (clear h; walk_at "pv")
theorem sz1_c {d b : D} {x : Str} {r : List D} (hx : d = .tup (.str x :: b :: r) ∨ d = .lst (.str x :: b :: r)) : evS call sz1 [some d, none, none] st = .ok (.next [some d, none, none]) st := by
  unfold sz1
  have hl : ¬ ((r.length : Int) + 1 + 1 < 2) := by omega
  rcases hx with rfl | rfl <;> walk_at "pv"
theorem sz2_n {d b : D} {x : Str} {r : List D} (hx : d = .tup (.str x :: b :: r) ∨ d = .lst (.str x :: b :: r)) (h : isAt x = false) : evS call sz2 [some d, none, none] st = .ok (.next [some d, none, none]) st := by
  have hi := in_at st x
  rw [h] at hi
  unfold sz2
  rcases hx with rfl | rfl <;> walk_at "pv"
theorem sz2_3 {d b c : D} {x : Str} (hx : d = .tup [.str x, b, c] ∨ d = .lst [.str x, b, c]) (h : isAt x = true) (hb : call 10 [b] st = .ok (.bl (nm b)) st) (hc : call 10 [c] st = .ok (.bl (nm c)) st) : evS call sz2 [some d, none, none] st = .ok (.ret (szD (if (nm b && nm c) = true then some (1, 1) else none))) st := by
  have hi := in_at st x
  rw [h] at hi
  unfold sz2
  cases q2 : nm b <;> cases q3 : nm c <;> (rw [q2] at hb; rw [q3] at hc; rcases hx with rfl | rfl <;> (walk_at "pv"; try rfl))
theorem sz2_o {d b : D} {x : Str} {r : List D} (hx : d = .tup (.str x :: b :: r) ∨ d = .lst (.str x :: b :: r)) (h : isAt x = true) (hl : ¬ ((r.length : Int) + 1 + 1 = 3)) : evS call sz2 [some d, none, none] st = .ok (.ret .non) st := by
  have hi := in_at st x
  rw [h] at hi
  unfold sz2
  rcases hx with rfl | rfl <;> walk_at "pv"
def sz3C (x : Str) (r : List D) : Bool := (isNot x && r.isEmpty) || (isAO x && !r.isEmpty)
theorem sz3_v {d b : D} {x : Str} {r : List D} (hs : okS x) (hx : d = .tup (.str x :: b :: r) ∨ d = .lst (.str x :: b :: r)) : evS call sz3 [some d, none, none] st = if sz3C x r = true then .ok (.next [some d, none, none]) st else .ok (.ret .non) st := by
  have he := eq_not st hs
  have hj := in_ao st x
  unfold sz3 sz3C
  cases r with
  | nil => cases q2 : isNot x <;> cases q3 : isAO x <;> (rw [q2] at he; rw [q3] at hj; rcases hx with rfl | rfl <;> walk_at "pv")
  | cons c r =>
    have hl1 : ¬ ((r.length : Int) + 1 + 1 + 1 = 2) := by omega
    have hl3 : 2 < (r.length : Int) + 1 + 1 + 1 := by omega
    cases q2 : isNot x <;> cases q3 : isAO x <;> (rw [q2] at he; rw [q3] at hj; rcases hx with rfl | rfl <;> walk_at "pv")
theorem parts3 {x : Str} {b : D} {r : List D} : partsL (.str x :: b :: r) = if sz3C x r = true then some (b :: r) else none := by
  show (if isNot x then (if r.isEmpty then some [b] else none) else if isAO x && !r.isEmpty then some (b :: r) else none) = _
  unfold sz3C
  cases q2 : isNot x with
  | true =>
    rw [not_excl q2]
    cases r <;> rfl
  | false => simp
end
theorem ret_on {call : Nat → List D → Sto → R D} {s : S} {ss : List S} {env : En} {st st' : Sto} {d : D} (h : evS call s env st = .ok (.ret d) st') : evSs call (s :: ss) env st = .ok (.ret d) st' := by
  rw [ess_cons, h]
  rfl
theorem next_on {call : Nat → List D → Sto → R D} {s : S} {ss : List S} {env env' : En} {st st' : Sto} (h : evS call s env st = .ok (.next env') st') : evSs call (s :: ss) env st = evSs call ss env' st' := by
  rw [ess_cons, h]
  rfl
theorem size_v : ∀ (k n : Nat) {d : D} (st : Sto), Gd k d → evCall T (n + k + 2) 11 [d] st = .ok (szD (sizeK k d)) st
  | 0, n, d, st, h => by
    rw [call_of (d := ⟨1, 3, b__law_size⟩) rfl, b_size_e, if_pos (by rfl)]
    have e : evS (evCall T (n + 1)) sz1 [some d, none, none] st = .ok (.ret .non) st := by
      unfold sz1
      generalize evCall T (n + 1) = call
      cases h <;> walk_at "pv"
    show resOf (evSs (evCall T (n + 1)) (sz1 :: sz2 :: sz3 :: bSzT) [some d, none, none] st) = _
    rw [ret_on e]
    rfl
  | k + 1, n, d, st, h => by
    rw [show n + (k + 1) + 2 = (n + k + 2) + 1 from rfl, call_of (d := ⟨1, 3, b__law_size⟩) rfl, if_pos (by rfl), b_size_e]
    have ih : ∀ {y : D}, Gd k y → evCall T (n + k + 2) 11 [y] st = .ok (szD (sizeK k y)) st := fun hy => size_v k n st hy
    have iw : ∀ {y : D}, Gd k y → evCall T (n + k + 2) 10 [y] st = .ok (.bl (nm y)) st := fun hy => is_word_v (n + k + 1) st hy
    show resOf (evSs (evCall T (n + k + 2)) (sz1 :: sz2 :: sz3 :: bSzT) [some d, none, none] st) = _
    have key : ∀ (xs : List D), (d = .tup xs ∨ d = .lst xs) → evSs (evCall T (n + k + 2)) (sz1 :: sz2 :: sz3 :: bSzT) [some d, none, none] st = .ok (.ret (szD (sizeK (k + 1) d))) st := by
      intro xs hx
      obtain ⟨hl, hk⟩ := seq_gd h hx
      have hs : seqL d = some xs := by rcases hx with rfl | rfl <;> rfl
      rw [size_e k hs]
      have hT : ∀ a r, xs = a :: r → r ≠ [] → evSs (evCall T (n + k + 2)) bSzT [some d, none, none] st = .ok (.ret (szD (up1 (szs (r.map (sizeK k)))))) st := by
        intro a r e hn
        subst e
        exact szT_v _ st _ r hx (cut1 a r) hn (by simp only [List.length_cons] at hl; omega) _ fun y m => ih (hk y (List.mem_cons_of_mem _ m))
      clear ih
      revert hT iw
      generalize evCall T (n + k + 2) = call
      intro iw hT
      match xs, hx, hk, hT with
      | [], hx, _, _ => rw [ret_on (sz1_a call st hx (.inl rfl))]; rfl
      | [a], hx, _, _ =>
        rw [ret_on (sz1_a call st hx (.inr ⟨a, rfl⟩))]
        cases a <;> rfl
      | a :: b :: r, hx, hk, hT =>
        have hT2 := hT a (b :: r) rfl (by simp)
        have ha := hk a (by simp)
        by_cases q : ∃ x, a = .str x
        · obtain ⟨x, rfl⟩ := q
          have hs' : okS x := by cases ha with | str h => exact h
          rw [next_on (sz1_c call st hx), parts3]
          cases q1 : isAt x with
          | true =>
            obtain ⟨e1, e2⟩ := at_excl q1
            have e3 : sz3C x r = false := by unfold sz3C; rw [e1, e2]; rfl
            rw [e3]
            match r, hx, hk with
            | [], hx, hk => rw [ret_on (sz2_o call st hx q1 (by decide))]; rfl
            | [c], hx, hk =>
              rw [ret_on (sz2_3 call st hx q1 (iw (hk b (by simp))) (iw (hk c (by simp))))]
              show _ = R.ok (Fl.ret (szD (if (isAt x && (nm b && nm c)) = true then _ else _))) st
              rw [q1]
              rfl
            | c :: c' :: r, hx, hk =>
              rw [ret_on (sz2_o call st hx q1 (by simp only [List.length_cons]; omega))]
              rfl
          | false =>
            have e0 : atomL (.str x :: b :: r) = false := by
              match r with
              | [] => rfl
              | [c] => show (isAt x && _) = false; rw [q1]; rfl
              | _ :: _ :: _ => rfl
            rw [e0, next_on (sz2_n call st hx q1)]
            have h3 := sz3_v call st hs' hx
            cases q3 : sz3C x r with
            | true =>
              rw [q3, if_pos rfl] at h3
              rw [next_on h3, hT2]
              rfl
            | false =>
              rw [q3, if_neg (by decide)] at h3
              rw [ret_on h3]
              rfl
        · rw [ret_on (sz1_b call st hx ha fun x e => q ⟨x, e⟩)]
          cases a <;> first | exact absurd ⟨_, rfl⟩ q | rfl
    have tail : evSs (evCall T (n + k + 2)) (sz1 :: sz2 :: sz3 :: bSzT) [some d, none, none] st = .ok (.ret (szD (sizeK (k + 1) d))) st := by
      have e : ∀ d' : D, seqL d' = none → sizeK (k + 1) d' = none := by
        intro d' h
        cases d' <;> first | rfl | cases h
      cases h with
      | tup hl h => exact key _ (.inl rfl)
      | lst hl h => exact key _ (.inr rfl)
      | _ =>
        rw [e _ rfl]
        refine ret_on ?_
        clear key ih iw e
        unfold sz1
        generalize evCall T (n + k + 2) = call
        walk_at "pv"
        rfl
    rw [tail]
    rfl
theorem due_v (n : Nat) {k : Nat} {d : D} (st : Sto) (h : Gd k d) : evCall T (n + k + 3) 12 [d] st = .ok (.bl (dueB k d)) st := by
  have hs := size_v k n st h
  rw [call_of (d := ⟨1, 2, b__law_due⟩) rfl, if_pos (by rfl)]
  show resOf (evSs (evCall T (n + k + 2)) b__law_due [some d, none] st) = _
  revert hs
  generalize evCall T (n + k + 2) = call
  intro hs
  unfold b__law_due dueB
  cases q : sizeK k d with
  | none =>
    rw [q] at hs
    simp only [szD] at hs
    have hi : isD .non .non = some true := rfl
    walk_at "pv"
    try rfl
  | some p =>
    obtain ⟨a, b⟩ := p
    rw [q] at hs
    simp only [szD] at hs
    have hi : isD (.tup [.int (a : Nat), .int (b : Nat)]) .non = some false := rfl
    have e1 : (((a : Nat) : Int) ≤ 40) = (a ≤ 40) := by apply propext; omega
    have e2 : (((b : Nat) : Int) ≤ 6) = (b ≤ 6) := by apply propext; omega
    by_cases c1 : a ≤ 40 <;> by_cases c2 : b ≤ 6 <;> (walk_at "pv"; try simp [within, c1, c2])
end Law
end
section
set_option Elab.async false
set_option autoImplicit false
set_option linter.all false
set_option maxRecDepth 100000
set_option maxHeartbeats 2000000
namespace Law
open PySem L2 Pv
local macro_rules | `(tactic| walk_at "pv") => `(tactic| simp [ess_cons, ess_nil, es_set, es_par, es_if, es_ret, es_retN, es_for, es_range, es_exp, es_put, ev_var, ev_lit, ev_bin, ev_cmp, ev_chain, ev_and, ev_or, ev_not, ev_neg, ev_ife, ev_tup, ev_lst, ev_mlst, ev_dnew, ev_ix, ev_sl, ev_call, ev_fn, ev_isi, evs_nil, evs_cons, evc_nil, evc_cons, evo_none, evo_some, go_next, go_ret, go_brk, go_cont, res_next, res_ret, turn_next, turn_cont, turn_brk, turn_ret, eqD_nil, eqD_intc, startE, bindT, bindTs,
  bin_add_int, bin_add_str, bin_add_tup, bin_add_lst, bin_sub_int, bin_mul_int, bin_mul_lst, bin_fdiv_int, bin_mod_int, bin_pow_int, fn_len_str, fn_len_tup, fn_len_lst, fn_int_int, fn_int_bl, fn_abs_int, fn_all_lst, fn_any_lst, fn_sum_lst, fn_max_lst, fn_list_lst, fn_list_tup, fn_tuple_lst, fn_tuple_tup,
  cm_lt, cm_le, cm_gt, cm_ge, cm_eq, cm_ne, cm_is, cm_nis, cm_in, cm_nin, eqD_int, eqS_int, Pv.ix_tup, Pv.ix_lst, ix_mrf, put_mrf, sl_tup', sl_lst', sl_rol', tr_bl, tr_int, tr_non, asI_int, lv_tup, lv_lst, lv_str, lv_int, lv_bl, lv_non, lv_dct, it_str, it_lst, it_tup, eqS_nil, isiOne, isiK, kdOf, wipeE, atI_0, atI_1, atI_2, ixN, must, sl0, sl1, sl2, sl3, sl4, sl5, sl6, sl7, sl8, sl9, sl10, sl11, sl12, sl13, sl14, sl15, sl16, sl17, sl18, sl19, *])

theorem okB {α β : Type} (a : α) (st : Sto) (f : α → Sto → R β) : (R.ok a st).bind f = f a st := rfl
theorem rc_ok {call : Nat → List D → Sto → R D} {own : List Nat} {tg : Tg} {n e : Xp} {cs : List Xp} {env : En} {st st1 st2 : Sto} {jn : Nat} {ys : List D} (h1 : evX call n env st = .ok (.int (jn : Nat)) st1) (hj : jn ≤ 1000)
    (h2 : compR tg (wipeE env own) (fun env st => evC call cs env st) (fun env st => evX call e env st) [] (rangeD jn) st1 = .ok ys st2) : evX call (.rcomp own tg n cs e) env st = .ok (.lst ys) st2 := by
  rw [ev_rcomp, h1, okB, show opt (asI (.int (jn : Nat))) st1 = R.ok (jn : Int) st1 from rfl, okB, mustT (by omega), Int.toNat_natCast, h2, okB]
/-- a walk that changes the store -/
theorem compR_inv {tg : Tg} {env : En} {elt : En → Sto → R D} {call : Nat → List D → Sto → R D} (P : D → Prop) (I : Nat → Sto → Prop) : ∀ (ds acc : List D) (m : Nat) (st : Sto), I m st →
    (∀ d ∈ ds, ∀ m' st, m' < m + ds.length → I m' st → ∃ env' y st', bindT tg d env = some env' ∧ elt env' st = .ok y st' ∧ P y ∧ I (m' + 1) st') → acc.length + ds.length ≤ sizeLine →
    ∃ ys st', compR tg env (fun env st => evC call [] env st) elt acc ds st = .ok (acc ++ ys) st' ∧ ys.length = ds.length ∧ (∀ y ∈ ys, P y) ∧ I (m + ds.length) st'
  | [], acc, m, st, h, _, _ => ⟨[], st, by rw [compR_nil, List.append_nil], rfl, fun _ m => (List.not_mem_nil m).elim, h⟩
  | d :: ds, acc, m, st, h, hs, hl => by
    simp only [List.length_cons] at hl hs
    obtain ⟨env', y, st', e1, e2, hy, h'⟩ := hs d List.mem_cons_self m st (by omega) h
    obtain ⟨ys, st2, e3, q1, q2, q3⟩ := compR_inv P I ds (acc ++ [y]) (m + 1) st' h' (fun d hd m' st hm hI => hs d (List.mem_cons_of_mem _ hd) m' st (by omega) hI) (by rw [List.length_append, List.length_singleton]; omega)
    refine ⟨y :: ys, st2, ?_, by rw [List.length_cons, List.length_cons, q1], fun z hz => ?_, by rw [List.length_cons, show m + (ds.length + 1) = m + 1 + ds.length by omega]; exact q3⟩
    · rw [compR_cons, e1, show acc ++ y :: ys = acc ++ [y] ++ ys by simp, ← e3]
      have hb : ∀ {α β : Type} (a : α) (st : Sto) (f : α → Sto → R β), (R.ok a st).bind f = f a st := fun _ _ _ => rfl
      rw [show opt (some env') st = R.ok env' st from rfl, hb, evc_nil, hb, if_pos rfl, e2, hb, mustT (by omega)]
    · rcases List.mem_cons.mp hz with rfl | hz
      · exact hy
      · exact q2 z hz
/-! ### wild conditions -/
def W : Nat → Int
  | 0 => 3
  | k + 1 => 3 + 5 * W k
theorem W_pos : ∀ k, 3 ≤ W k
  | 0 => by decide
  | k + 1 => by have := W_pos k; show 3 ≤ 3 + 5 * W k; omega
theorem hT7 : T[7]? = some ⟨2, 6, b_draw⟩ := rfl
theorem hT8 : T[8]? = some ⟨2, 2, [.ret (.ix (.var 1) (.call 7 [.var 0, .fn .len (.var 1)]))]⟩ := rfl
theorem okL {x : Str} (h : (PyData.strOk x && decide (x.length ≤ 100)) = true) : okS x := by
  rw [Bool.and_eq_true, decide_eq_true_eq] at h
  exact h
theorem gd_strs {k : Nat} : ∀ (l : List Str), (l.all fun x => PyData.strOk x && decide (x.length ≤ 100)) = true → ∀ d ∈ l.map D.str, Gd k d
  | [], _, d, m => (List.not_mem_nil m).elim
  | x :: l, h, d, m => by
    rw [List.all_cons, Bool.and_eq_true] at h
    rcases List.mem_cons.mp m with rfl | m
    · exact .str (okL h.1)
    · exact gd_strs l h.2 d m
def namesL : List Str := ["a", "door", "zyxwvuts", "abcdefgh", "at", "not"]
theorem pick_gd (n : Nat) {k : Nat} (l : List Str) (c : List Int) (t lf : Int) (rs : Sto) (h0 : l ≠ []) (h1 : l.length < 1000000) (ho : (l.all fun x => PyData.strOk x && decide (x.length ≤ 100)) = true) (ht : 0 ≤ t) (ht2 : t < 10000000) :
    ∃ x t' l', evCall T (n + 2) 8 [.mrf 0, .lst (l.map D.str)] (pst c t lf rs) = .ok x (pst c t' l' rs) ∧ Gd k x ∧ t ≤ t' ∧ t' ≤ t + 1 := by
  obtain ⟨x, t', l', e, m, q1, q2⟩ := pick_v hT7 hT8 n c t lf rs (l.map D.str) (by simpa using h0) (by simpa using h1) ht ht2
  exact ⟨x, t', l', e, gd_strs l ho x m, q1, q2⟩
def w1 : S := .set (.nm 2) (.ife (.cmp .gt (.var 1) (.lit (.int 1))) (.call 7 [.var 0, .lit (.int 7)]) (.lit (.int 0)))
def w2a : S := .set (.nm 3) (.lst [.lit (.str "a"), .lit (.str "door"), .lit (.str "zyxwvuts"), .lit (.str "abcdefgh"), .lit (.str "at"), .lit (.str "not")])
def w2b : S := .ret (.tup [.call 8 [.var 0, .lst [.lit (.str "at"), .lit (.str "sig")]], .call 8 [.var 0, .var 3], .call 8 [.var 0, .var 3]])
def w2 : S := .if (.cmp .lt (.var 2) (.lit (.int 3))) [w2a, w2b] []
def w3 : S := .if (.cmp .eq (.var 2) (.lit (.int 3))) [.ret (.tup [.lit (.str "not"), .call 13 [.var 0, .bin .sub (.var 1) (.lit (.int 1))]])] []
def w4 : S := .ret (.fn .tuple (.bin .add (.lst [.call 8 [.var 0, .lst [.lit (.str "and"), .lit (.str "or")]]]) (.rcomp [4] (.nm 4) (.call 8 [.var 0, .lst [.lit (.int 2), .lit (.int 2), .lit (.int 3), .lit (.int 5)]]) [] (.call 13 [.var 0, .bin .sub (.var 1) (.lit (.int 1))]))))
theorem b_wild_e : b__law_wild = [w1, w2, w3, w4] := rfl
theorem w2b_v (n : Nat) {k : Nat} (x1 x2 x4 : Option D) (c : List Int) (t l : Int) (rs : Sto) (ht : 0 ≤ t) (ht2 : t + 3 < 10000000) :
    ∃ d t' l', evS (evCall T (n + 2)) w2b [some (.mrf 0), x1, x2, some (.lst (namesL.map D.str)), x4] (pst c t l rs) = .ok (.ret d) (pst c t' l' rs) ∧ Gd (k + 1) d ∧ t ≤ t' ∧ t' ≤ t + 3 := by
  obtain ⟨a, t1, l1, e1, g1, q1, q2⟩ := pick_gd n (k := k) ["at", "sig"] c t l rs (by simp) (by decide) (by decide +kernel) ht (by omega)
  obtain ⟨b, t2, l2, e2, g2, q3, q4⟩ := pick_gd n (k := k) namesL c t1 l1 rs (by simp [namesL]) (by decide) (by decide +kernel) (by omega) (by omega)
  obtain ⟨d, t3, l3, e3, g3, q5, q6⟩ := pick_gd n (k := k) namesL c t2 l2 rs (by simp [namesL]) (by decide) (by decide +kernel) (by omega) (by omega)
  refine ⟨.tup [a, b, d], t3, l3, ?_, .tup (by show 3 ≤ 100; decide) (fun x m => ?_), by omega, by omega⟩
  · have f1 : evX (evCall T (n + 2)) (.call 8 [.var 0, .lst [.lit (.str "at"), .lit (.str "sig")]]) [some (.mrf 0), x1, x2, some (.lst (namesL.map D.str)), x4] (pst c t l rs) = .ok a (pst c t1 l1 rs) := by
      rw [← e1, ev_call]
      rfl
    have f2 : evX (evCall T (n + 2)) (.call 8 [.var 0, .var 3]) [some (.mrf 0), x1, x2, some (.lst (namesL.map D.str)), x4] (pst c t1 l1 rs) = .ok b (pst c t2 l2 rs) := by
      rw [← e2, ev_call]
      rfl
    have f3 : evX (evCall T (n + 2)) (.call 8 [.var 0, .var 3]) [some (.mrf 0), x1, x2, some (.lst (namesL.map D.str)), x4] (pst c t2 l2 rs) = .ok d (pst c t3 l3 rs) := by
      rw [← e3, ev_call]
      rfl
    unfold w2b
    rw [es_ret, ev_tup, evs_cons, f1]
    show ((((evXs _ [_, _] _ (pst c t1 l1 rs)).bind _).bind _).bind _ : R Fl) = _
    rw [evs_cons, f2]
    show (((((evXs _ [_] _ (pst c t2 l2 rs)).bind _).bind _).bind _).bind _ : R Fl) = _
    rw [evs_cons, f3]
    simp only [evs_nil]
    rfl
  · simp only [List.mem_cons, List.not_mem_nil, or_false] at m
    rcases m with rfl | rfl | rfl <;> assumption
theorem w2_y (n : Nat) {k : Nat} (x1 x3 x4 : Option D) (r : Int) (hr : r < 3) (c : List Int) (t l : Int) (rs : Sto) (ht : 0 ≤ t) (ht2 : t + 3 < 10000000) :
    ∃ d t' l', evS (evCall T (n + 2)) w2 [some (.mrf 0), x1, some (.int r), x3, x4] (pst c t l rs) = .ok (.ret d) (pst c t' l' rs) ∧ Gd (k + 1) d ∧ t ≤ t' ∧ t' ≤ t + 3 := by
  obtain ⟨d, t', l', e, g⟩ := w2b_v n (k := k) x1 (some (.int r)) x4 c t l rs ht ht2
  refine ⟨d, t', l', ?_, g⟩
  have e1 : evS (evCall T (n + 2)) w2 [some (.mrf 0), x1, some (.int r), x3, x4] (pst c t l rs) = evSs (evCall T (n + 2)) [w2a, w2b] [some (.mrf 0), x1, some (.int r), x3, x4] (pst c t l rs) := by
    clear e
    generalize pst c t l rs = st
    generalize evCall T (n + 2) = call
    unfold w2
    walk_at "pv"
  rw [e1]
  have e2 : evS (evCall T (n + 2)) w2a [some (.mrf 0), x1, some (.int r), x3, x4] (pst c t l rs) = .ok (.next [some (.mrf 0), x1, some (.int r), some (.lst (namesL.map D.str)), x4]) (pst c t l rs) := by
    clear e e1
    generalize pst c t l rs = st
    generalize evCall T (n + 2) = call
    unfold w2a
    walk_at "pv"
    rfl
  rw [next_on e2]
  exact ret_on e
theorem w2_n (n : Nat) (x1 x3 x4 : Option D) (r : Int) (hr : ¬ r < 3) (st : Sto) : evS (evCall T n) w2 [some (.mrf 0), x1, some (.int r), x3, x4] st = .ok (.next [some (.mrf 0), x1, some (.int r), x3, x4]) st := by
  generalize evCall T n = call
  unfold w2
  walk_at "pv"
theorem w3_n (n : Nat) (x1 x3 x4 : Option D) (r : Int) (hr : ¬ r = 3) (st : Sto) : evS (evCall T n) w3 [some (.mrf 0), x1, some (.int r), x3, x4] st = .ok (.next [some (.mrf 0), x1, some (.int r), x3, x4]) st := by
  generalize evCall T n = call
  unfold w3
  walk_at "pv"
theorem w1_0 (n : Nat) (st : Sto) : evS (evCall T n) w1 [some (.mrf 0), some (.int 1), none, none, none] st = .ok (.next [some (.mrf 0), some (.int 1), some (.int 0), none, none]) st := by
  generalize evCall T n = call
  unfold w1
  walk_at "pv"
theorem w1_s (n : Nat) (i : Int) (hi : 1 < i) (c : List Int) (t l : Int) (rs : Sto) (ht : 0 ≤ t) (ht2 : t < 10000000) :
    ∃ r t' l', evS (evCall T (n + 1)) w1 [some (.mrf 0), some (.int i), none, none, none] (pst c t l rs) = .ok (.next [some (.mrf 0), some (.int i), some (.int r), none, none]) (pst c t' l' rs) ∧ t ≤ t' ∧ t' ≤ t + 1 := by
  obtain ⟨r, t', l', e, _, _, q1, q2⟩ := draw_v hT7 n c t l rs 7 (by decide) (by decide) ht ht2
  refine ⟨r, t', l', ?_, q1, q2⟩
  revert e
  generalize pst c t l rs = st
  generalize pst c t' l' rs = st'
  generalize evCall T (n + 1) = call
  intro e
  unfold w1
  walk_at "pv"
theorem sub_v (call : Nat → List D → Sto → R D) (i : Int) (x2 x3 x4 : Option D) (st : Sto) : evX call (.call 13 [.var 0, .bin .sub (.var 1) (.lit (.int 1))]) [some (.mrf 0), some (.int i), x2, x3, x4] st = call 13 [.mrf 0, .int (i - 1)] st := by
  walk_at "pv"
theorem wild_v : ∀ (k n : Nat) (c : List Int) (t l : Int) (rs : Sto), 0 ≤ t → t + W k < 10000000 →
    ∃ d t' l', evCall T (n + k + 3) 13 [.mrf 0, .int (1 + (k : Nat))] (pst c t l rs) = .ok d (pst c t' l' rs) ∧ Gd (k + 1) d ∧ t ≤ t' ∧ t' ≤ t + W k
  | 0, n, c, t, l, rs, ht, ht2 => by
    obtain ⟨d, t', l', e, g⟩ := w2_y n (k := 0) (some (.int 1)) none none 0 (by decide) c t l rs ht ht2
    refine ⟨d, t', l', ?_, g⟩
    rw [call_of (d := ⟨2, 5, b__law_wild⟩) rfl, if_pos (by rfl)]
    show resOf (evSs (evCall T (n + 2)) b__law_wild [some (.mrf 0), some (.int 1), none, none, none] _) = _
    rw [b_wild_e, next_on (w1_0 _ _), ret_on e]
    rfl
  | k + 1, n, c, t, l, rs, ht, ht2 => by
    have hW := W_pos k
    have hWe : W (k + 1) = 3 + 5 * W k := rfl
    rw [hWe] at ht2 ⊢
    obtain ⟨r, t1, l1, e1, p1, p2⟩ := w1_s (n + k + 2) (1 + ((k + 1 : Nat) : Int)) (by omega) c t l rs ht (by omega)
    have hw : ∀ c t l rs, 0 ≤ t → t + W k < 10000000 → ∃ d t' l', evCall T (n + k + 3) 13 [.mrf 0, .int (1 + ((k + 1 : Nat) : Int) - 1)] (pst c t l rs) = .ok d (pst c t' l' rs) ∧ Gd (k + 1) d ∧ t ≤ t' ∧ t' ≤ t + W k := by
      intro c t l rs h1 h2
      rw [show (1 + ((k + 1 : Nat) : Int) - 1) = 1 + (k : Nat) by omega]
      exact wild_v k n c t l rs h1 h2
    rw [show n + (k + 1) + 3 = (n + k + 3) + 1 from rfl, call_of (d := ⟨2, 5, b__law_wild⟩) rfl, if_pos (by rfl)]
    show ∃ d t' l', resOf (evSs (evCall T (n + k + 3)) b__law_wild [some (.mrf 0), some (.int _), none, none, none] _) = _ ∧ _
    rw [b_wild_e, next_on (show evS (evCall T (n + k + 3)) w1 _ _ = _ from e1)]
    by_cases h3 : r < 3
    · obtain ⟨d, t', l', e, g, q1, q2⟩ := w2_y (n + k + 1) (k := k + 1) (some (.int (1 + ((k + 1 : Nat) : Int)))) none none r h3 c t1 l1 rs (by omega) (by omega)
      refine ⟨d, t', l', ?_, g, by omega, by omega⟩
      rw [ret_on e]
      rfl
    · rw [next_on (w2_n _ _ _ _ _ h3 _)]
      by_cases h4 : r = 3
      · obtain ⟨d, t2, l2, e, g, q1, q2⟩ := hw c t1 l1 rs (by omega) (by omega)
        refine ⟨.tup [.str "not", d], t2, l2, ?_, .tup (by show 2 ≤ 100; decide) (fun x m => ?_), by omega, by omega⟩
        · have e3 : evS (evCall T (n + k + 3)) w3 [some (.mrf 0), some (.int (1 + ((k + 1 : Nat) : Int))), some (.int r), none, none] (pst c t1 l1 rs) = .ok (.ret (.tup [.str "not", d])) (pst c t2 l2 rs) := by
            have e5 := sub_v (evCall T (n + k + 3)) (1 + ((k + 1 : Nat) : Int)) (some (.int r)) none none (pst c t1 l1 rs)
            rw [e] at e5
            revert e5
            generalize pst c t1 l1 rs = st
            generalize pst c t2 l2 rs = st'
            generalize evCall T (n + k + 3) = call
            intro e5
            subst h4
            generalize hS : (Xp.call 13 [.var 0, .bin .sub (.var 1) (.lit (.int 1))]) = X at e5
            unfold w3
            rw [hS]
            clear hw e1 e
            generalize (1 + ((k + 1 : Nat) : Int)) = ii at e5 ⊢
            walk_at "pv"
          rw [ret_on e3]
          rfl
        · simp only [List.mem_cons, List.not_mem_nil, or_false] at m
          rcases m with rfl | rfl
          · exact .str (okL (by decide +kernel))
          · exact g
      · rw [next_on (w3_n _ _ _ _ _ h4 _)]
        obtain ⟨a, t2, l2, e2, g2, q1, q2⟩ := pick_gd (n + k + 1) (k := k + 1) ["and", "or"] c t1 l1 rs (by simp) (by decide) (by decide +kernel) (by omega) (by omega)
        obtain ⟨j, t3, l3, e3, g3, q3, q4⟩ := pick_v hT7 hT8 (n + k + 1) c t2 l2 rs [.int 2, .int 2, .int 3, .int 5] (by simp) (by decide) (by omega) (by omega)
        obtain ⟨jn, rfl, hj⟩ : ∃ jn : Nat, j = .int (jn : Nat) ∧ jn ≤ 5 := by
          simp only [List.mem_cons, List.not_mem_nil, or_false] at g3
          rcases g3 with rfl | rfl | rfl | rfl
          · exact ⟨2, rfl, by decide⟩
          · exact ⟨2, rfl, by decide⟩
          · exact ⟨3, rfl, by decide⟩
          · exact ⟨5, rfl, by decide⟩
        have hlen : (rangeD jn).length = jn := by unfold rangeD; rw [List.length_map, List.length_range]
        have hmul : ∀ m : Nat, m ≤ 5 → (m : Int) * W k ≤ 5 * W k := fun m h => Int.mul_le_mul_of_nonneg_right (by omega) (by omega)
        obtain ⟨ys, st', e4, y1, y2, t4, l4, rfl, q5, q6⟩ := compR_inv (call := evCall T (n + k + 3)) (tg := .nm 4) (env := [some (.mrf 0), some (.int (1 + ((k + 1 : Nat) : Int))), some (.int r), none, none]) (elt := fun env st => evX (evCall T (n + k + 3)) (.call 13 [.var 0, .bin .sub (.var 1) (.lit (.int 1))]) env st) (Gd (k + 1)) (fun m st => ∃ t' l', st = pst c t' l' rs ∧ t3 ≤ t' ∧ t' ≤ t3 + m * W k) (rangeD jn) [] 0 (pst c t3 l3 rs) ⟨t3, l3, rfl, by omega, by omega⟩ (by
          intro d hd m st hm hI
          obtain ⟨t', l', rfl, i1, i2⟩ := hI
          have h5 : ((m + 1 : Nat) : Int) * W k = m * W k + W k := by rw [Int.natCast_add, Int.add_mul]; omega
          have := hmul (m + 1) (by omega)
          rw [h5] at this
          obtain ⟨d', t4, l4, e, g, q1, q2⟩ := hw c t' l' rs (by omega) (by omega)
          refine ⟨_, d', _, rfl, ?_, g, t4, l4, rfl, by omega, ?_⟩
          · exact (sub_v _ _ _ _ _ _).trans e
          · rw [h5]
            omega) (by rw [hlen]; exact sz (by simp; omega))
        rw [hlen] at y1 q6
        have := hmul jn hj
        rw [Nat.zero_add] at q6
        refine ⟨.tup (a :: ys), t4, l4, ?_, .tup (by simp only [List.length_cons]; omega) (fun x m => ?_), by omega, by omega⟩
        · have f1 : evX (evCall T (n + k + 3)) (.call 8 [.var 0, .lst [.lit (.str "and"), .lit (.str "or")]]) [some (.mrf 0), some (.int (1 + ((k + 1 : Nat) : Int))), some (.int r), none, none] (pst c t1 l1 rs) = .ok a (pst c t2 l2 rs) := by
            rw [← e2, ev_call]
            rfl
          have f2 : evX (evCall T (n + k + 3)) (.call 8 [.var 0, .lst [.lit (.int 2), .lit (.int 2), .lit (.int 3), .lit (.int 5)]]) [some (.mrf 0), some (.int (1 + ((k + 1 : Nat) : Int))), some (.int r), none, none] (pst c t2 l2 rs) = .ok (.int jn) (pst c t3 l3 rs) := by
            rw [← e3, ev_call]
            rfl
          have f3 : evS (evCall T (n + k + 3)) w4 [some (.mrf 0), some (.int (1 + ((k + 1 : Nat) : Int))), some (.int r), none, none] (pst c t1 l1 rs) = .ok (.ret (.tup (a :: ys))) (pst c t4 l4 rs) := by
            unfold w4
            rw [es_ret, ev_fn, ev_bin, ev_lst, evs_cons, f1]
            simp only [evs_nil]
            show ((((evX _ (.rcomp _ _ _ _ _) _ (pst c t2 l2 rs)).bind _).bind _).bind _ : R Fl) = _
            rw [rc_ok f2 (by omega) e4]
            show (((must ([a].length + ys.length ≤ sizeLine) (R.ok (D.lst ([a] ++ ys)) (pst c t4 l4 rs))).bind _).bind _ : R Fl) = _
            rw [mustT (sz (by rw [y1, List.length_singleton]; omega))]
            rfl
          rw [ret_on f3]
          rfl
        · rcases List.mem_cons.mp m with rfl | m
          · exact g2
          · exact y2 x m
end Law
end
section
set_option Elab.async false
set_option autoImplicit false
set_option linter.all false
set_option maxRecDepth 100000
set_option maxHeartbeats 2000000
namespace Law
open PySem L2 Pv
local macro_rules | `(tactic| walk_at "pv") => `(tactic| simp [ess_cons, ess_nil, es_set, es_par, es_if, es_ret, es_retN, es_for, es_range, es_exp, es_put, ev_var, ev_lit, ev_bin, ev_cmp, ev_chain, ev_and, ev_or, ev_not, ev_neg, ev_ife, ev_tup, ev_lst, ev_mlst, ev_dnew, ev_ix, ev_sl, ev_call, ev_fn, ev_isi, evs_nil, evs_cons, evc_nil, evc_cons, evo_none, evo_some, go_next, go_ret, go_brk, go_cont, res_next, res_ret, turn_next, turn_cont, turn_brk, turn_ret, eqD_nil, eqD_intc, startE, bindT, bindTs,
  bin_add_int, bin_add_str, bin_add_tup, bin_add_lst, bin_sub_int, bin_mul_int, bin_mul_lst, bin_fdiv_int, bin_mod_int, bin_pow_int, fn_len_str, fn_len_tup, fn_len_lst, fn_int_int, fn_int_bl, fn_abs_int, fn_all_lst, fn_any_lst, fn_sum_lst, fn_max_lst, fn_list_lst, fn_list_tup, fn_tuple_lst, fn_tuple_tup,
  cm_lt, cm_le, cm_gt, cm_ge, cm_eq, cm_ne, cm_is, cm_nis, cm_in, cm_nin, eqD_int, eqS_int, Pv.ix_tup, Pv.ix_lst, ix_mrf, put_mrf, sl_tup', sl_lst', sl_rol', tr_bl, tr_int, tr_non, asI_int, lv_tup, lv_lst, lv_str, lv_int, lv_bl, lv_non, lv_dct, it_str, it_lst, it_tup, eqS_nil, isiOne, isiK, kdOf, wipeE, atI_0, atI_1, atI_2, ixN, must, sl0, sl1, sl2, sl3, sl4, sl5, sl6, sl7, sl8, sl9, sl10, sl11, sl12, sl13, sl14, sl15, sl16, sl17, sl18, sl19, *])

theorem ife_t {call : Nat → List D → Sto → R D} {c a b : Xp} {env : En} {st : Sto} (h : evX call c env st = .ok (.bl true) st) : evX call (.ife c a b) env st = evX call a env st := by
  rw [ev_ife, h]
  rfl
theorem if_on {call : Nat → List D → Sto → R D} {c : Xp} {a b : List S} {env : En} {st st' : Sto} {r : Bool} (h : evX call c env st = .ok (.bl r) st') : evS call (.if c a b) env st = if r = true then evSs call a env st' else evSs call b env st' := by
  rw [es_if, h]
  rfl
/-! ### lists for tuples -/
def lstd : Nat → D → D
  | k + 1, .tup xs => .lst (xs.map (lstd k))
  | k + 1, .lst xs => .lst (xs.map (lstd k))
  | _, d => d
theorem listed_v : ∀ (k n : Nat) {d : D} (st : Sto), Gd k d → evCall T (n + k + 1) 9 [d] st = .ok (lstd k d) st ∧ Gd k (lstd k d)
  | 0, n, d, st, h => by
    rw [call_of (d := ⟨1, 2, b__law_listed⟩) rfl, if_pos (by rfl)]
    unfold b__law_listed
    generalize evCall T (n + 0) = call
    cases h with
    | non => exact ⟨by walk_at "pv"; rfl, .non⟩
    | bl b => exact ⟨by walk_at "pv"; rfl, .bl b⟩
    | int i => exact ⟨by walk_at "pv"; rfl, .int i⟩
    | str h => exact ⟨by clear h; walk_at "pv"; rfl, .str h⟩
    | dct => exact ⟨by walk_at "pv"; rfl, .dct⟩
  | k + 1, n, d, st, h => by
    have ih : ∀ {y : D}, Gd k y → evCall T (n + k + 1) 9 [y] st = .ok (lstd k y) st ∧ Gd k (lstd k y) := fun hy => listed_v k n st hy
    rw [show n + (k + 1) + 1 = (n + k + 1) + 1 from rfl, call_of (d := ⟨1, 2, b__law_listed⟩) rfl, if_pos (by rfl)]
    revert ih
    generalize evCall T (n + k + 1) = call
    intro ih
    have key : ∀ xs : List D, (d = .tup xs ∨ d = .lst xs) → resOf (evSs call b__law_listed [some d, none] st) = .ok (.lst (xs.map (lstd k))) st ∧ Gd (k + 1) (.lst (xs.map (lstd k))) := by
      intro xs hx
      obtain ⟨hl, hk⟩ := seq_gd h hx
      have hc : evX call (.comp [1] (.nm 1) (.var 0) [] (.call 9 [.var 1])) [some d, none] st = .ok (.lst (xs.map (lstd k))) st := by
        refine Pv.comp_map (x := d) _ (by walk_at "pv") (by rcases hx with rfl | rfl <;> rfl) (fun y hy => ?_) (sz hl)
        refine ⟨_, rfl, ?_⟩
        have := (ih (hk y hy)).1
        clear ih
        walk_at "pv"
      refine ⟨?_, .lst (by rw [List.length_map]; exact hl) fun x m => ?_⟩
      · clear ih
        unfold b__law_listed
        have hi : evX call (.isi (.var 0) [.list, .tuple]) [some d, none] st = .ok (.bl true) st := by
          rcases hx with rfl | rfl <;> walk_at "pv"
        rw [ess_cons, es_ret, ife_t hi, hc]
        rfl
      · obtain ⟨y, hy, rfl⟩ := List.mem_map.mp m
        exact (ih (hk y hy)).2
    have flat : (∀ xs, d ≠ .tup xs) → (∀ xs, d ≠ .lst xs) → resOf (evSs call b__law_listed [some d, none] st) = .ok d st := by
      intro q1 q2
      clear key ih
      unfold b__law_listed
      cases h with
      | tup => exact absurd rfl (q1 _)
      | lst => exact absurd rfl (q2 _)
      | _ => clear q1 q2; walk_at "pv"
    cases h with
    | tup hl h => exact key _ (.inl rfl)
    | lst hl h => exact key _ (.inr rfl)
    | non => exact ⟨flat (by simp) (by simp), .non⟩
    | bl b => exact ⟨flat (by simp) (by simp), .bl b⟩
    | int i => exact ⟨flat (by simp) (by simp), .int i⟩
    | str h => exact ⟨flat (by simp) (by simp), .str h⟩
    | dct => exact ⟨flat (by simp) (by simp), .dct⟩
/-! ### bent conditions -/
def lit15 : List D := [.non, .int 5, .str "", .str "at", .str "nor", .str "Door", .str "abcdefghi", .str "a1", .lst [], .tup [], .tup [.str "at", .str "a"], .tup [.str "not"], .tup [.str "and", .tup [.str "at", .str "a", .str "b"]], .bl true, .dct []]
theorem strs_gd {k : Nat} (l : List Str) (ho : (l.all fun x => PyData.strOk x && decide (x.length ≤ 100)) = true) (hl : l.length ≤ 100) : Gd (k + 1) (.tup (l.map D.str)) :=
  .tup (by rw [List.length_map]; exact hl) (gd_strs l ho)
theorem lit15_gd {k : Nat} : ∀ d ∈ lit15, Gd (k + 2) d := by
  intro d m
  unfold lit15 at m
  simp only [List.mem_cons, List.not_mem_nil, or_false] at m
  rcases m with rfl | rfl | rfl | rfl | rfl | rfl | rfl | rfl | rfl | rfl | rfl | rfl | rfl | rfl | rfl
  · exact .non
  · exact .int 5
  · exact .str (okL (by decide +kernel))
  · exact .str (okL (by decide +kernel))
  · exact .str (okL (by decide +kernel))
  · exact .str (okL (by decide +kernel))
  · exact .str (okL (by decide +kernel))
  · exact .str (okL (by decide +kernel))
  · exact .lst (by decide) fun _ m => (List.not_mem_nil m).elim
  · exact .tup (by decide) fun _ m => (List.not_mem_nil m).elim
  · exact strs_gd ["at", "a"] (by decide +kernel) (by decide)
  · exact strs_gd ["not"] (by decide +kernel) (by decide)
  · refine .tup (by show 2 ≤ 100; decide) fun x m => ?_
    simp only [List.mem_cons, List.not_mem_nil, or_false] at m
    rcases m with rfl | rfl
    · exact .str (okL (by decide +kernel))
    · exact strs_gd ["at", "a", "b"] (by decide +kernel) (by decide)
  · exact .bl true
  · exact .dct
def asL : D → D
  | .tup xs => .lst xs
  | d => d
theorem asL_gd {k : Nat} {d : D} (h : Gd k d) : Gd k (asL d) := by
  cases h with
  | tup hl h => exact .lst hl h
  | lst hl h => exact .lst hl h
  | non => exact .non
  | bl b => exact .bl b
  | int i => exact .int i
  | str h => exact .str h
  | dct => exact .dct
def bt1 : S := .if (.and (.isi (.var 1) [.tuple]) (.and (.cmp .gt (.fn .len (.var 1)) (.lit (.int 1))) (.cmp .gt (.call 7 [.var 0, .lit (.int 3)]) (.lit (.int 0))))) [.set (.nm 2) (.call 7 [.var 0, .fn .len (.var 1)]), .ret (.bin .add (.bin .add (.sl (.var 1) none (some (.var 2))) (.tup [.call 14 [.var 0, .ix (.var 1) (.var 2)]])) (.sl (.var 1) (some (.bin .add (.var 2) (.lit (.int 1)))) none))] []
def bt2 : List S := [.set (.nm 3) (.lst [.lit .non, .lit (.int 5), .lit (.str ""), .lit (.str "at"), .lit (.str "nor"), .lit (.str "Door"), .lit (.str "abcdefghi"), .lit (.str "a1"), .lst [], .tup [], .tup [.lit (.str "at"), .lit (.str "a")], .tup [.lit (.str "not")], .tup [.lit (.str "and"), .tup [.lit (.str "at"), .lit (.str "a"), .lit (.str "b")]], .lit (.bl true), .dnew]), .ret (.call 8 [.var 0, .bin .add (.var 3) (.lst [.ife (.isi (.var 1) [.tuple]) (.fn .list (.var 1)) (.var 1), .var 1])])]
theorem b_bent_e : b__law_bent = bt1 :: bt2 := rfl
theorem live_gd {k : Nat} {d : D} (h : Gd k d) (st : Sto) : live st d = true := by cases h <;> rfl
theorem bt2_v (n : Nat) {k : Nat} {d : D} (hd : Gd k d) (c : List Int) (t l : Int) (rs : Sto) (ht : 0 ≤ t) (ht2 : t < 10000000) :
    ∃ d' t' l', evSs (evCall T (n + 2)) bt2 [some (.mrf 0), some d, none, none] (pst c t l rs) = .ok (.ret d') (pst c t' l' rs) ∧ Gd (k + 2) d' ∧ t ≤ t' ∧ t' ≤ t + 1 := by
  obtain ⟨x, t', l', e, m, q1, q2⟩ := pick_v hT7 hT8 n c t l rs (lit15 ++ [asL d, d]) (by simp) (by rw [List.length_append]; show 15 + 2 < 1000000; decide) ht ht2
  refine ⟨x, t', l', ?_, ?_, q1, q2⟩
  · have e2 : evX (evCall T (n + 2)) (.call 8 [.var 0, .bin .add (.var 3) (.lst [.ife (.isi (.var 1) [.tuple]) (.fn .list (.var 1)) (.var 1), .var 1])]) [some (.mrf 0), some d, none, some (.lst lit15)] (pst c t l rs) = .ok x (pst c t' l' rs) := by
      rw [← e, ev_call]
      generalize pst c t l rs = st
      generalize evCall T (n + 2) = call
      have ha : evX call (.ife (.isi (.var 1) [.tuple]) (.fn .list (.var 1)) (.var 1)) [some (.mrf 0), some d, none, some (.lst lit15)] st = .ok (asL d) st := by
        clear e m
        cases hd with
        | str h => clear h; walk_at "pv"; rfl
        | tup hl h => clear hl h; walk_at "pv"; rfl
        | lst hl h => clear hl h; walk_at "pv"; rfl
        | _ => walk_at "pv"; rfl
      have hb : evX call (.lst [.ife (.isi (.var 1) [.tuple]) (.fn .list (.var 1)) (.var 1), .var 1]) [some (.mrf 0), some d, none, some (.lst lit15)] st = .ok (.lst [asL d, d]) st := by
        rw [ev_lst, evs_cons, ha, okB, evs_cons, ev_var]
        simp only [evs_nil]
        rfl
      have hb2 : evX call (.bin .add (.var 3) (.lst [.ife (.isi (.var 1) [.tuple]) (.fn .list (.var 1)) (.var 1), .var 1])) [some (.mrf 0), some d, none, some (.lst lit15)] st = .ok (.lst (lit15 ++ [asL d, d])) st := by
        rw [ev_bin, ev_var, show opt (([some (.mrf 0), some d, none, some (.lst lit15)] : En)[3]?.bind id) st = R.ok (.lst lit15) st from rfl, okB, hb]
        rfl
      rw [evs_cons, ev_var, show opt (([some (.mrf 0), some d, none, some (.lst lit15)] : En)[0]?.bind id) st = R.ok (.mrf 0) st from rfl, okB, evs_cons, hb2, okB, evs_nil]
      rfl
    unfold bt2
    rw [next_on (show evS (evCall T (n + 2)) (.set (.nm 3) _) [some (.mrf 0), some d, none, none] (pst c t l rs) = .ok (.next [some (.mrf 0), some d, none, some (.lst lit15)]) (pst c t l rs) from by
      rw [es_set]
      clear e2 e m
      generalize pst c t l rs = st
      generalize evCall T (n + 2) = call
      have : evX call (.lst [.lit .non, .lit (.int 5), .lit (.str ""), .lit (.str "at"), .lit (.str "nor"), .lit (.str "Door"), .lit (.str "abcdefghi"), .lit (.str "a1"), .lst [], .tup [], .tup [.lit (.str "at"), .lit (.str "a")], .tup [.lit (.str "not")], .tup [.lit (.str "and"), .tup [.lit (.str "at"), .lit (.str "a"), .lit (.str "b")]], .lit (.bl true), .dnew]) [some (.mrf 0), some d, none, none] st = .ok (.lst lit15) st := by
        unfold lit15
        walk_at "pv"
      rw [this]
      rfl)]
    refine ret_on ?_
    rw [es_ret, e2]
    rfl
  · rcases List.mem_append.mp m with m | m
    · exact lit15_gd x m
    · simp only [List.mem_cons, List.not_mem_nil, or_false] at m
      rcases m with rfl | rfl
      · exact (asL_gd hd).up.up
      · exact hd.up.up
theorem bt1_no (call : Nat → List D → Sto → R D) {k : Nat} {d : D} (hd : Gd k d) (h : ∀ a b r, d ≠ .tup (a :: b :: r)) (st : Sto) : evS call bt1 [some (.mrf 0), some d, none, none] st = .ok (.next [some (.mrf 0), some d, none, none]) st := by
  unfold bt1
  cases hd with
  | str h' => clear h h'; walk_at "pv"
  | tup hl h' =>
    rename_i xs
    clear h'
    match xs, h with
    | [], h => clear h; walk_at "pv"
    | [a], h => clear h; walk_at "pv"
    | a :: b :: r, h => exact absurd rfl (h _ _ _)
  | lst hl h' => clear h h'; walk_at "pv"
  | _ => clear h; walk_at "pv"
theorem cut_lo {α : Type} (xs : List α) (r : Nat) (h : r ≤ xs.length) : cutD xs none (some (r : Int)) = xs.take r := by
  show ((xs.drop (HT.sIx xs.length 0 none)).take (HT.sIx xs.length xs.length (some (r : Int)) - HT.sIx xs.length 0 none)) = _
  have e1 : HT.sIx xs.length 0 none = 0 := rfl
  have e2 : HT.sIx xs.length xs.length (some (r : Int)) = r := by
    rw [HT.sIx_nat]
    omega
  rw [e1, e2]
  rfl
theorem cut_hi {α : Type} (xs : List α) (r : Nat) (h : r ≤ xs.length) : cutD xs (some (r : Int)) none = xs.drop r := by
  show ((xs.drop (HT.sIx xs.length 0 (some (r : Int)))).take (HT.sIx xs.length xs.length none - HT.sIx xs.length 0 (some (r : Int)))) = _
  have e1 : HT.sIx xs.length xs.length none = xs.length := rfl
  have e2 : HT.sIx xs.length 0 (some (r : Int)) = r := by
    rw [HT.sIx_nat]
    omega
  rw [e1, e2, List.take_of_length_le (by rw [List.length_drop]; omega)]
def B : Nat → Int
  | 0 => 3
  | k + 1 => B k + 2
theorem B_pos : ∀ k, 3 ≤ B k
  | 0 => by decide
  | k + 1 => by have := B_pos k; show 3 ≤ B k + 2; omega
theorem bent_v : ∀ (k n : Nat) {d : D} (c : List Int) (t l : Int) (rs : Sto), Gd k d → 0 ≤ t → t + B k < 10000000 →
    ∃ d' t' l', evCall T (n + k + 3) 14 [.mrf 0, d] (pst c t l rs) = .ok d' (pst c t' l' rs) ∧ Gd (k + 2) d' ∧ t ≤ t' ∧ t' ≤ t + B k
  | k, n, d, c, t, l, rs, h, ht, ht2 => by
    have hB := B_pos k
    by_cases hs : ∃ a b r, d = .tup (a :: b :: r)
    · obtain ⟨a, b, r, rfl⟩ := hs
      cases k with
      | zero => cases h
      | succ k =>
      have hBk := B_pos k
      have hBe : B (k + 1) = B k + 2 := rfl
      rw [hBe] at ht2 hB ⊢
      obtain ⟨hl, hk⟩ := seq_gd h (.inl rfl)
      have hlen : 2 ≤ (a :: b :: r).length := by simp only [List.length_cons]; omega
      have hgt : (1 : Int) < ((a :: b :: r).length : Int) := by omega
      generalize a :: b :: r = xs at h hl hk hlen hgt ⊢
      rw [show n + (k + 1) + 3 = (n + k + 3) + 1 from rfl, call_of (d := ⟨2, 4, b__law_bent⟩) rfl, if_pos (by rfl)]
      show ∃ d' t' l', resOf (evSs (evCall T (n + k + 3)) b__law_bent [some (.mrf 0), some (.tup xs), none, none] _) = _ ∧ _
      rw [b_bent_e]
      obtain ⟨q, t1, l1, e1, p1, p2, p3, p4⟩ := draw_v hT7 (n + k + 2) c t l rs 3 (by decide) (by decide) ht (by omega)
      have hc : evX (evCall T (n + k + 3)) (.and (.isi (.var 1) [.tuple]) (.and (.cmp .gt (.fn .len (.var 1)) (.lit (.int 1))) (.cmp .gt (.call 7 [.var 0, .lit (.int 3)]) (.lit (.int 0))))) [some (.mrf 0), some (.tup xs), none, none] (pst c t l rs) = .ok (.bl (decide (0 < q))) (pst c t1 l1 rs) := by
        revert e1
        show evCall T (n + k + 3) 7 _ _ = _ → _
        generalize pst c t l rs = st
        generalize pst c t1 l1 rs = st'
        generalize evCall T (n + k + 3) = call
        intro e1
        clear hk hl hlen
        walk_at "pv"
      have hif := if_on (a := [.set (.nm 2) (.call 7 [.var 0, .fn .len (.var 1)]), .ret (.bin .add (.bin .add (.sl (.var 1) none (some (.var 2))) (.tup [.call 14 [.var 0, .ix (.var 1) (.var 2)]])) (.sl (.var 1) (some (.bin .add (.var 2) (.lit (.int 1)))) none))]) (b := []) hc
      by_cases hq : 0 < q
      · rw [decide_eq_true hq, if_pos rfl] at hif
        obtain ⟨r, t2, l2, e2, p5, p6, p7, p8⟩ := draw_v hT7 (n + k + 2) c t1 l1 rs xs.length (by omega) (by omega) (by omega) (by omega)
        obtain ⟨i, rfl⟩ : ∃ i : Nat, r = (i : Nat) := ⟨r.toNat, by omega⟩
        have hi : i < xs.length := by omega
        obtain ⟨d', t3, l3, e3, g3, p9, p10⟩ := bent_v k n c t2 l2 rs (hk xs[i] (List.getElem_mem hi)) (by omega) (by omega)
        refine ⟨.tup (xs.take i ++ [d'] ++ xs.drop (i + 1)), t3, l3, ?_, .tup ?_ (fun x m => ?_), by omega, by omega⟩
        · have f1 : evS (evCall T (n + k + 3)) bt1 [some (.mrf 0), some (.tup xs), none, none] (pst c t l rs) = .ok (.ret (.tup (xs.take i ++ [d'] ++ xs.drop (i + 1)))) (pst c t3 l3 rs) := by
            unfold bt1
            rw [hif]
            have g1 : evS (evCall T (n + k + 3)) (.set (.nm 2) (.call 7 [.var 0, .fn .len (.var 1)])) [some (.mrf 0), some (.tup xs), none, none] (pst c t1 l1 rs) = .ok (.next [some (.mrf 0), some (.tup xs), some (.int i), none]) (pst c t2 l2 rs) := by
              rw [es_set]
              have : evX (evCall T (n + k + 3)) (.call 7 [.var 0, .fn .len (.var 1)]) [some (.mrf 0), some (.tup xs), none, none] (pst c t1 l1 rs) = .ok (.int i) (pst c t2 l2 rs) := by
                rw [← e2, ev_call]
                rfl
              rw [this]
              rfl
            rw [next_on g1]
            refine ret_on ?_
            have g2 : evX (evCall T (n + k + 3)) (.sl (.var 1) none (some (.var 2))) [some (.mrf 0), some (.tup xs), some (.int i), none] (pst c t2 l2 rs) = .ok (.tup (xs.take i)) (pst c t2 l2 rs) := by
              rw [← cut_lo xs i (by omega), ev_sl]
              rfl
            have g3 : evX (evCall T (n + k + 3)) (.tup [.call 14 [.var 0, .ix (.var 1) (.var 2)]]) [some (.mrf 0), some (.tup xs), some (.int i), none] (pst c t2 l2 rs) = .ok (.tup [d']) (pst c t3 l3 rs) := by
              have hix : evX (evCall T (n + k + 3)) (.ix (.var 1) (.var 2)) [some (.mrf 0), some (.tup xs), some (.int i), none] (pst c t2 l2 rs) = .ok xs[i] (pst c t2 l2 rs) := by
                rw [ev_ix]
                show opt (atI xs (i : Int)) (pst c t2 l2 rs) = _
                rw [atI_nat', List.getElem?_eq_getElem hi]
                rfl
              have hcl : evX (evCall T (n + k + 3)) (.call 14 [.var 0, .ix (.var 1) (.var 2)]) [some (.mrf 0), some (.tup xs), some (.int i), none] (pst c t2 l2 rs) = .ok d' (pst c t3 l3 rs) := by
                rw [← e3, ev_call, evs_cons, ev_var, show opt (([some (.mrf 0), some (.tup xs), some (.int i), none] : En)[0]?.bind id) (pst c t2 l2 rs) = R.ok (.mrf 0) (pst c t2 l2 rs) from rfl, okB, evs_cons, hix, okB, evs_nil]
                rfl
              rw [ev_tup, evs_cons, hcl, okB, evs_nil]
              rfl
            have g4 : evX (evCall T (n + k + 3)) (.sl (.var 1) (some (.bin .add (.var 2) (.lit (.int 1)))) none) [some (.mrf 0), some (.tup xs), some (.int i), none] (pst c t3 l3 rs) = .ok (.tup (xs.drop (i + 1))) (pst c t3 l3 rs) := by
              rw [← cut_hi xs (i + 1) (by omega), ev_sl]
              rfl
            rw [es_ret, ev_bin, ev_bin, g2, okB, g3, okB, bin_add_tup, mustT (sz (by rw [List.length_take, List.length_singleton]; omega)), okB, g4, okB, bin_add_tup, mustT (sz (by rw [List.length_append, List.length_take, List.length_singleton, List.length_drop]; omega))]
            rfl
          rw [ret_on f1]
          rfl
        · rw [List.length_append, List.length_append, List.length_take, List.length_singleton, List.length_drop]
          omega
        · rcases List.mem_append.mp m with m | m
          · rcases List.mem_append.mp m with m | m
            · exact (hk x (List.mem_of_mem_take m)).up.up
            · cases List.mem_singleton.mp m
              exact g3
          · exact (hk x (List.mem_of_mem_drop m)).up.up
      · rw [decide_eq_false hq, if_neg (by decide)] at hif
        obtain ⟨d', t2, l2, e2, g, p5, p6⟩ := bt2_v (n + k + 1) h c t1 l1 rs (by omega) (by omega)
        refine ⟨d', t2, l2, ?_, g, by omega, by omega⟩
        have f1 : evS (evCall T (n + k + 3)) bt1 [some (.mrf 0), some (.tup xs), none, none] (pst c t l rs) = .ok (.next [some (.mrf 0), some (.tup xs), none, none]) (pst c t1 l1 rs) := by
          unfold bt1
          rw [hif]
          rfl
        rw [next_on f1]
        rw [show evSs (evCall T (n + k + 3)) bt2 _ (pst c t1 l1 rs) = _ from e2]
        rfl
    · have hs' : ∀ a b r, d ≠ .tup (a :: b :: r) := fun a b r e => hs ⟨a, b, r, e⟩
      obtain ⟨d', t', l', e, g, q1, q2⟩ := bt2_v (n + k) h c t l rs ht (by omega)
      refine ⟨d', t', l', ?_, g, q1, by omega⟩
      rw [call_of (d := ⟨2, 4, b__law_bent⟩) rfl, if_pos (by rfl)]
      show resOf (evSs (evCall T (n + k + 2)) b__law_bent [some (.mrf 0), some d, none, none] _) = _
      rw [b_bent_e, next_on (bt1_no _ h hs' _), e]
      rfl
end Law
end
section
set_option Elab.async false
set_option autoImplicit false
set_option linter.all false
set_option maxRecDepth 100000
set_option maxHeartbeats 2000000
namespace Law
open PySem L2 Pv
local macro_rules | `(tactic| walk_at "pv") => `(tactic| simp [ess_cons, ess_nil, es_set, es_par, es_if, es_ret, es_retN, es_for, es_range, es_exp, es_put, ev_var, ev_lit, ev_bin, ev_cmp, ev_chain, ev_and, ev_or, ev_not, ev_neg, ev_ife, ev_tup, ev_lst, ev_mlst, ev_dnew, ev_ix, ev_sl, ev_call, ev_fn, ev_isi, evs_nil, evs_cons, evc_nil, evc_cons, evo_none, evo_some, go_next, go_ret, go_brk, go_cont, res_next, res_ret, turn_next, turn_cont, turn_brk, turn_ret, eqD_nil, eqD_intc, startE, bindT, bindTs,
  bin_add_int, bin_add_str, bin_add_tup, bin_add_lst, bin_sub_int, bin_mul_int, bin_mul_lst, bin_fdiv_int, bin_mod_int, bin_pow_int, fn_len_str, fn_len_tup, fn_len_lst, fn_int_int, fn_int_bl, fn_abs_int, fn_all_lst, fn_any_lst, fn_sum_lst, fn_max_lst, fn_list_lst, fn_list_tup, fn_tuple_lst, fn_tuple_tup,
  cm_lt, cm_le, cm_gt, cm_ge, cm_eq, cm_ne, cm_is, cm_nis, cm_in, cm_nin, eqD_int, eqS_int, Pv.ix_tup, Pv.ix_lst, ix_mrf, put_mrf, sl_tup', sl_lst', sl_rol', tr_bl, tr_int, tr_non, asI_int, lv_tup, lv_lst, lv_str, lv_int, lv_bl, lv_non, lv_dct, it_str, it_lst, it_tup, eqS_nil, isiOne, isiK, kdOf, wipeE, atI_0, atI_1, atI_2, ixN, must, sl0, sl1, sl2, sl3, sl4, sl5, sl6, sl7, sl8, sl9, sl10, sl11, sl12, sl13, sl14, sl15, sl16, sl17, sl18, sl19, *])

theorem forR_inv {tg : Tg} {body : En → Sto → R Fl} (I : Nat → En → Sto → Prop) : ∀ (ds : List D) (m : Nat) (env : En) (st : Sto), I m env st →
    (∀ d ∈ ds, ∀ m' env st, m' < m + ds.length → I m' env st → ∃ env1 env2 st2, bindT tg d env = some env1 ∧ body env1 st = .ok (.next env2) st2 ∧ I (m' + 1) env2 st2) →
    ∃ env2 st2, forR tg body env ds st = .ok (.next env2) st2 ∧ I (m + ds.length) env2 st2
  | [], m, env, st, h, _ => ⟨env, st, forR_nil .., h⟩
  | d :: ds, m, env, st, h, hs => by
    simp only [List.length_cons] at hs
    obtain ⟨env1, env2, st2, e1, e2, h2⟩ := hs d List.mem_cons_self m env st (by omega) h
    obtain ⟨env3, st3, e3, h3⟩ := forR_inv I ds (m + 1) env2 st2 h2 fun d hd m' env st hm hI => hs d (List.mem_cons_of_mem _ hd) m' env st (by omega) hI
    refine ⟨env3, st3, ?_, by rw [List.length_cons, show m + (ds.length + 1) = m + 1 + ds.length by omega]; exact h3⟩
    rw [forR_cons, e1, show opt (some env1) st = R.ok env1 st from rfl, okB, e2, okB, turn_next, e3]
/-! ### the law -/
def bRep : List S := [.if (.cmp .ne (.fn .repr (.lst [.call 5 [.var 5], .call 5 [.var 5]])) (.fn .repr (.bin .mul (.lst [.call 12 [.var 5]]) (.lit (.int 2))))) [.ret (.lit (.bl false))] []]
def tr1 : S := .set (.nm 3) (.call 13 [.var 1, .bin .add (.lit (.int 1)) (.call 7 [.var 1, .lit (.int 6)])])
def tr2 : S := .set (.nm 4) (.call 14 [.var 1, .var 3])
def tr3 : S := .for (.nm 5) (.tup [.var 3, .call 9 [.var 3], .var 4]) bRep
def bTurn : List S := [tr1, tr2, tr3]
theorem b_law_e : b_law = (.set (.nm 1) (.call 6 [.var 0]) : S) :: (.range (.nm 2) (.lit (.int 30)) bTurn) :: b_law_t2 := rfl
def shB (b : Bool) : Str := PyData.shown (.list [.bool b, .bool b])
theorem repr_b (st : Sto) (b : Bool) : ofB st .repr (.lst [.bl b, .bl b]) = .ok (.str (shB b)) st := by
  show must (PyData.showable (.list [.bool b, .bool b]) = true ∧ (PyData.shown (.list [.bool b, .bool b])).length ≤ sizeLine ∧ PyData.depth (.list [.bool b, .bool b]) ≤ 60) (R.ok (D.str (shB b)) st) = _
  rw [mustT (by cases b <;> decide +kernel)]
theorem ne_b (st : Sto) (b : Bool) : cmpD st .ne (D.str (shB b)) (D.str (shB b)) = some false := by
  rw [cm_ne, eqD_str (by cases b <;> decide +kernel) (by cases b <;> decide +kernel), show (shB b == shB b) = true by cases b <;> decide +kernel]
  rfl
theorem bRep_v (call : Nat → List D → Sto → R D) (x0 x1 x2 x3 x4 x6 x7 x8 : Option D) (d : D) (b : Bool) (st : Sto) (h5 : call 5 [d] st = .ok (.bl b) st) (h12 : call 12 [d] st = .ok (.bl b) st) :
    evSs call bRep [x0, x1, x2, x3, x4, some d, x6, x7, x8] st = .ok (.next [x0, x1, x2, x3, x4, some d, x6, x7, x8]) st := by
  have hl : evX call (.lst [.call 5 [.var 5], .call 5 [.var 5]]) [x0, x1, x2, x3, x4, some d, x6, x7, x8] st = .ok (.lst [.bl b, .bl b]) st := by walk_at "pv"
  have hm : evX call (.bin .mul (.lst [.call 12 [.var 5]]) (.lit (.int 2))) [x0, x1, x2, x3, x4, some d, x6, x7, x8] st = .ok (.lst [.bl b, .bl b]) st := by
    have h1 : evX call (.lst [.call 12 [.var 5]]) [x0, x1, x2, x3, x4, some d, x6, x7, x8] st = .ok (.lst [.bl b]) st := by walk_at "pv"
    rw [ev_bin, h1, okB, ev_lit, okB, bin_mul_lst, mustT ⟨by decide, by decide, by show 1 * 2 ≤ sizeLine; decide⟩]
    rfl
  have hc : evX call (.cmp .ne (.fn .repr (.lst [.call 5 [.var 5], .call 5 [.var 5]])) (.fn .repr (.bin .mul (.lst [.call 12 [.var 5]]) (.lit (.int 2))))) [x0, x1, x2, x3, x4, some d, x6, x7, x8] st = .ok (.bl false) st := by
    rw [ev_cmp, ev_fn, hl, okB, repr_b, okB, ev_fn, hm, okB, repr_b, okB, ne_b]
    rfl
  unfold bRep
  rw [ess_cons, if_on hc]
  rfl
theorem W_le : ∀ i, i ≤ 5 → W i ≤ 11718 := by
  intro i h
  have : i = 0 ∨ i = 1 ∨ i = 2 ∨ i = 3 ∨ i = 4 ∨ i = 5 := by omega
  rcases this with rfl | rfl | rfl | rfl | rfl | rfl <;> decide
def Iv (x0 : Option D) (c : List Int) (m : Nat) (env : En) (st : Sto) : Prop := (∃ x2 x3 x4 x5, env = [x0, some (.mrf 0), x2, x3, x4, x5, none, none, none]) ∧ ∃ t l, st = pst c t l [] ∧ 0 ≤ t ∧ t ≤ m * 11734
theorem turn_v (x0 : Option D) (c : List Int) (m : Nat) (hm : m < 30) (x2 x3 x4 x5 : Option D) (t l : Int) (ht : 0 ≤ t) (ht2 : t ≤ m * 11734) :
    ∃ env2 st2, evSs (evCall T 40) bTurn [x0, some (.mrf 0), x2, x3, x4, x5, none, none, none] (pst c t l []) = .ok (.next env2) st2 ∧ Iv x0 c (m + 1) env2 st2 := by
  obtain ⟨r, t1, l1, e1, p1, p2, p3, p4⟩ := draw_v hT7 39 c t l [] 6 (by decide) (by decide) ht (by omega)
  obtain ⟨i, rfl⟩ : ∃ i : Nat, r = (i : Nat) := ⟨r.toNat, by omega⟩
  have hi : i ≤ 5 := by omega
  have hW := W_le i hi
  obtain ⟨v, t2, l2, e2, g2, p5, p6⟩ := wild_v i (37 - i) c t1 l1 [] (by omega) (by omega)
  rw [show 37 - i + i + 3 = 40 by omega] at e2
  have gv : Gd 6 v := g2.mono (by omega)
  have hB : B 6 = 15 := by decide
  obtain ⟨b, t3, l3, e3, g3, p7, p8⟩ := bent_v 6 31 c t2 l2 [] gv (by omega) (by omega)
  obtain ⟨e4, g4⟩ := listed_v 6 33 (pst c t3 l3 []) gv
  have s1 : evS (evCall T 40) tr1 [x0, some (.mrf 0), x2, x3, x4, x5, none, none, none] (pst c t l []) = .ok (.next [x0, some (.mrf 0), x2, some v, x4, x5, none, none, none]) (pst c t2 l2 []) := by
    revert e1 e2
    show evCall T 40 7 _ _ = _ → _ → _
    clear e3 e4
    generalize pst c t l [] = st
    generalize pst c t1 l1 [] = st1
    generalize pst c t2 l2 [] = st2
    generalize evCall T 40 = call
    intro e1 e2
    unfold tr1
    have h1 : evX call (.bin .add (.lit (.int 1)) (.call 7 [.var 1, .lit (.int 6)])) [x0, some (.mrf 0), x2, x3, x4, x5, none, none, none] st = .ok (.int (1 + (i : Nat))) st1 := by
      clear e2
      walk_at "pv"
    have h2 : evX call (.call 13 [.var 1, .bin .add (.lit (.int 1)) (.call 7 [.var 1, .lit (.int 6)])]) [x0, some (.mrf 0), x2, x3, x4, x5, none, none, none] st = .ok v st2 := by
      rw [ev_call, evs_cons, ev_var, show opt (([x0, some (.mrf 0), x2, x3, x4, x5, none, none, none] : En)[1]?.bind id) st = R.ok (.mrf 0) st from rfl, okB, evs_cons, h1, okB, evs_nil, okB, okB, okB, e2]
    rw [es_set, h2]
    rfl
  have s2 : evS (evCall T 40) tr2 [x0, some (.mrf 0), x2, some v, x4, x5, none, none, none] (pst c t2 l2 []) = .ok (.next [x0, some (.mrf 0), x2, some v, some b, x5, none, none, none]) (pst c t3 l3 []) := by
    revert e3
    show evCall T 40 14 _ _ = _ → _
    clear e1 e2 s1 e4
    generalize pst c t2 l2 [] = st
    generalize pst c t3 l3 [] = st1
    generalize evCall T 40 = call
    intro e3
    unfold tr2
    walk_at "pv"
  have hrep : ∀ d, Gd 8 d → ∀ (st : Sto) (x5 : Option D), evSs (evCall T 40) bRep [x0, some (.mrf 0), x2, some v, some b, some d, none, none, none] st = .ok (.next [x0, some (.mrf 0), x2, some v, some b, some d, none, none, none]) st := by
    intro d hd st _
    have h5 : evCall T 40 5 [d] st = _ := is_condition_due (K := 8) (d := d) 36 st hd
    have h12 := due_v (k := 8) (d := d) 29 st hd
    rw [show 29 + 8 + 3 = 40 from rfl] at h12
    exact bRep_v _ _ _ _ _ _ _ _ _ d (dueB 8 d) st h5 h12
  obtain ⟨env3, st3, s3, ⟨y5, rfl⟩, rfl⟩ := forR_inv (tg := .nm 5) (body := fun env st => evSs (evCall T 40) bRep env st) (fun _ env st => (∃ y5, env = [x0, some (.mrf 0), x2, some v, some b, y5, none, none, none]) ∧ st = pst c t3 l3 []) [v, lstd 6 v, b] 0 [x0, some (.mrf 0), x2, some v, some b, x5, none, none, none] (pst c t3 l3 []) ⟨⟨_, rfl⟩, rfl⟩ (by
    intro d hd m' env st _ ⟨⟨y5, he⟩, hst⟩
    subst he hst
    have gd : Gd 8 d := by
      simp only [List.mem_cons, List.not_mem_nil, or_false] at hd
      rcases hd with rfl | rfl | rfl
      · exact gv.up.up
      · exact g4.up.up
      · exact g3
    exact ⟨_, _, _, rfl, hrep d gd _ y5, ⟨_, rfl⟩, rfl⟩)
  refine ⟨_, _, ?_, ⟨x2, some v, some b, y5, rfl⟩, t3, l3, rfl, by omega, by omega⟩
  unfold bTurn
  rw [next_on s1, next_on s2, ess_cons]
  have s4 : evS (evCall T 40) tr3 [x0, some (.mrf 0), x2, some v, some b, x5, none, none, none] (pst c t3 l3 []) = .ok (.next [x0, some (.mrf 0), x2, some v, some b, y5, none, none, none]) (pst c t3 l3 []) := by
    unfold tr3
    have h9 : evX (evCall T 40) (.tup [.var 3, .call 9 [.var 3], .var 4]) [x0, some (.mrf 0), x2, some v, some b, x5, none, none, none] (pst c t3 l3 []) = .ok (.tup [v, lstd 6 v, b]) (pst c t3 l3 []) := by
      revert e4
      show evCall T 40 9 _ _ = _ → _
      clear s1 s2 s3 e1 e2 e3
      generalize pst c t3 l3 [] = st
      generalize evCall T 40 = call
      intro e4
      clear hrep
      walk_at "pv"
    rw [es_for, h9, okB, show opt (itemsOf (pst c t3 l3 []) (.tup [v, lstd 6 v, b])) (pst c t3 l3 []) = R.ok [v, lstd 6 v, b] (pst c t3 l3 []) from rfl, okB, s3]
  rw [s4]
  rfl
theorem tail_v (x0 x1 x2 x3 x4 x5 : Option D) (st : Sto) : evSs (evCall T 40) b_law_t2 [x0, x1, x2, x3, x4, x5, none, none, none] st = .ok (.ret (.bl true)) st := by
  kernel_rfl
theorem pen_v (ns : List Int) (h : ns.length ≤ 63) : evCall T 40 6 [.rol (ns.map D.int)] [] = .ok (.mrf 0) (pst ns 0 0 []) := by
  rw [call_of (d := ⟨1, 2, b__law_pen⟩) rfl, if_pos (by rfl)]
  show resOf (evSs (evCall T 39) b__law_pen [some (.rol (ns.map D.int)), none] []) = _
  generalize evCall T 39 = call
  have hcut : cutD (ns.map D.int) none (some 63) = ns.map D.int := by
    show (((ns.map D.int).drop (HT.sIx (ns.map D.int).length 0 none)).take (HT.sIx (ns.map D.int).length (ns.map D.int).length (some ((63 : Nat) : Int)) - HT.sIx (ns.map D.int).length 0 none)) = _
    rw [HT.sIx_nat, HT.sIx_none, List.length_map]
    show (ns.map D.int).take (min 63 ns.length - 0) = _
    rw [List.take_of_length_le (by rw [List.length_map]; omega)]
  have hs : evX call (.sl (.var 0) none (some (.lit (.int 63)))) [some (.rol (ns.map D.int)), none] [] = .ok (.lst (ns.map D.int)) [] := by
    have : evX call (.sl (.var 0) none (some (.lit (.int 63)))) [some (.rol (ns.map D.int)), none] [] = .ok (.lst (cutD (ns.map D.int) none (some 63))) [] := by
      rw [ev_sl]
      rfl
    rw [this, hcut]
  have hc : evX call (.comp [1] (.nm 1) (.sl (.var 0) none (some (.lit (.int 63)))) [] (.fn .int (.var 1))) [some (.rol (ns.map D.int)), none] [] = .ok (.lst ((ns.map D.int).map id)) [] := by
    refine Pv.comp_map _ hs (it_lst _ _) (fun d hd => ?_) (by rw [List.length_map]; exact sz (by omega))
    obtain ⟨i, _, rfl⟩ := List.mem_map.mp hd
    refine ⟨_, rfl, ?_⟩
    walk_at "pv"
  rw [List.map_id] at hc
  have hm : evX call (.mlst [.comp [1] (.nm 1) (.sl (.var 0) none (some (.lit (.int 63)))) [] (.fn .int (.var 1)), .lit (.int 0), .lit (.int 0)]) [some (.rol (ns.map D.int)), none] [] = .ok (.mrf 0) (pst ns 0 0 []) := by
    rw [ev_mlst, evs_cons, hc, okB, evs_cons, ev_lit, okB, evs_cons, ev_lit, okB, evs_nil]
    rfl
  unfold b__law_pen
  rw [ess_cons, es_ret, hm]
  rfl
theorem pure_law (ns : List Int) (h : ns.length ≤ 63) : ∃ st, evCall T 41 15 [.rol (ns.map D.int)] [] = .ok (.bl true) st := by
  rw [call_of (d := ⟨1, 9, b_law⟩) rfl, if_pos (by rfl)]
  show ∃ st, resOf (evSs (evCall T 40) b_law [some (.rol (ns.map D.int)), none, none, none, none, none, none, none, none] []) = _
  have s1 : evS (evCall T 40) (.set (.nm 1) (.call 6 [.var 0])) [some (.rol (ns.map D.int)), none, none, none, none, none, none, none, none] [] = .ok (.next [some (.rol (ns.map D.int)), some (.mrf 0), none, none, none, none, none, none, none]) (pst ns 0 0 []) := by
    have := pen_v ns h
    revert this
    generalize pst ns 0 0 [] = st
    generalize evCall T 40 = call
    generalize ns.map D.int = xs
    intro this
    walk_at "pv"
  obtain ⟨env2, st2, s2, ⟨x2, x3, x4, x5, rfl⟩, t, l, rfl, _⟩ := forR_inv (tg := .nm 2) (body := fun env st => evSs (evCall T 40) bTurn env st) (Iv (some (.rol (ns.map D.int))) ns) (rangeD 30) 0 [some (.rol (ns.map D.int)), some (.mrf 0), none, none, none, none, none, none, none] (pst ns 0 0 []) ⟨⟨none, none, none, none, rfl⟩, 0, 0, rfl, by omega, by omega⟩ (by
    intro d _ m env st hm ⟨⟨x2, x3, x4, x5, he⟩, t, l, hst, q1, q2⟩
    subst he hst
    obtain ⟨env2, st2, e, hI⟩ := turn_v (some (.rol (ns.map D.int))) ns m (by have : (rangeD 30).length = 30 := rfl; omega) (some d) x3 x4 x5 t l q1 q2
    exact ⟨_, env2, st2, rfl, e, hI⟩)
  have s3 : evS (evCall T 40) (.range (.nm 2) (.lit (.int 30)) bTurn) [some (.rol (ns.map D.int)), some (.mrf 0), none, none, none, none, none, none, none] (pst ns 0 0 []) = .ok (.next [some (.rol (ns.map D.int)), some (.mrf 0), x2, x3, x4, x5, none, none, none]) (pst ns t l []) := by
    rw [← s2, es_range, ev_lit]
    rfl
  refine ⟨pst ns t l [], ?_⟩
  rw [b_law_e, next_on s1, next_on s3, tail_v]
  rfl
end Law
end
section
set_option Elab.async false
set_option linter.all false
set_option maxRecDepth 100000
set_option maxHeartbeats 0
open PySem PySem.W PySem.Calls PyProof.Rows
theorem PySem.Challenge.cw_ownhearing_k01_forms_of_conditions_holds : PySem.Challenge.rw_ownhearing_k01_forms_of_conditions.Holds := by
  w_on; o_law
  refine HandSHeadRun.head_any (r := OpenLaw.row PySem.Challenge.rw_ownhearing_k01_forms_of_conditions) (q := view (OpenLaw.row PySem.Challenge.rw_ownhearing_k01_forms_of_conditions).prog [27]) (H := Law.hk) (ob := Law.ob) (M := 6000) (loose := Law.loose) (d := HandSHeadRun.topDef (OpenLaw.row PySem.Challenge.rw_ownhearing_k01_forms_of_conditions).prog 27) (kwd := []) Law.ob_eq
    (by kernel_rfl) (fun s => by kernel_rfl) Law.run (by kernel_rfl) (by kernel_rfl) (by kernel_rfl) (by rfl) (by first | assumption | decide +kernel) (by decide +kernel) ⟨rfl, rfl, rfl, rfl, rfl, by decide +kernel⟩ ?hw ?hc
  case hw => w_witness2
  case hc =>
    refine Pv.walk_G (l := PySem.Challenge.rw_ownhearing_k01_forms_of_conditions) (n := 63) (k := 41) (x := "script") rfl (by decide) (by kernel_rfl) ⟨rfl, by decide, by decide⟩ ?F
    intro w mg fa h Y G hmg0
    obtain ⟨K, KX, c⟩ := Y
    have hmg : mg ("law" : PySem.Str) = some (.ref fa) := by
      have e : (HandSHeadRun.topDef (OpenLaw.row PySem.Challenge.rw_ownhearing_k01_forms_of_conditions).prog 27).name = ("law" : PySem.Str) := by kernel_rfl
      rw [← e]
      exact hmg0
    have gf := Law.facts_g KX G c
    have at_ := Law.facts_a KX G c
    obtain ⟨f, fd, hm, F⟩ := at_.a_law
    have e := hmg.symm.trans hm
    cases e
    refine ⟨K, fd, Pv.evCall Law.T 41 15, KX, fun s u => L2.FunD.bindsA (ps := ["script"]) F (fun _ _ _ _ _ _ us hl => match us, hl with | [_], _ => rfl) s [u] rfl, fun ns hl _ => Law.pure_law ns hl, fun base _ _ => Pv.FnG.succ F Law.sc_law rfl (Law.dv_law gf (Law.all_ok gf at_ 40) _)⟩
end

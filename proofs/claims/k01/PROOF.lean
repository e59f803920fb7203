import PyProof.Rows.All
import Wide.All
import OpenK.AllK
import Wide.FinOn
import HandS.List
import PyProof.ReprReads
import PyProof.ReprRoads
import HandS.ForMost
import HandS.Flow
import HandS.IsInst
import HandS.Property
import HandS.Defaults
import HandS.Hot
import HandS.HotCalls
import HandS.Comp
import HandS.TryOnly
import PyProof.TupleIter
import KE.KUnpack
import PyProof.WalkInts
import HandS.ExcInit
import HandS.ExcCtx
import KE.KExcInit
import KE.KExcIs
import PyProof.ExcBaseAll.ArithmeticError
import PyProof.ExcBaseAll.LookupError
import PyProof.ExcBaseAll.ValueError
import PyProof.Conv_bool
import KE.KCallOwn
import HandS.FStr
import HandS.Exc
import HandS.ExcField
import HandS.OwnEq
import PyProof.NeKinds
import PyProof.Rows.EqNone
import KE.KOpsOwn
import HandS.More
import HandS.Star
import HandS.SetFor
import HandS.HeadHook1
import KE.KStateDown
import HandS.Ends
import HandS.EndBits
import HandS.Head0
import HandS.Head1
import HandS.Head2
import HandS.HeadHook2
import PySem.Challenge.RW_springrows_k01_sums_and_products_of_rati
set_option Elab.async false
set_option linter.all false
namespace Ev
open PySem

inductive D where
  | non | bl (b : Bool) | int (i : Int) | str (s : Str)
  | tup (xs : List D) | lst (xs : List D)
  | ins (c : Nat) (fs : List D)
  | obj (a : Nat)
  | bor (k : Nat) (xs : List D)
inductive L where
  | val (d : D) | own (xs : List D) | self (c : Nat) (fs : List (Nat × D)) | exn (c : Nat) (fs : List (Nat × D))
inductive SO where
  | lst (xs : List D) | ins (c : Nat) (fs : List (Nat × D))
abbrev Mu := List SO
abbrev Sg := List (Option L)
inductive B2 where | add | sub | mul | fdiv | mod | pow | bor
inductive Cm where | eq | ne | lt | le | gt | ge | isd | isn | inn | nin
inductive Kd where | int | str | bool | list | tuple | cls (c : Nat)
inductive Bm where | count | index | join | split | startswith | endswith | get | pop
inductive Bl where | len | abs | max | min | str | repr | int | bool | list | tuple | any | all
mutual
inductive E where
  | var (i : Nat)
  | lit (d : D)
  | glob (x : Str) (d : D)
  | neg (a : E)
  | bin (k : B2) (a b : E)
  | cmp (k : Cm) (a b : E)
  | chain (k k' : Cm) (a b c : E)
  | bop (isAnd : Bool) (a b : E)
  | not (a : E)
  | ite (c : T) (a b : E)
  | tup (xs : Es)
  | lst (xs : Es)
  | attr (a : E) (k : Nat)
  | idx (a b : E)
  | sl (a : E) (lo hi : Eo)
  | rev (a : E)
  | call (f : Nat) (xs : Es)
  | make (c : Nat) (xs : Es)
  | meth (a : E) (m : Nat) (xs : Es)
  | blt (k : Bl) (xs : Es)
  | isin (a : E) (tup : Bool) (ks : List Kd)
  | cell (xs : Es)
  | qcall (c m : Nat) (xs : Es)
  | bmeth (a : E) (m : Bm) (xs : Es)
  | comp (elt : E) (t : Tg) (it : It) (cond : To) (vs : List Nat)
  | fstr (xs : Es)
inductive Es where | nil | cons (star : Bool) (e : E) (es : Es)
inductive Eo where | none | some (e : E)
inductive To where | none | some (t : T)
inductive T where | e (a : E) | not (t : T) | bop (isAnd : Bool) (t u : T) | ite (c t u : T)
inductive Tg where | name (i : Nat) | tup (ts : Tgs)
inductive Tgs where | nil | cons (t : Tg) (ts : Tgs)
inductive It where
  | seq (a : E) | enum (a : E) | zip2 (a b : E) | zip3 (a b c : E) | rng (a : E)
end
mutual
inductive S where
  | asg (t : Tg) (e : E)
  | par (ts : Tgs) (es : Es)
  | own (i : Nat) (es : Es)
  | ownc (i : Nat) (e : E)
  | app (i : Nat) (e : E)
  | ext (i : Nat) (e : E)
  | frz (i : Nat)
  | setf (a : E) (k : Nat) (e : E)
  | seti (a b e : E)
  | aug (i : Nat) (k : B2) (e : E)
  | exp (e : E)
  | sup (m : Nat) (xs : Es)
  | ret (e : E)
  | retn
  | ite (c : T) (a b : Ss)
  | for_ (t : Tg) (it : It) (b : Ss)
  | while_ (c : T) (b : Ss)
  | brk
  | pass
  | raise (c : Nat) (xs : Es)
  | try_ (b : Ss) (hs : Hs)
inductive Ss where | nil | cons (s : S) (ss : Ss)
inductive Hs where | nil | cons (c : Nat) (v : Option Nat) (b : Ss) (hs : Hs)
end

inductive Res (α : Type) where
  | ok (a : α) (m : Mu) | exc (c : Nat) (fs : List (Nat × D)) (m : Mu) | stuck
def Res.bind {α β : Type} (r : Res α) (f : α → Mu → Res β) : Res β := match r with
  | .ok a m => f a m
  | .exc c fs m => .exc c fs m
  | .stuck => .stuck
@[simp] theorem Res.bind_ok {α β : Type} (a : α) (m : Mu) (f : α → Mu → Res β) : (Res.ok a m).bind f = f a m := rfl
@[simp] theorem Res.bind_exc {α β : Type} (c : Nat) (fs) (m : Mu) (f : α → Mu → Res β) : (Res.exc c fs m : Res α).bind f = .exc c fs m := rfl
@[simp] theorem Res.bind_stuck {α β : Type} (f : α → Mu → Res β) : (Res.stuck : Res α).bind f = .stuck := rfl
inductive SR where
  | nx (s : Sg) (m : Mu) | ret (d : D) (s : Sg) (m : Mu) | brk (s : Sg) (m : Mu) | exc (c : Nat) (fs : List (Nat × D)) (s : Sg) (m : Mu) | stuck
def SR.seq (r : SR) (f : Sg → Mu → SR) : SR := match r with
  | .nx s m => f s m
  | r => r
@[simp] theorem SR.seq_nx (s m) (f : Sg → Mu → SR) : (SR.nx s m).seq f = f s m := rfl
@[simp] theorem SR.seq_ret (d s m) (f : Sg → Mu → SR) : (SR.ret d s m).seq f = .ret d s m := rfl
@[simp] theorem SR.seq_brk (s m) (f : Sg → Mu → SR) : (SR.brk s m).seq f = .brk s m := rfl
@[simp] theorem SR.seq_exc (c fs s m) (f : Sg → Mu → SR) : (SR.exc c fs s m).seq f = .exc c fs s m := rfl
@[simp] theorem SR.seq_stuck (f : Sg → Mu → SR) : SR.stuck.seq f = .stuck := rfl
def Res.st {α : Type} (r : Res α) (s : Sg) (f : α → Mu → SR) : SR := match r with
  | .ok a m => f a m
  | .exc c fs m => .exc c fs s m
  | .stuck => .stuck
@[simp] theorem Res.st_ok {α : Type} (a : α) (m : Mu) (s : Sg) (f : α → Mu → SR) : (Res.ok a m).st s f = f a m := rfl
@[simp] theorem Res.st_exc {α : Type} (c fs) (m : Mu) (s : Sg) (f : α → Mu → SR) : (Res.exc c fs m : Res α).st s f = .exc c fs s m := rfl
@[simp] theorem Res.st_stuck {α : Type} (s : Sg) (f : α → Mu → SR) : (Res.stuck : Res α).st s f = .stuck := rfl

structure ClI where
  name : Str
  flds : List Nat
  isval : Bool
  isexc : Bool
  init : Nat
  meths : List (Nat × Nat)
  props : List (Nat × Nat)
  cons : List (Nat × D)
  mro : List Nat
structure FnI where
  loc : Str × Option Str
  names : List Str
  np : Nat
  dfl : List D
  ok : Bool
  body : Ss
structure Tb where
  ats : List Str
  cls : List ClI
  fns : List FnI
structure Cl where
  T : Tb
  call : Nat → List D → Mu → Res D
  low : Nat → List D → Mu → Res D
  make : Nat → List D → Mu → Res D
  hot : Bool
  hcall : Nat → List D → Mu → Res D
  hlow : Nat → List D → Mu → Res D
  hmake : Nat → List D → Mu → Res D
def Cl.heat (C : Cl) : Cl := ⟨C.T, C.hcall, C.hlow, C.hmake, true, C.hcall, C.hlow, C.hmake⟩

def mthd (T : Tb) (c m : Nat) : Option Nat := (T.cls[c]?).bind fun i => i.meths.lookup m
def prp (T : Tb) (c k : Nat) : Option Nat := (T.cls[c]?).bind fun i => i.props.lookup k
def cnst (T : Tb) (c k : Nat) : Option D := (T.cls[c]?).bind fun i => i.cons.lookup k
def clsOf (μ : Mu) : D → Option Nat
  | .ins c _ => some c
  | .obj a => match μ[a]? with
    | some (.ins c _) => some c
    | _ => none
  | _ => none
def dcallF (T : Tb) (F : Nat → List D → Mu → Res D) (m : Nat) (x : D) (ys : List D) (μ : Mu) : Res D := match (clsOf μ x).bind fun c => mthd T c m with
  | some f => F f (x :: ys) μ
  | none => .stuck
def dcall (C : Cl) (m : Nat) (x : D) (ys : List D) (μ : Mu) : Res D := dcallF C.T C.call m x ys μ
def dcallL (C : Cl) (m : Nat) (x : D) (ys : List D) (μ : Mu) : Res D := dcallF C.T C.low m x ys μ
def nbD : D → Bool
  | .bor _ _ => false
  | _ => true
abbrev LINE : Nat := 16777216
def lim (n : Nat) : Bool := decide (n ≤ LINE)
def ib (i : Int) : Nat := if i = 0 then 0 else i.natAbs.log2 + 1
def MLIM : Nat := 134217728
def mulOk (i j : Int) : Bool := decide (ib i ≤ 64) || decide (ib j ≤ 64) || decide (ib i + ib j ≤ MLIM)

def flat : D → Bool
  | .non | .bl _ | .int _ | .str _ => true
  | _ => false
def mix : D → D → Bool
  | .bl _, .int _ | .int _, .bl _ => true
  | _, _ => false
def isSubc (T : Tb) (c c' : Nat) : Bool := match T.cls[c]? with
  | some i => i.mro.contains c'
  | none => false
def eqR (T : Tb) (μ : Mu) (c : Nat) : D → Prop
  | .ins c' _ => c' = c
  | .obj a => ∃ c' fs, μ[a]? = some (.ins c' fs) ∧ isSubc T c' c = false
  | .bor _ _ => False
  | _ => True
def eqK (T : Tb) (μ : Mu) : D → Option Nat
  | .non => some 0
  | .tup _ => some 1
  | .lst _ => some 2
  | .obj a => match μ[a]? with
    | some (.ins c _) => if (mthd T c 6).isSome then none else some 3
    | _ => none
  | _ => none
def eqS (T : Tb) (μ : Mu) : D → D → Prop
  | .obj a, .obj b => ∀ c fs c' fs', μ[a]? = some (.ins c fs) → μ[b]? = some (.ins c' fs') → c' = c ∨ isSubc T c' c = false
  | _, _ => True
def eqOk (C : Cl) (μ : Mu) : Nat → D → D → Prop
  | 0, _, _ => False
  | k + 1, x, y => match x, y with
    | .tup xs, .tup ys => ∀ (i : Nat) (a b : D), xs[i]? = some a → ys[i]? = some b → eqOk C μ k a b
    | .lst xs, .lst ys => ∀ (i : Nat) (a b : D), xs[i]? = some a → ys[i]? = some b → eqOk C μ k a b
    | .ins c xs, y => eqR C.T μ c y ∧ ∃ (f : Nat) (r : Bool), mthd C.T c 6 = some f ∧ (r = true ↔ D.ins c xs = y) ∧ C.low f [D.ins c xs, y] μ = .ok (.bl r) μ
    | x, .ins c ys => (eqK C.T μ x).isSome = true ∧ (∀ o c' fs', x = .obj o → μ[o]? = some (.ins c' fs') → isSubc C.T c c' = false) ∧ ∃ (f : Nat), mthd C.T c 6 = some f ∧ C.low f [D.ins c ys, x] μ = .ok (.bl false) μ
    | x, y => (flat x = true ∧ flat y = true ∧ mix x y = false) ∨ (∃ i j, eqK C.T μ x = some i ∧ eqK C.T μ y = some j ∧ (i ≠ j ∨ i = 3) ∧ eqS C.T μ x y)
open Classical in
noncomputable def eqD (C : Cl) (x y : D) (μ : Mu) : Res Bool := if eqOk C μ 7 x y then .ok (decide (x = y)) μ else .stuck
def borL : D → D
  | .bor _ xs => .lst xs
  | d => d

def truth (C : Cl) (d : D) (μ : Mu) : Res Bool := match d with
  | .non => .ok false μ
  | .bl b => .ok b μ
  | .int i => .ok (decide (i ≠ 0)) μ
  | .str _ => .stuck
  | .tup xs => .ok (!xs.isEmpty) μ
  | .lst xs => .ok (!xs.isEmpty) μ
  | .bor _ xs => .ok (!xs.isEmpty) μ
  | .ins c fs => (dcall C 11 (.ins c fs) [] μ).bind fun r m => (match r with
      | .bl b => .ok b m
      | _ => .stuck)
  | .obj _ => .stuck
def evNeg (C : Cl) (d : D) (μ : Mu) : Res D := match d with
  | .int i => .ok (.int (-i)) μ
  | .ins c fs => dcall C 4 (.ins c fs) [] μ
  | _ => .stuck
def B2.m : B2 → Nat
  | .add => 0
  | .sub => 1
  | .mul => 2
  | .bor => 3
  | .fdiv => 17
  | .mod => 18
  | .pow => 19
def rep (xs : List D) (n : Nat) : List D := (List.replicate n xs).flatten
def evB2 (C : Cl) (k : B2) (x y : D) (μ : Mu) : Res D := match k, x, y with
  | .add, .int i, .int j => .ok (.int (i + j)) μ
  | .sub, .int i, .int j => .ok (.int (i - j)) μ
  | .mul, .int i, .int j => if mulOk i j then .ok (.int (i * j)) μ else .stuck
  | .fdiv, .int i, .int j => if j ≠ 0 then .ok (.int (i.fdiv j)) μ else .stuck
  | .mod, .int i, .int j => if j ≠ 0 then .ok (.int (i.fmod j)) μ else .stuck
  | .pow, .int i, .int j => if 0 ≤ j ∧ j ≤ 1000000 ∧ i.natAbs < 2 ^ 64 then .ok (.int (i ^ j.toNat)) μ else .stuck
  | .add, .str a, .str b => if a.length + b.length ≤ LINE then .ok (.str (a ++ b)) μ else .stuck
  | .add, .lst xs, .lst ys => if xs.length + ys.length ≤ LINE then .ok (.lst (xs ++ ys)) μ else .stuck
  | k, .ins c xs, .ins c' ys => if c' = c then dcall C k.m (.ins c xs) [.ins c' ys] μ else .stuck
  | _, _, _ => .stuck
def resB : Res Bool → Res D := fun r => r.bind fun b m => .ok (.bl b) m
noncomputable def evIn (C : Cl) (x : D) : List D → Mu → Res Bool
  | [], μ => .ok false μ
  | y :: ys, μ => (eqD C y x μ).bind fun b m => if b then .ok true m else evIn C x ys m
def isNon : D → Bool
  | .non => true
  | _ => false
noncomputable def evCm (C : Cl) (k : Cm) (x y : D) (μ : Mu) : Res D := match k, x, y with
  | .eq, x, y => resB (eqD C x y μ)
  | .ne, x, y => resB ((eqD C x y μ).bind fun b m => .ok (!b) m)
  | .isd, x, .non => .ok (.bl (isNon x)) μ
  | .isd, .bl a, .bl b => .ok (.bl (decide (a = b))) μ
  | .isd, .obj a, .obj b => .ok (.bl (decide (a = b))) μ
  | .isn, x, .non => .ok (.bl (!isNon x)) μ
  | .isn, .bl a, .bl b => .ok (.bl (!decide (a = b))) μ
  | .isn, .obj a, .obj b => .ok (.bl (!decide (a = b))) μ
  | .lt, .int i, .int j => .ok (.bl (decide (i < j))) μ
  | .le, .int i, .int j => .ok (.bl (decide (i ≤ j))) μ
  | .gt, .int i, .int j => .ok (.bl (decide (j < i))) μ
  | .ge, .int i, .int j => .ok (.bl (decide (j ≤ i))) μ
  | .lt, .ins c xs, .ins c' ys => if c' = c then dcall C 7 (.ins c xs) [.ins c' ys] μ else .stuck
  | .le, .ins c xs, .ins c' ys => if c' = c then dcall C 8 (.ins c xs) [.ins c' ys] μ else .stuck
  | .gt, .ins c xs, .ins c' ys => if c' = c then dcall C 9 (.ins c xs) [.ins c' ys] μ else .stuck
  | .ge, .ins c xs, .ins c' ys => if c' = c then dcall C 10 (.ins c xs) [.ins c' ys] μ else .stuck
  | _, _, _ => .stuck

def noExc {α : Type} : Res α → Res α
  | .exc _ _ _ => .stuck
  | r => r
def fix (T : Tb) (c k : Nat) : Option Nat := (T.cls[c]?).bind fun i => i.flds.findIdx? (· == k)
def getAt (C : Cl) (d : D) (k : Nat) (μ : Mu) : Res D := match d with
  | .ins c fs => (match prp C.T c k with
    | some f => noExc (C.low f [d] μ)
    | none => (match (fix C.T c k).bind fun j => fs[j]? with
      | some v => .ok v μ
      | none => .stuck))
  | .obj a => (match μ[a]? with
    | some (.ins c fs) => (match prp C.T c k with
      | some f => noExc (C.low f [d] μ)
      | none => (match fs.lookup k with
        | some v => .ok v μ
        | none => .stuck))
    | _ => .stuck)
  | _ => .stuck
def items (μ : Mu) : D → Option (List D)
  | .lst xs => some xs
  | .tup xs => some xs
  | .bor _ xs => some xs
  | .obj a => (match μ[a]? with
    | some (.lst xs) => some xs
    | _ => none)
  | _ => none
def walk (brw : Bool) : D → Option (List D)
  | .lst xs => some xs
  | .tup xs => some xs
  | .bor _ xs => if brw then some xs else none
  | _ => none
def nth (xs : List D) (i : Int) : Option D := L2.atI xs i
def getIx (x i : D) (μ : Mu) : Res D := match items μ x, i with
  | some xs, .int i => (match nth xs i with
    | some v => .ok v μ
    | none => .stuck)
  | _, _ => .stuck
def cut (xs : List D) (lo hi : Option Int) : List D := (xs.drop (HT.sIx xs.length 0 lo)).take (HT.sIx xs.length xs.length hi - HT.sIx xs.length 0 lo)
def getSl (x : D) (lo hi : Option Int) : Option D := match x with
  | .lst xs => some (.lst (cut xs lo hi))
  | .bor _ xs => some (.lst (cut xs lo hi))
  | .tup xs => if HT.sIx xs.length 0 lo = 0 ∧ HT.sIx xs.length xs.length hi = xs.length then none else some (.tup (cut xs lo hi))
  | _ => none
def revD : D → Option D
  | .lst xs => some (.lst xs.reverse)
  | .bor _ xs => some (.lst xs.reverse)
  | .tup xs => some (.tup xs.reverse)
  | _ => none
def asI : D → Option Int
  | .int i => some i
  | _ => none
inductive Ty where | non | bl | int | str | lst | tup | ins (c : Nat)
def tyOf (μ : Mu) : D → Option Ty
  | .non => some .non
  | .bl _ => some .bl
  | .int _ => some .int
  | .str _ => some .str
  | .tup _ => some .tup
  | .lst _ => some .lst
  | .bor _ _ => some .lst
  | .ins c _ => some (.ins c)
  | .obj a => (match μ[a]? with
    | some (.lst _) => some .lst
    | some (.ins c _) => some (.ins c)
    | none => none)
def isTy (T : Tb) : Ty → Kd → Bool
  | .int, .int => true
  | .bl, .int => true
  | .bl, .bool => true
  | .str, .str => true
  | .lst, .list => true
  | .tup, .tuple => true
  | .ins c, .cls c' => (match T.cls[c]? with
    | some i => i.mro.contains c'
    | none => false)
  | _, _ => false
mutual
def bindT : Tg → D → Sg → Option Sg
  | .name i, d, σ => if nbD d then some (σ.set i (some (.val d))) else none
  | .tup ts, .tup xs, σ => bindTs ts xs σ
  | .tup ts, .lst xs, σ => bindTs ts xs σ
  | _, _, _ => none
def bindTs : Tgs → List D → Sg → Option Sg
  | .nil, [], σ => some σ
  | .cons t ts, x :: xs, σ => (bindT t x σ).bind fun σ' => bindTs ts xs σ'
  | _, _, _ => none
end
def wipeD (σ : Sg) : List Nat → Sg
  | [] => σ
  | v :: vs => (wipeD σ vs).set v none
def consO : Option D → List D → List D
  | some d, ds => d :: ds
  | none, ds => ds
def compL (turn : D → Mu → Res (Option D)) : List D → Mu → Res (List D)
  | [], μ => .ok [] μ
  | x :: xs, μ => (turn x μ).bind fun r m => (compL turn xs m).bind fun rs m => .ok (consO r rs) m
def zipD2 : List D → List D → List D
  | x :: xs, y :: ys => .tup [x, y] :: zipD2 xs ys
  | _, _ => []
def zipD3 : List D → List D → List D → List D
  | x :: xs, y :: ys, z :: zs => .tup [x, y, z] :: zipD3 xs ys zs
  | _, _, _ => []
def enumD : Nat → List D → List D
  | _, [] => []
  | n, x :: xs => .tup [.int (n : Int), x] :: enumD (n + 1) xs
def rngD (n : Int) : List D := (List.range n.toNat).map fun (i : Nat) => D.int (i : Int)
def getVar (σ : Sg) (i : Nat) (μ : Mu) : Res D := match σ[i]? with
  | some (some (.val d)) => .ok d μ
  | some (some (.own xs)) => .ok (.bor i xs) μ
  | _ => .stuck
def getSelf (σ : Sg) (i : Nat) : Option (List (Nat × D)) := match σ[i]? with
  | some (some (.self _ fs)) => some fs
  | some (some (.exn _ fs)) => some fs
  | _ => none
def getExn (σ : Sg) (i : Nat) : Option Nat := match σ[i]? with
  | some (some (.exn c _)) => some c
  | _ => none
def E.isVar : E → Option Nat
  | .var i => some i
  | _ => none

def absI (i : Int) : Int := if i < 0 then -i else i
def evLenO (C : Cl) (d : D) (μ : Mu) : Res D := match d with
  | .str s => if lim s.length then .ok (.int (s.length : Int)) μ else .stuck
  | .obj a => (dcallL C 14 (.obj a) [] μ).bind fun r m => (match r with
    | .int i => if 0 ≤ i ∧ i < 2 ^ 63 then .ok (.int i) m else .stuck
    | _ => .stuck)
  | _ => .stuck
def evLen (C : Cl) (d : D) (μ : Mu) : Res D := match items μ d with
  | some xs => .ok (.int (xs.length : Int)) μ
  | none => evLenO C d μ
def consP : Option PyData → Option (List PyData) → Option (List PyData)
  | some p, some ps => some (p :: ps)
  | _, _ => none
mutual
def toPy : D → Option PyData
  | .non => some .none
  | .bl b => some (.bool b)
  | .int i => some (.int i)
  | .str s => some (.str s)
  | .tup xs => (toPys xs).map .tuple
  | .lst xs => (toPys xs).map .list
  | _ => none
def toPys : List D → Option (List PyData)
  | [] => some []
  | d :: ds => consP (toPy d) (toPys ds)
end
def showT (p : PyData) : Option Str := if p.showable && decide (p.shown.length ≤ LINE) && decide (p.depth ≤ 50) then some p.shown else none
def reprT (d : D) : Option Str := (toPy d).bind showT
def evBl (C : Cl) (k : Bl) (xs : List D) (μ : Mu) : Res D := match k, xs with
  | .len, [d] => evLen C d μ
  | .abs, [.int i] => .ok (.int (absI i)) μ
  | .abs, [.ins c fs] => dcallL C 5 (.ins c fs) [] μ
  | .max, [.int i, .int j] => .ok (.int (if j > i then j else i)) μ
  | .min, [.int i, .int j] => .ok (.int (if j < i then j else i)) μ
  | .int, [.int i] => .ok (.int i) μ
  | .int, [.bl b] => .ok (.int (if b then 1 else 0)) μ
  | .bool, [.bl b] => .ok (.bl b) μ
  | .bool, [.ins c fs] => (dcallL C 11 (.ins c fs) [] μ).bind fun r m => (match r with
    | .bl b => .ok (.bl b) m
    | _ => .stuck)
  | .str, [.int i] => if i.natAbs.log2 < 1920 then .ok (.str (toString i)) μ else .stuck
  | .str, [.ins c fs] => (dcallL C 12 (.ins c fs) [] μ).bind fun r m => (match r with
    | .str t => .ok (.str t) m
    | _ => .stuck)
  | .repr, [.ins c fs] => (dcallL C 13 (.ins c fs) [] μ).bind fun r m => (match r with
    | .str t => .ok (.str t) m
    | _ => .stuck)
  | .repr, [d] => (match reprT d with
    | some t => .ok (.str t) μ
    | none => .stuck)
  | .list, [d] => (match items μ d with
    | some xs => .ok (.lst xs) μ
    | none => .stuck)
  | .tuple, [d] => (match items μ d with
    | some xs => .ok (.tup xs) μ
    | none => .stuck)
  | _, _ => .stuck
def fmtD : D → Option Str
  | .str t => if t.length ≤ LINE then some t else none
  | .int i => if i.natAbs.log2 < 1920 then some (toString i) else none
  | _ => none
def feq : D → D → Bool
  | .non, .non => true
  | .bl a, .bl b => a == b
  | .bl a, .int b => (if a then 1 else 0) == b
  | .int a, .bl b => a == (if b then 1 else 0)
  | .int a, .int b => a == b
  | .str a, .str b => a == b
  | _, _ => false
def bmOk : Bm → D → Bool
  | .count, .lst _ => true
  | _, _ => false
def evBm (C : Cl) (k : Bm) (x : D) (vs : List D) (μ : Mu) : Res D := match k, x, vs with
  | .count, .lst xs, [v] => if flat v && xs.all flat then .ok (.int ((xs.countP fun y => feq y v : Nat) : Int)) μ else .stuck
  | _, _, _ => .stuck
mutual
noncomputable def evE (C : Cl) : E → Sg → Mu → Res D
  | .var i, σ, μ => getVar σ i μ
  | .lit d, _, μ => .ok d μ
  | .glob _ d, _, μ => .ok d μ
  | .neg a, σ, μ => (evE C a σ μ).bind fun x m => evNeg C x m
  | .bin k a b, σ, μ => (evE C a σ μ).bind fun x m => (evE C b σ m).bind fun y m => evB2 C k x y m
  | .cmp k a b, σ, μ => (evE C a σ μ).bind fun x m => (evE C b σ m).bind fun y m => evCm C k x y m
  | .chain k k' a b c, σ, μ => (evE C a σ μ).bind fun x m => (evE C b σ m).bind fun y m => (evCm C k x y m).bind fun r m => match r with
    | .bl true => (evE C c σ m).bind fun z m => evCm C k' y z m
    | .bl false => .ok (.bl false) m
    | _ => .stuck
  | .bop isAnd a b, σ, μ => (evE C a σ μ).bind fun x m => (truth C x m).bind fun t m => if t = isAnd then evE C b σ m else .ok x m
  | .not a, σ, μ => (evE C a σ μ).bind fun x m => (truth C x m).bind fun t m => .ok (.bl (!t)) m
  | .ite c a b, σ, μ => (evT C c σ μ).bind fun t m => if t then evE C a σ m else evE C b σ m
  | .tup xs, σ, μ => (evEs C xs σ μ).bind fun vs m => if lim vs.length && vs.all nbD then .ok (.tup vs) m else .stuck
  | .lst xs, σ, μ => (evEs C xs σ μ).bind fun vs m => if lim vs.length && vs.all nbD then .ok (.lst vs) m else .stuck
  | .attr a k, σ, μ => match a.isVar.bind fun i => getSelf σ i with
    | some fs => (match fs.lookup k with
      | some v => .ok v μ
      | none => .stuck)
    | none => (evE C a σ μ).bind fun x m => getAt C x k m
  | .idx a b, σ, μ => (evE C a σ μ).bind fun x m => (evE C b σ m).bind fun y m => getIx x y m
  | .sl a lo hi, σ, μ => (evE C a σ μ).bind fun x m => (evEo C lo σ m).bind fun l m => (evEo C hi σ m).bind fun h m => match getSl x l h with
    | some d => .ok d m
    | none => .stuck
  | .rev a, σ, μ => (evE C a σ μ).bind fun x m => match revD x with
    | some d => .ok d m
    | none => .stuck
  | .call f xs, σ, μ => (evEs C xs σ μ).bind fun vs m => if vs.all nbD then C.call f vs m else .stuck
  | .make c xs, σ, μ => (evEs C xs σ μ).bind fun vs m => if vs.all nbD then C.make c vs m else .stuck
  | .meth a k xs, σ, μ => (evE C a σ μ).bind fun x m => match (clsOf m x).bind fun c => mthd C.T c k with
    | some f => (evEs C xs σ m).bind fun vs m2 => if vs.all nbD then C.call f (x :: vs) m2 else .stuck
    | none => .stuck
  | .blt k xs, σ, μ => (evEs C xs σ μ).bind fun vs m => evBl C k vs m
  | .cell xs, σ, μ => (evEs C xs σ μ).bind fun vs m => if lim vs.length && vs.all nbD then .ok (.obj m.length) (m ++ [.lst vs]) else .stuck
  | .qcall c k xs, σ, μ => (evEs C xs σ μ).bind fun vs m => match mthd C.T c k with
    | some f => if vs.all nbD then C.call f vs m else .stuck
    | none => .stuck
  | .bmeth a k xs, σ, μ => (evE C a σ μ).bind fun x m => if bmOk k x then (evEs C xs σ m).bind fun vs m => evBm C k x vs m else .stuck
  | .isin a _ ks, σ, μ => match a.isVar.bind fun i => getExn σ i with
    | some c => .ok (.bl (ks.any (isTy C.T (.ins c)))) μ
    | none => (evE C a σ μ).bind fun x m => match tyOf m x with
      | some t => .ok (.bl (ks.any (isTy C.T t))) m
      | none => .stuck
  | .comp elt t it cond vs, σ, μ => (evIt C true it σ μ).bind fun xs m => if lim xs.length then
      (noExc (compL (fun x m => match bindT t x (wipeD σ vs) with
        | some σ' => (evTo C cond σ' m).bind fun b m => if b then (evE C elt σ' m).bind fun d m => if nbD d then .ok (some d) m else .stuck else .ok none m
        | none => .stuck) xs m)).bind fun ds m => .ok (.lst ds) m
    else .stuck
  | .fstr xs, σ, μ => (evFs C xs Str.empty σ μ).bind fun t m => .ok (.str t) m
noncomputable def evEs (C : Cl) : Es → Sg → Mu → Res (List D)
  | .nil, _, μ => .ok [] μ
  | .cons star e es, σ, μ => (evE C e σ μ).bind fun x m => if star then (match items m x with
      | some xs => (evEs C es σ m).bind fun ys m => .ok (xs ++ ys) m
      | none => .stuck)
    else (evEs C es σ m).bind fun ys m => .ok (x :: ys) m
noncomputable def evFs (C : Cl) : Es → Str → Sg → Mu → Res Str
  | .nil, acc, _, μ => .ok acc μ
  | .cons _ e es, acc, σ, μ => (evE C e σ μ).bind fun x m => match fmtD x with
    | some t => if (acc ++ t).length ≤ LINE then evFs C es (acc ++ t) σ m else .stuck
    | none => .stuck
noncomputable def evEo (C : Cl) : Eo → Sg → Mu → Res (Option Int)
  | .none, _, μ => .ok none μ
  | .some e, σ, μ => (evE C e σ μ).bind fun x m => match x with
    | .int i => .ok (some i) m
    | _ => .stuck
noncomputable def evTo (C : Cl) : To → Sg → Mu → Res Bool
  | .none, _, μ => .ok true μ
  | .some t, σ, μ => evT C t σ μ
noncomputable def evT (C : Cl) : T → Sg → Mu → Res Bool
  | .e a, σ, μ => (evE C a σ μ).bind fun x m => truth C x m
  | .not t, σ, μ => (evT C t σ μ).bind fun b m => .ok (!b) m
  | .bop isAnd t u, σ, μ => (evT C t σ μ).bind fun b m => if b = isAnd then evT C u σ m else .ok b m
  | .ite c t u, σ, μ => (evT C c σ μ).bind fun b m => if b then evT C t σ m else evT C u σ m
noncomputable def evIt (C : Cl) (brw : Bool) : It → Sg → Mu → Res (List D)
  | .seq a, σ, μ => (evE C a σ μ).bind fun x m => match walk brw x with
    | some xs => .ok xs m
    | none => .stuck
  | .enum _, _, _ => .stuck
  | .zip2 _ _, _, _ => .stuck
  | .zip3 _ _ _, _, _ => .stuck
  | .rng a, σ, μ => (evE C a σ μ).bind fun x m => match x with
    | .int n => if n < 2 ^ 62 ∧ -(2 ^ 62) ≤ n then .ok (rngD n) m else .stuck
    | _ => .stuck
end
def putN (k : Nat) (v : D) (fs : List (Nat × D)) : List (Nat × D) := (k, v) :: fs
def whileN (test : Sg → Mu → Res Bool) (body : Sg → Mu → SR) : Nat → Sg → Mu → SR
  | 0, _, _ => .stuck
  | n + 1, σ, μ => (test σ μ).st σ fun t m => if t then (match body σ m with
      | .nx σ' m' => whileN test body n σ' m'
      | .brk σ' m' => .nx σ' m'
      | r => r) else .nx σ m
open Classical in
noncomputable def whileW (test : Sg → Mu → Res Bool) (body : Sg → Mu → SR) (σ : Sg) (μ : Mu) : SR :=
  if h : ∃ n, whileN test body n σ μ ≠ .stuck then whileN test body h.choose σ μ else .stuck
def forL (turn : D → Sg → Mu → SR) : List D → Sg → Mu → SR
  | [], σ, μ => .nx σ μ
  | x :: xs, σ, μ => match turn x σ μ with
    | .nx σ' m' => forL turn xs σ' m'
    | .brk σ' m' => .nx σ' m'
    | r => r
def fldOk (T : Tb) (c k : Nat) : Bool := match T.cls[c]? with
  | some i => i.flds.contains k
  | none => false
def setAtt (T : Tb) (σ : Sg) (i : Nat) (k : Nat) (v : D) : Option Sg := match σ[i]? with
  | some (some (.self c fs)) => if decide (fs.length < 100) && fldOk T c k then some (σ.set i (some (.self c (putN k v fs)))) else none
  | _ => none
def setSt (d : D) (k : Nat) (v : D) (μ : Mu) : Option Mu := match d with
  | .obj a => (match μ[a]? with
    | some (.ins c fs) => some (μ.set a (.ins c (putN k v fs)))
    | _ => none)
  | _ => none
def setIx (d i v : D) (μ : Mu) : Option Mu := match d, i with
  | .obj a, .int i => (match μ[a]? with
    | some (.lst xs) => if 0 ≤ i ∧ i < xs.length then some (μ.set a (.lst (xs.set i.toNat v))) else none
    | _ => none)
  | _, _ => none
def suiteIn (v : Option Nat) (c : Nat) (fs : List (Nat × D)) (σ : Sg) : Sg := match v with
  | some i => σ.set i (some (.exn c fs))
  | none => σ
def noX : Option L → Option L
  | some (.exn _ _) => none
  | o => o
def gone (v : Option Nat) (σ : Sg) : Sg := (match v with
  | some i => σ.set i none
  | none => σ).map noX
def suiteOut (v : Option Nat) : SR → SR
  | .nx σ m => .nx (gone v σ) m
  | .ret d σ m => .ret d (gone v σ) m
  | .brk σ m => .brk (gone v σ) m
  | _ => .stuck
def excOf (T : Tb) (c : Nat) (vs : List D) : Option (List (Nat × D)) := match T.cls[c]? with
  | some i => if i.flds.length = vs.length then some (i.flds.zip vs) else none
  | none => none
mutual
noncomputable def exS (C : Cl) : S → Sg → Mu → SR
  | .asg t e, σ, μ => (evE C e σ μ).st σ fun d m => match bindT t d σ with
    | some σ' => .nx σ' m
    | none => .stuck
  | .par ts es, σ, μ => (evEs C es σ μ).st σ fun vs m => match bindTs ts vs σ with
    | some σ' => .nx σ' m
    | none => .stuck
  | .own i es, σ, μ => (evEs C es σ μ).st σ fun vs m => if lim vs.length && vs.all nbD then .nx (σ.set i (some (.own vs))) m else .stuck
  | .ownc i e, σ, μ => (evE C e σ μ).st σ fun d m => match d with
    | .lst vs => .nx (σ.set i (some (.own vs))) m
    | _ => .stuck
  | .app i e, σ, μ => match σ[i]? with
    | some (some (.own xs)) => (evE C e σ μ).st σ fun d m => if nbD d && decide (xs.length < LINE) then .nx (σ.set i (some (.own (xs ++ [d])))) m else .stuck
    | _ => .stuck
  | .ext i e, σ, μ => match σ[i]? with
    | some (some (.own xs)) => (evE C e σ μ).st σ fun d m => match d with
      | .lst ys => if xs.length + ys.length ≤ LINE then .nx (σ.set i (some (.own (xs ++ ys)))) m else .stuck
      | _ => .stuck
    | _ => .stuck
  | .frz i, σ, μ => match σ[i]? with
    | some (some (.own xs)) => .nx (σ.set i (some (.val (.lst xs)))) μ
    | some (some (.val _)) => .nx σ μ
    | _ => .stuck
  | .setf a k e, σ, μ => (evE C e σ μ).st σ fun v m => if nbD v then (match a.isVar.bind fun i => setAtt C.T σ i k v with
    | some σ' => .nx σ' m
    | none => .stuck) else .stuck
  | .seti a b e, σ, μ => (evE C e σ μ).st σ fun v m => if nbD v then (evE C a σ m).st σ fun d m => (evE C b σ m).st σ fun i m => match setIx d i v m with
    | some m' => .nx σ m'
    | none => .stuck else .stuck
  | .aug i k e, σ, μ => (getVar σ i μ).st σ fun x m => (evE C e σ m).st σ fun y m => match k, x, y with
    | .add, .int a, .int b => .nx (σ.set i (some (.val (.int (a + b))))) m
    | _, _, _ => .stuck
  | .exp e, σ, μ => (evE C e σ μ).st σ fun _ m => .nx σ m
  | .sup _ _, _, _ => .stuck
  | .ret e, σ, μ => (evE C e σ μ).st σ fun d m => if nbD d then .ret d σ m else .stuck
  | .retn, σ, μ => .ret .non σ μ
  | .ite c a b, σ, μ => (evT C c σ μ).st σ fun t m => if t then exSs C a σ m else exSs C b σ m
  | .for_ t it b, σ, μ => (evIt C false it σ μ).st σ fun xs m => forL (fun x σ m => match bindT t x σ with
      | some σ' => exSs C b σ' m
      | none => .stuck) xs σ m
  | .while_ c b, σ, μ => whileW (fun σ m => evT C c σ m) (fun σ m => exSs C b σ m) σ μ
  | .brk, σ, μ => .brk σ μ
  | .pass, σ, μ => .nx σ μ
  | .raise c xs, σ, μ => if C.hot then .stuck else (evEs C xs σ μ).st σ fun vs m => if vs.all nbD then (match excOf C.T c vs with
    | some fs => .exc c fs σ m
    | none => .stuck) else .stuck
  | .try_ b hs, σ, μ => if C.hot then .stuck else (match exSs C b σ μ with
    | .exc c fs σ' m => exHs C hs c fs σ' m
    | r => r)
noncomputable def exSs (C : Cl) : Ss → Sg → Mu → SR
  | .nil, σ, μ => .nx σ μ
  | .cons s ss, σ, μ => (exS C s σ μ).seq fun σ' m => exSs C ss σ' m
noncomputable def exHs (C : Cl) : Hs → Nat → List (Nat × D) → Sg → Mu → SR
  | .nil, c, fs, σ, μ => .exc c fs σ μ
  | .cons c' v b hs, c, fs, σ, μ => if isSubc C.T c c' then suiteOut v (exSs C.heat b (suiteIn v c fs σ) μ) else exHs C hs c fs σ μ
end
def hsCls : Hs → List Nat
  | .nil => []
  | .cons c _ _ hs => c :: hsCls hs
def argsOf (i : FnI) (vs : List D) : Option (List D) := if vs.length ≤ i.np ∧ i.np ≤ vs.length + i.dfl.length then some (vs ++ i.dfl.drop (vs.length + i.dfl.length - i.np)) else none
def pad (n : Nat) (σ : Sg) : Sg := σ ++ List.replicate (n - σ.length) none
noncomputable def runF (C : Cl) (i : FnI) (vs : List D) (μ : Mu) : Res D := match argsOf i vs with
  | none => .stuck
  | some us => match exSs C i.body (pad i.names.length (us.map fun d => some (.val d))) μ with
    | .nx _ m => .ok .non m
    | .ret d _ m => .ok d m
    | .exc c fs _ m => .exc c fs m
    | _ => .stuck
def fldsOf (ks : List Nat) (fs : List (Nat × D)) : Option (List D) := ks.mapM fun k => fs.lookup k
def selfOut (c : Nat) (ks : List Nat) (σ : Sg) (m : Mu) : Res D := match σ with
  | some (.self c' fs) :: _ => if c' = c then (match fldsOf ks fs with
    | some ds => .ok (.ins c ds) m
    | none => .stuck) else .stuck
  | _ => .stuck
def excOut (c : Nat) (σ : Sg) (c' : Nat) (fs : List (Nat × D)) (m : Mu) : Res D := match σ with
  | some (.self c2 _) :: _ => if c2 = c then .exc c' fs m else .stuck
  | _ => .stuck
noncomputable def runI (C : Cl) (c : Nat) (ks : List Nat) (i : FnI) (vs : List D) (μ : Mu) : Res D := match argsOf i (.non :: vs) with
  | none => .stuck
  | some us => match exSs C i.body (pad i.names.length (some (.self c []) :: us.tail.map fun d => some (.val d))) μ with
    | .nx σ m => selfOut c ks σ m
    | .exc c' fs σ m => excOut c σ c' fs m
    | _ => .stuck
noncomputable def callT (T : Tb) (C : Cl) (f : Nat) (vs : List D) (μ : Mu) : Res D := match T.fns[f]? with
  | some i => if i.ok then runF C i vs μ else .stuck
  | none => .stuck
noncomputable def makeT (T : Tb) (C : Cl) (c : Nat) (vs : List D) (μ : Mu) : Res D := match T.cls[c]? with
  | some k => (match T.fns[k.init]? with
    | some i => if i.ok && !k.isexc then (if k.isval then runI C c k.flds i vs μ else (runF C i (.obj μ.length :: vs) (μ ++ [.ins c []])).bind fun r m => (match r with
      | .non => .ok (.obj μ.length) m
      | _ => .stuck)) else .stuck
    | none => .stuck)
  | none => .stuck
abbrev stuckF : Nat → List D → Mu → Res D := fun _ _ _ => .stuck
noncomputable def lvC (T : Tb) : Option Cl → Nat → List D → Mu → Res D
  | some C => callT T C
  | none => stuckF
noncomputable def lvM (T : Tb) : Option Cl → Nat → List D → Mu → Res D
  | some C => makeT T C
  | none => stuckF
noncomputable def nxtC (T : Tb) (h : Bool) (ls hs : List Cl) : Cl := ⟨T, lvC T ls[0]?, lvC T ls[1]?, lvM T ls[1]?, h, lvC T hs[0]?, lvC T hs[1]?, lvM T hs[1]?⟩
noncomputable def levs (T : Tb) : Nat → Bool → List Cl
  | 0 => fun _ => []
  | n + 1 => fun h => nxtC T h (levs T n h) (levs T n true) :: levs T n h
noncomputable def lev (T : Tb) (h : Bool) (n : Nat) : Cl := nxtC T h (levs T n h) (levs T n true)
theorem levs_at (T : Tb) (h : Bool) : ∀ (j n : Nat), (levs T (n + j + 1) h)[j]? = some (lev T h n)
  | 0, _ => rfl
  | j + 1, n => levs_at T h j n
theorem lev_T (T : Tb) (h : Bool) (n : Nat) : (lev T h n).T = T := rfl
theorem lev_hot (T : Tb) (h : Bool) (n : Nat) : (lev T h n).hot = h := rfl
theorem lev_heat (T : Tb) (h : Bool) (n : Nat) : (lev T h n).heat = lev T true n := rfl
theorem lev_call (T : Tb) (h : Bool) (n : Nat) : (lev T h (n + 1)).call = callT T (lev T h n) := rfl
theorem lev_low (T : Tb) (h : Bool) (n : Nat) : (lev T h (n + 2)).low = callT T (lev T h n) := rfl
theorem lev_make (T : Tb) (h : Bool) (n : Nat) : (lev T h (n + 2)).make = makeT T (lev T h n) := rfl
theorem lev_hcall (T : Tb) (h : Bool) (n : Nat) : (lev T h (n + 1)).hcall = callT T (lev T true n) := rfl
theorem lev_hlow (T : Tb) (h : Bool) (n : Nat) : (lev T h (n + 2)).hlow = callT T (lev T true n) := rfl
theorem lev_hmake (T : Tb) (h : Bool) (n : Nat) : (lev T h (n + 2)).hmake = makeT T (lev T true n) := rfl
end Ev

set_option maxRecDepth 100000
namespace Ev
open PySem L2
abbrev LSt := L2.St

structure Wd where
  P : Program
  w : World
  K : PySem.W.Frag
  mg : Str → Option Value
  base : Heap
  T : Tb
def an (T : Tb) (k : Nat) : Str := T.ats.getD k ""
def gadr (K : PySem.W.Frag) (x : Str) : Addr := match PySem.W.nsIn K mainGlobals x with
  | some (some (.ref a)) => a
  | _ => 0
def madr (K : PySem.W.Frag) (C : Addr) (m : Str) : Addr := match PySem.W.findIn K (.ref C) m with
  | some (some (.ref a)) => a
  | _ => 0
def padr (K : PySem.W.Frag) (C : Addr) (m : Str) : Addr := match PySem.W.recIn K (madr K C m) "property" with
  | some (.ref g :: _) => g
  | _ => 0
def fadr (K : PySem.W.Frag) (T : Tb) (p : Str × Option Str) : Addr := match p.2 with
  | none => gadr K p.1
  | some m => match PySem.W.recIn K (madr K (gadr K p.1) m) "property" with
    | some (.ref g :: _) => g
    | _ => madr K (gadr K p.1) m
def Wd.ca (W : Wd) (c : Nat) : Addr := match W.T.cls[c]? with
  | some i => gadr W.K i.name
  | none => 0

structure Em where
  G : Hp
  r : Nat → Option Addr

structure FldsAt (T : Tb) (ks : List Nat) (gs : List (Str × V)) (vs : List V) : Prop where
  len : vs.length = ks.length
  at_ : ∀ (j k : Nat), ks[j]? = some k → ∃ v, vs[j]? = some v ∧ gs.lookup (an T k) = some v
  no : ∀ n, (∀ k ∈ ks, an T k ≠ n) → gs.lookup n = none
def SqX (K : PySem.W.Frag) (G : Hp) (a : Addr) (vs : List V) : Prop := Rd G a (.lst vs) ∨ ∃ (its : Array Value) (n : Nat), K.lookup a = some { cls := .type "list", data := .seq its n } ∧ its.size ≤ sizeLine ∧ Vals vs its.toList
theorem SqX.sq {K : PySem.W.Frag} {G H : Hp} {a : Addr} {vs : List V} (h : SqX K G a vs) (s : ∀ a o, G a = some o → H a = some o) : SqL K H a vs := by
  rcases h with (h | ⟨o, h⟩) | ⟨its, n, h1, h2, h3⟩
  · exact .inl (.inl (s _ _ h))
  · exact .inl (.inr ⟨o, s _ _ h⟩)
  · exact .inr ⟨_, its, n, h1, rfl, rfl, rfl, h2, h3⟩
theorem sqT_sub {K : PySem.W.Frag} {G H : Hp} {a : Addr} {vs : List V} (h : SqT K G a vs) (s : ∀ a o, G a = some o → H a = some o) : SqT K H a vs := by
  rcases h with (h | ⟨o, h⟩) | h
  · exact .inl (.inl (s _ _ h))
  · exact .inl (.inr ⟨o, s _ _ h⟩)
  · exact .inr h
theorem SqX.mono {K : PySem.W.Frag} {G H : Hp} {a : Addr} {vs : List V} (h : SqX K G a vs) (s : ∀ a o, G a = some o → H a = some o) : SqX K H a vs := by
  rcases h with (h | ⟨o, h⟩) | h
  · exact .inl (.inl (s _ _ h))
  · exact .inl (.inr ⟨o, s _ _ h⟩)
  · exact .inr h
mutual
def Rep (W : Wd) (e : Em) : D → V → Prop
  | .non, v => v = .non
  | .bl b, v => v = .bl b
  | .int i, v => v = .int i
  | .str s, v => v = .str s
  | .tup xs, v => ∃ a vs, v = .ref a ∧ SqT W.K e.G a vs ∧ RepL W e xs vs
  | .lst xs, v => ∃ a vs, v = .ref a ∧ SqX W.K e.G a vs ∧ RepL W e xs vs
  | .ins c fs, v => ∃ a dx gs vs i, v = .ref a ∧ e.G a = some (.ins (W.ca c) dx gs) ∧ W.T.cls[c]? = some i ∧ i.isexc = false ∧ FldsAt W.T i.flds gs vs ∧ RepL W e fs vs
  | .obj i, v => ∃ a, v = .ref a ∧ e.r i = some a
  | .bor _ _, _ => False
def RepL (W : Wd) (e : Em) : List D → List V → Prop
  | [], vs => vs = []
  | d :: ds, vs => ∃ v r, vs = v :: r ∧ Rep W e d v ∧ RepL W e ds r
end
structure FldsM (W : Wd) (e : Em) (ks : List Nat) (fs : List (Nat × D)) (gs : List (Str × V)) : Prop where
  at_ : ∀ k d, fs.lookup k = some d → k ∈ ks ∧ ∃ v, gs.lookup (an W.T k) = some v ∧ Rep W e d v
  no : ∀ n, (∀ k ∈ ks, (fs.lookup k).isSome = true → an W.T k ≠ n) → gs.lookup n = none
def RepO (W : Wd) (e : Em) (H : Hp) (a : Addr) : SO → Prop
  | .lst xs => ∃ vs, H a = some (.lst vs) ∧ RepL W e xs vs
  | .ins c fs => ∃ dx gs i, H a = some (.ins (W.ca c) dx gs) ∧ W.T.cls[c]? = some i ∧ i.isexc = false ∧ FldsM W e i.flds fs gs ∧ gs.length ≤ 100
structure St0 (W : Wd) (e : Em) (μ : Mu) (H : Hp) : Prop where
  sub : ∀ a o, e.G a = some o → H a = some o
  cell : ∀ i o, μ[i]? = some o → ∃ a, e.r i = some a ∧ RepO W e H a o
  out : ∀ i, μ.length ≤ i → e.r i = none
  inj : ∀ i j a, e.r i = some a → e.r j = some a → i = j
  free : ∀ i a, e.r i = some a → e.G a = none
structure Ex (e : Em) (H : Hp) (e' : Em) (H' : Hp) : Prop where
  g : ∀ a o, e.G a = some o → e'.G a = some o
  r : ∀ i a, e.r i = some a → e'.r i = some a
  gn : ∀ a o, e'.G a = some o → e.G a = some o ∨ H a = none
  rn : ∀ i a, e'.r i = some a → e.r i = some a ∨ H a = none
  keep : ∀ a o, H a = some o → (∀ i, e.r i ≠ some a) → H' a = some o
  dom : ∀ a o, H a = some o → ∃ o', H' a = some o'
theorem Ex.refl (e : Em) (H : Hp) : Ex e H e H := ⟨fun _ _ h => h, fun _ _ h => h, fun _ _ h => .inl h, fun _ _ h => .inl h, fun _ _ h _ => h, fun _ o h => ⟨o, h⟩⟩
theorem none_back {H H' : Hp} (d : ∀ a o, H a = some o → ∃ o', H' a = some o') {a : Addr} (h : H' a = none) : H a = none := by
  cases e : H a with
  | none => rfl
  | some o =>
    obtain ⟨o', h'⟩ := d a o e
    rw [h] at h'; cases h'
theorem Ex.trans {e e1 e2 : Em} {H H1 H2 : Hp} (x : Ex e H e1 H1) (y : Ex e1 H1 e2 H2) : Ex e H e2 H2 where
  g := fun a o h => y.g a o (x.g a o h)
  r := fun i a h => y.r i a (x.r i a h)
  gn := fun a o h => (y.gn a o h).elim (fun h => x.gn a o h) fun h => .inr (none_back x.dom h)
  rn := fun i a h => (y.rn i a h).elim (fun h => x.rn i a h) fun h => .inr (none_back x.dom h)
  keep := fun a o h hr => y.keep a o (x.keep a o h hr) fun i hi => (x.rn i a hi).elim (fun z => hr i z) fun z => by rw [h] at z; cases z
  dom := fun a o h => let ⟨o1, h1⟩ := x.dom a o h; y.dom a o1 h1
mutual
theorem Rep.mono {W : Wd} {e e' : Em} (hg : ∀ a o, e.G a = some o → e'.G a = some o) (hr : ∀ i a, e.r i = some a → e'.r i = some a) : ∀ (d : D) (v : V), Rep W e d v → Rep W e' d v
  | .non, _, h => h
  | .bl _, _, h => h
  | .int _, _, h => h
  | .str _, _, h => h
  | .tup xs, _, h => by
    obtain ⟨a, vs, rfl, h1, h2⟩ := h
    refine ⟨a, vs, rfl, ?_, RepL.mono hg hr xs vs h2⟩
    rcases h1 with (h1 | ⟨o, h1⟩) | h1
    · exact .inl (.inl (hg _ _ h1))
    · exact .inl (.inr ⟨o, hg _ _ h1⟩)
    · exact .inr h1
  | .lst xs, _, h => by
    obtain ⟨a, vs, rfl, h1, h2⟩ := h
    exact ⟨a, vs, rfl, h1.mono hg, RepL.mono hg hr xs vs h2⟩
  | .ins c fs, _, h => by
    obtain ⟨a, dx, gs, vs, i, rfl, h1, h2, h3, h4, h5⟩ := h
    exact ⟨a, dx, gs, vs, i, rfl, hg _ _ h1, h2, h3, h4, RepL.mono hg hr fs vs h5⟩
  | .obj i, _, h => by
    obtain ⟨a, rfl, h1⟩ := h
    exact ⟨a, rfl, hr _ _ h1⟩
  | .bor _ _, _, h => h.elim
theorem RepL.mono {W : Wd} {e e' : Em} (hg : ∀ a o, e.G a = some o → e'.G a = some o) (hr : ∀ i a, e.r i = some a → e'.r i = some a) : ∀ (ds : List D) (vs : List V), RepL W e ds vs → RepL W e' ds vs
  | [], _, h => h
  | d :: ds, _, h => by
    obtain ⟨v, r, rfl, h1, h2⟩ := h
    exact ⟨v, r, rfl, Rep.mono hg hr d v h1, RepL.mono hg hr ds r h2⟩
end
theorem Rep.ex {W : Wd} {e e' : Em} {H H' : Hp} (x : Ex e H e' H') {d : D} {v : V} (h : Rep W e d v) : Rep W e' d v := h.mono x.g x.r d v
theorem RepL.ex {W : Wd} {e e' : Em} {H H' : Hp} (x : Ex e H e' H') {d : List D} {v : List V} (h : RepL W e d v) : RepL W e' d v := h.mono x.g x.r d v
theorem RepL.length {W : Wd} {e : Em} : ∀ {ds : List D} {vs : List V}, RepL W e ds vs → vs.length = ds.length
  | [], _, h => by rw [show _ = [] from h]; rfl
  | _ :: _, _, h => by
    obtain ⟨v, r, rfl, _, h2⟩ := h
    rw [List.length_cons, List.length_cons, h2.length]
theorem RepL.get {W : Wd} {e : Em} : ∀ {ds : List D} {vs : List V} {i : Nat} {d : D}, RepL W e ds vs → ds[i]? = some d → ∃ v, vs[i]? = some v ∧ Rep W e d v
  | [], _, _, _, _, h => by simp at h
  | d :: ds, _, 0, _, h, g => by
    obtain ⟨v, r, rfl, h1, _⟩ := h
    simp at g; subst g
    exact ⟨v, rfl, h1⟩
  | d :: ds, _, i + 1, _, h, g => by
    obtain ⟨v, r, rfl, _, h2⟩ := h
    obtain ⟨w, g1, g2⟩ := RepL.get (i := i) h2 (by simpa using g)
    exact ⟨w, by simpa using g1, g2⟩
theorem RepL.getV {W : Wd} {e : Em} : ∀ {ds : List D} {vs : List V} {i : Nat} {v : V}, RepL W e ds vs → vs[i]? = some v → ∃ d, ds[i]? = some d ∧ Rep W e d v
  | [], _, _, _, h, g => by rw [show _ = [] from h] at g; simp at g
  | d :: ds, _, 0, _, h, g => by
    obtain ⟨v, r, rfl, h1, _⟩ := h
    simp at g; subst g
    exact ⟨d, rfl, h1⟩
  | d :: ds, _, i + 1, _, h, g => by
    obtain ⟨v, r, rfl, _, h2⟩ := h
    obtain ⟨w, g1, g2⟩ := RepL.getV (i := i) h2 (by simpa using g)
    exact ⟨w, by simpa using g1, g2⟩
theorem RepL.nil {W : Wd} {e : Em} : RepL W e [] [] := rfl
theorem RepL.cons {W : Wd} {e : Em} {d : D} {v : V} {ds : List D} {vs : List V} (h : Rep W e d v) (t : RepL W e ds vs) : RepL W e (d :: ds) (v :: vs) := ⟨v, vs, rfl, h, t⟩
theorem RepL.append {W : Wd} {e : Em} : ∀ {ds es : List D} {vs us : List V}, RepL W e ds vs → RepL W e es us → RepL W e (ds ++ es) (vs ++ us)
  | [], _, _, _, h, g => by rw [show _ = [] from h]; exact g
  | d :: ds, es, _, us, h, g => by
    obtain ⟨v, r, rfl, h1, h2⟩ := h
    exact .cons h1 (RepL.append h2 g)
theorem RepL.take {W : Wd} {e : Em} : ∀ {ds : List D} {vs : List V} (n : Nat), RepL W e ds vs → RepL W e (ds.take n) (vs.take n)
  | _, _, 0, _ => rfl
  | [], _, n + 1, h => by rw [show _ = [] from h]; rfl
  | d :: ds, _, n + 1, h => by
    obtain ⟨v, r, rfl, h1, h2⟩ := h
    exact .cons h1 (RepL.take n h2)
theorem RepL.drop {W : Wd} {e : Em} : ∀ {ds : List D} {vs : List V} (n : Nat), RepL W e ds vs → RepL W e (ds.drop n) (vs.drop n)
  | _, _, 0, h => h
  | [], _, n + 1, h => by rw [show _ = [] from h]; rfl
  | d :: ds, _, n + 1, h => by
    obtain ⟨v, r, rfl, h1, h2⟩ := h
    exact RepL.drop n h2
theorem RepL.reverse {W : Wd} {e : Em} : ∀ {ds : List D} {vs : List V}, RepL W e ds vs → RepL W e ds.reverse vs.reverse
  | [], _, h => by rw [show _ = [] from h]; rfl
  | d :: ds, _, h => by
    obtain ⟨v, r, rfl, h1, h2⟩ := h
    rw [List.reverse_cons, List.reverse_cons]
    exact RepL.append (RepL.reverse h2) (.cons h1 .nil)
theorem RepL.set {W : Wd} {e : Em} {d : D} {v : V} (hd : Rep W e d v) : ∀ {ds : List D} {vs : List V} (i : Nat), RepL W e ds vs → RepL W e (ds.set i d) (vs.set i v)
  | [], _, _, h => by rw [show _ = [] from h]; rfl
  | _ :: ds, _, 0, h => by
    obtain ⟨v', r, rfl, _, h2⟩ := h
    exact .cons hd h2
  | _ :: ds, _, i + 1, h => by
    obtain ⟨v', r, rfl, h1, h2⟩ := h
    exact .cons h1 (RepL.set hd i h2)

structure En where
  h : Hp
  a : Addr
  d : Addr
  x : Option (Addr × Nat × Addr)
def PrivAt (e : Em) (H0 : En) (a : Addr) : Prop := e.G a = none ∧ (∀ i, e.r i ≠ some a) ∧ H0.h a = none
def RepS (W : Wd) (e : Em) (H0 : En) (H : Hp) : L → V → Prop
  | .val d, v => Rep W e d v
  | .own xs, v => ∃ a vs, v = .ref a ∧ H a = some (.lst vs) ∧ RepL W e xs vs ∧ PrivAt e H0 a
  | .self c fs, v => ∃ a dx gs i, (v = .ref a ∧ H0.a = a ∧ H0.d = dx) ∧ H a = some (.ins (W.ca c) dx gs) ∧ W.T.cls[c]? = some i ∧ i.isexc = false ∧ FldsM W e i.flds fs gs ∧ gs.length ≤ fs.length ∧ PrivAt e H0 a
  | .exn c fs, v => ∃ a dx gs i, v = .ref a ∧ H0.x = some (a, c, dx) ∧ H dx = some (.xd gs) ∧ W.T.cls[c]? = some i ∧ i.isexc = true ∧ FldsM W e i.flds fs gs ∧ e.G dx = none ∧ ∀ j, e.r j ≠ some dx
def L.priv : L → Bool
  | .own _ => true
  | .self _ _ => true
  | _ => false
structure Lo (W : Wd) (e : Em) (H0 : En) (σd : Sg) (σ : LSt) (H : Hp) : Prop where
  len : σ.length = σd.length
  at_ : ∀ (i : Nat) (l : L), σd[i]? = some (some l) → ∃ v, σ[i]? = some (some v) ∧ RepS W e H0 H l v
  ne : ∀ (i j : Nat) (l l' : L) (v : V), i ≠ j → σd[i]? = some (some l) → σd[j]? = some (some l') → l.priv = true → l'.priv = true → σ[i]? = some (some v) → σ[j]? ≠ some (some v)
theorem FldsM.ex {W : Wd} {e e' : Em} {H H' : Hp} (x : Ex e H e' H') {ks : List Nat} {fs : List (Nat × D)} {gs : List (Str × V)} (f : FldsM W e ks fs gs) : FldsM W e' ks fs gs :=
  ⟨fun k d h => let ⟨a, v, b, c⟩ := f.at_ k d h; ⟨a, v, b, c.ex x⟩, f.no⟩
theorem PrivAt.ex {e e' : Em} {H0 : En} {H H' : Hp} (x : Ex e H e' H') {a : Addr} {o : HO} (h : H a = some o) (p : PrivAt e H0 a) : PrivAt e' H0 a := by
  obtain ⟨p1, p2, p3⟩ := p
  refine ⟨?_, fun i z => ?_, p3⟩
  · cases q : e'.G a with
    | none => rfl
    | some u => rcases x.gn a u q with z | z
                · rw [p1] at z; cases z
                · rw [h] at z; cases z
  · rcases x.rn i a z with z | z
    · exact p2 i z
    · rw [h] at z; cases z
theorem privG {e e' : Em} {H H' : Hp} (x : Ex e H e' H') {q : Addr} {o : HO} (h : H q = some o) (p1 : e.G q = none) (p2 : ∀ j, e.r j ≠ some q) : e'.G q = none ∧ ∀ j, e'.r j ≠ some q := by
  refine ⟨?_, fun j z => ?_⟩
  · cases z : e'.G q with
    | none => rfl
    | some u => rcases x.gn q u z with z | z
                · rw [p1] at z; cases z
                · rw [h] at z; cases z
  · rcases x.rn j q z with z | z
    · exact p2 j z
    · rw [h] at z; cases z
theorem RepS.ex {W : Wd} {e e' : Em} {H0 : En} {H H' : Hp} (x : Ex e H e' H') : ∀ {l : L} {v : V}, RepS W e H0 H l v → RepS W e' H0 H' l v
  | .val _, _, h => Rep.ex x h
  | .own _, _, ⟨a, vs, q, h, r, p⟩ => ⟨a, vs, q, x.keep a _ h p.2.1, r.ex x, p.ex x h⟩
  | .self _ _, _, ⟨a, dx, gs, i, q, h, c, c2, f, z, p⟩ => ⟨a, dx, gs, i, q, x.keep a _ h p.2.1, c, c2, f.ex x, z, p.ex x h⟩
  | .exn _ _, _, ⟨a, dx, gs, i, q, hx, h, c, c2, f, g1, g2⟩ => ⟨a, dx, gs, i, q, hx, x.keep dx _ h g2, c, c2, f.ex x, privG x h g1 g2⟩
theorem Lo.ex {W : Wd} {e e' : Em} {H0 : En} {H H' : Hp} {σd : Sg} {σ : LSt} (x : Ex e H e' H') (l : Lo W e H0 σd σ H) : Lo W e' H0 σd σ H' :=
  ⟨l.len, fun i q h => let ⟨v, a, b⟩ := l.at_ i q h; ⟨v, a, b.ex x⟩, l.ne⟩

def Exa (W : Wd) (e : Em) (H : Hp) (c : Nat) (fs : List (Nat × D)) (cls : Value) (d : Option Addr) : Prop :=
  cls = .ref (W.ca c) ∧ ∃ dx gs i, d = some dx ∧ H dx = some (.xd gs) ∧ W.T.cls[c]? = some i ∧ i.isexc = true ∧ FldsM W e i.flds fs gs ∧ e.G dx = none ∧ ∀ j, e.r j ≠ some dx
def Aft {α : Type} (W : Wd) (e : Em) (H : Hp) (r : Res α) (K : α → Mu → Em → Hp → Prop) (E : XK) : Prop := match r with
  | .ok a m => ∀ e' H', Ex e H e' H' → St0 W e' m H' → K a m e' H'
  | .exc c fs m => ∀ e' H' cls d, Ex e H e' H' → St0 W e' m H' → Exa W e' H' c fs cls d → E cls d H'
  | .stuck => False
theorem Aft.bind {α β : Type} {W : Wd} {e : Em} {H : Hp} {r : Res α} {f : α → Mu → Res β} {K : β → Mu → Em → Hp → Prop} {E : XK} (h : Aft W e H (r.bind f) K E) : Aft W e H r (fun a m e1 H1 => Aft W e1 H1 (f a m) K E) E := by
  cases r with
  | ok a m =>
    intro e1 H1 x1 _
    have h : Aft W e H (f a m) K E := h
    cases q : f a m with
    | ok b m' =>
      rw [q] at h
      exact fun e2 H2 x2 s2 => h e2 H2 (x1.trans x2) s2
    | exc c fs m' =>
      rw [q] at h
      exact fun e2 H2 cls d x2 s2 z => h e2 H2 cls d (x1.trans x2) s2 z
    | stuck => rw [q] at h; exact h.elim
  | exc c fs m => exact h
  | stuck => exact h.elim
theorem Aft.imp {α : Type} {W : Wd} {e : Em} {H : Hp} {r : Res α} {K K' : α → Mu → Em → Hp → Prop} {E : XK} (h : Aft W e H r K E) (k : ∀ a m e' H', Ex e H e' H' → St0 W e' m H' → K a m e' H' → K' a m e' H') : Aft W e H r K' E := by
  cases r with
  | ok a m => exact fun e' H' x s => k a m e' H' x s (h e' H' x s)
  | exc c fs m => exact h
  | stuck => exact h.elim
theorem Aft.now {α : Type} {W : Wd} {e : Em} {H : Hp} {a : α} {m : Mu} {K : α → Mu → Em → Hp → Prop} {E : XK} (h : Aft W e H (.ok a m) K E) (s : St0 W e m H) : K a m e H := h e H (Ex.refl e H) s

def RepH (W : Wd) (e : Em) (H : Hp) : D → V → Prop
  | .bor _ xs, v => ∃ a vs, v = .ref a ∧ H a = some (.lst vs) ∧ RepL W e xs vs ∧ ∀ i, e.r i ≠ some a
  | d, v => Rep W e d v
theorem RepH.of {W : Wd} {e : Em} {H : Hp} : ∀ {d : D} {v : V}, nbD d = true → RepH W e H d v → Rep W e d v
  | .non, _, _, h => h
  | .bl _, _, _, h => h
  | .int _, _, _, h => h
  | .str _, _, _, h => h
  | .tup _, _, _, h => h
  | .lst _, _, _, h => h
  | .ins _ _, _, _, h => h
  | .obj _, _, _, h => h
  | .bor _ _, _, z, _ => Bool.noConfusion z
theorem RepH.to {W : Wd} {e : Em} {H : Hp} : ∀ {d : D} {v : V}, Rep W e d v → RepH W e H d v
  | .non, _, h => h
  | .bl _, _, h => h
  | .int _, _, h => h
  | .str _, _, h => h
  | .tup _, _, h => h
  | .lst _, _, h => h
  | .ins _ _, _, h => h
  | .obj _, _, h => h
  | .bor _ _, _, h => h.elim
theorem Rep.nb {W : Wd} {e : Em} : ∀ {d : D} {v : V}, Rep W e d v → nbD d = true
  | .non, _, _ => rfl
  | .bl _, _, _ => rfl
  | .int _, _, _ => rfl
  | .str _, _, _ => rfl
  | .tup _, _, _ => rfl
  | .lst _, _, _ => rfl
  | .ins _ _, _, _ => rfl
  | .obj _, _, _ => rfl
  | .bor _ _, _, h => h.elim
theorem RepH.ex {W : Wd} {e e' : Em} {H H' : Hp} (x : Ex e H e' H') : ∀ {d : D} {v : V}, RepH W e H d v → RepH W e' H' d v
  | .non, _, h => h
  | .bl _, _, h => h
  | .int _, _, h => h
  | .str _, _, h => h
  | .tup _, _, h => Rep.ex (W := W) x (d := .tup _) h
  | .lst _, _, h => Rep.ex (W := W) x (d := .lst _) h
  | .ins _ _, _, h => Rep.ex (W := W) x (d := .ins _ _) h
  | .obj _, _, h => Rep.ex (W := W) x (d := .obj _) h
  | .bor _ xs, _, h => by
    obtain ⟨a, vs, q, h1, h2, h3⟩ := h
    refine ⟨a, vs, q, x.keep a _ h1 h3, h2.ex x, fun i z => ?_⟩
    rcases x.rn i a z with z | z
    · exact h3 i z
    · rw [h1] at z; cases z
def RepHL (W : Wd) (e : Em) (H : Hp) : List D → List V → Prop
  | [], vs => vs = []
  | d :: ds, vs => ∃ v r, vs = v :: r ∧ RepH W e H d v ∧ RepHL W e H ds r
theorem RepHL.of {W : Wd} {e : Em} {H : Hp} : ∀ {ds : List D} {vs : List V}, ds.all nbD = true → RepHL W e H ds vs → RepL W e ds vs
  | [], _, _, h => h
  | d :: ds, _, z, h => by
    obtain ⟨v, r, rfl, h1, h2⟩ := h
    rw [List.all_cons, Bool.and_eq_true] at z
    exact .cons (RepH.of z.1 h1) (RepHL.of z.2 h2)
theorem RepHL.to {W : Wd} {e : Em} {H : Hp} : ∀ {ds : List D} {vs : List V}, RepL W e ds vs → RepHL W e H ds vs
  | [], _, h => h
  | d :: ds, _, h => by
    obtain ⟨v, r, rfl, h1, h2⟩ := h
    exact ⟨v, r, rfl, RepH.to h1, RepHL.to h2⟩
theorem RepHL.ex {W : Wd} {e e' : Em} {H H' : Hp} (x : Ex e H e' H') : ∀ {ds : List D} {vs : List V}, RepHL W e H ds vs → RepHL W e' H' ds vs
  | [], _, h => h
  | d :: ds, _, h => by
    obtain ⟨v, r, rfl, h1, h2⟩ := h
    exact ⟨v, r, rfl, h1.ex x, RepHL.ex x h2⟩
theorem RepHL.append {W : Wd} {e : Em} {H : Hp} : ∀ {ds es : List D} {vs us : List V}, RepHL W e H ds vs → RepHL W e H es us → RepHL W e H (ds ++ es) (vs ++ us)
  | [], _, _, _, h, g => by rw [show _ = [] from h]; exact g
  | d :: ds, es, _, us, h, g => by
    obtain ⟨v, r, rfl, h1, h2⟩ := h
    exact ⟨v, r ++ us, rfl, h1, RepHL.append h2 g⟩
theorem RepHL.length {W : Wd} {e : Em} {H : Hp} : ∀ {ds : List D} {vs : List V}, RepHL W e H ds vs → vs.length = ds.length
  | [], _, h => by rw [show _ = [] from h]; rfl
  | _ :: _, _, h => by
    obtain ⟨v, r, rfl, _, h2⟩ := h
    rw [List.length_cons, List.length_cons, h2.length]

theorem St0.frozen {W : Wd} {e : Em} {μ : Mu} {H : Hp} (s : St0 W e μ H) {a : Addr} (o : HO) (h : H a = none) :
    Ex e H ⟨upd e.G a o, e.r⟩ (upd H a o) ∧ St0 W ⟨upd e.G a o, e.r⟩ μ (upd H a o) := by
  have gn : e.G a = none := by
    cases q : e.G a with
    | none => rfl
    | some u => rw [s.sub a u q] at h; cases h
  have ra : ∀ i b, e.r i = some b → b ≠ a := fun i b hb z => by
    subst z
    by_cases hi : i < μ.length
    · obtain ⟨c, hc, hr⟩ := s.cell i μ[i] (by simp [hi])
      rw [hb] at hc; cases hc
      cases q : μ[i] with
      | lst xs => rw [q] at hr; obtain ⟨vs, h1, _⟩ := hr; rw [h] at h1; cases h1
      | ins c fs => rw [q] at hr; obtain ⟨dx, gs, i, h1, _⟩ := hr; rw [h] at h1; cases h1
    · rw [s.out i (by omega)] at hb; cases hb
  have x : Ex e H ⟨upd e.G a o, e.r⟩ (upd H a o) := by
    refine ⟨fun b u q => ?_, fun _ _ q => q, fun b u q => ?_, fun _ _ q => .inl q, fun b u q _ => ?_, fun b u q => ?_⟩
    · show upd e.G a o b = some u
      rw [upd_ne (ne_of_none q gn)]; exact q
    · by_cases hb : b = a
      · subst hb; exact .inr h
      · have q : upd e.G a o b = some u := q
        rw [upd_ne hb] at q; exact .inl q
    · rw [upd_ne (ne_of_none q h)]; exact q
    · exact ⟨u, by rw [upd_ne (ne_of_none q h)]; exact q⟩
  refine ⟨x, ⟨fun b u q => ?_, fun i u q => ?_, s.out, s.inj, fun i b q => ?_⟩⟩
  · by_cases hb : b = a
    · subst hb
      have q : upd e.G b o b = some u := q
      rw [upd_same] at q ⊢; exact q
    · have q : upd e.G a o b = some u := q
      rw [upd_ne hb] at q ⊢; exact s.sub b u q
  · obtain ⟨b, hb, hr⟩ := s.cell i u q
    refine ⟨b, hb, ?_⟩
    cases u with
    | lst xs =>
      obtain ⟨vs, h1, h2⟩ := hr
      exact ⟨vs, by rw [upd_ne (ra i b hb)]; exact h1, h2.ex x⟩
    | ins c fs =>
      obtain ⟨dx, gs, j, h1, h2, hx, h3, h4⟩ := hr
      exact ⟨dx, gs, j, by rw [upd_ne (ra i b hb)]; exact h1, h2, hx, h3.ex x, h4⟩
  · show upd e.G a o b = none
    rw [upd_ne (ra i b q)]; exact s.free i b q
theorem St0.rn {W : Wd} {e : Em} {μ : Mu} {H : Hp} (s : St0 W e μ H) {i : Nat} {a : Addr} (h : e.r i = some a) : i < μ.length := by
  rcases Nat.lt_or_ge i μ.length with z | z
  · exact z
  · rw [s.out i z] at h; cases h
theorem St0.rH {W : Wd} {e : Em} {μ : Mu} {H : Hp} (s : St0 W e μ H) {i : Nat} {a : Addr} (h : e.r i = some a) : ∃ o, H a = some o := by
  have hi := s.rn h
  obtain ⟨c, hc, hr⟩ := s.cell i μ[i] (by simp [hi])
  rw [h] at hc; cases hc
  cases q : μ[i] with
  | lst xs => rw [q] at hr; obtain ⟨vs, h1, _⟩ := hr; exact ⟨_, h1⟩
  | ins c fs => rw [q] at hr; obtain ⟨dx, gs, i, h1, _⟩ := hr; exact ⟨_, h1⟩
theorem RepO.ex {W : Wd} {e e' : Em} {H H' : Hp} (x : Ex e H e' H') {a : Addr} (k : H' a = H a) : ∀ {o : SO}, RepO W e H a o → RepO W e' H' a o
  | .lst xs, ⟨vs, h1, h2⟩ => ⟨vs, by rw [k]; exact h1, h2.ex x⟩
  | .ins c fs, ⟨dx, gs, j, h1, h2, hx, h3, h4⟩ => ⟨dx, gs, j, by rw [k]; exact h1, h2, hx, h3.ex x, h4⟩
theorem St0.celled {W : Wd} {e : Em} {μ : Mu} {H H' : Hp} (s : St0 W e μ H) {a : Addr} {o : HO} {so : SO} (h : H a = none) (ha : H' a = some o) (hk : ∀ b u, H b = some u → H' b = some u)
    (hr : ∀ e', Ex e H e' H' → RepO W e' H' a so) : ∃ e', Ex e H e' H' ∧ St0 W e' (μ ++ [so]) H' ∧ e'.r μ.length = some a ∧ e'.G = e.G := by
  have ra : ∀ i b, e.r i = some b → b ≠ a := fun i b hb z => by
    obtain ⟨u, hu⟩ := s.rH hb
    rw [z, h] at hu; cases hu
  have x : Ex e H ⟨e.G, fun i => if i = μ.length then some a else e.r i⟩ H' := by
    refine ⟨fun _ _ q => q, fun i b q => ?_, fun _ _ q => .inl q, fun i b q => ?_, fun b u q _ => hk b u q, fun b u q => ⟨u, hk b u q⟩⟩
    · show (if i = μ.length then some a else e.r i) = some b
      rw [if_neg (Nat.ne_of_lt (s.rn q))]; exact q
    · have q : (if i = μ.length then some a else e.r i) = some b := q
      by_cases hi : i = μ.length
      · rw [if_pos hi] at q; cases q; exact .inr h
      · rw [if_neg hi] at q; exact .inl q
  refine ⟨_, x, ⟨fun b u q => hk b u (s.sub b u q), fun i u q => ?_, fun i hi => ?_, fun i j b hi hj => ?_, fun i b q => ?_⟩, by simp, rfl⟩
  · by_cases hi : i < μ.length
    · rw [List.getElem?_append_left hi] at q
      obtain ⟨b, hb, hr⟩ := s.cell i u q
      obtain ⟨w, hw⟩ := s.rH hb
      refine ⟨b, by simp [Nat.ne_of_lt hi, hb], hr.ex x ?_⟩
      rw [hk b w hw, hw]
    · have hi' : i = μ.length := by
        have := (List.getElem?_eq_some_iff.mp q).1
        simp at this; omega
      subst hi'
      simp at q
      subst q
      exact ⟨a, by simp, hr _ x⟩
  · simp at hi
    show (if i = μ.length then some a else e.r i) = none
    rw [if_neg (by omega)]; exact s.out i (by omega)
  · have hi : (if i = μ.length then some a else e.r i) = some b := hi
    have hj : (if j = μ.length then some a else e.r j) = some b := hj
    by_cases h1 : i = μ.length
    · by_cases h2 : j = μ.length
      · omega
      · rw [if_pos h1] at hi; cases hi
        rw [if_neg h2] at hj
        exact absurd rfl (ra j _ hj)
    · by_cases h2 : j = μ.length
      · rw [if_pos h2] at hj; cases hj
        rw [if_neg h1] at hi
        exact absurd rfl (ra i _ hi)
      · rw [if_neg h1] at hi; rw [if_neg h2] at hj
        exact s.inj i j b hi hj
  · have q : (if i = μ.length then some a else e.r i) = some b := q
    show e.G b = none
    by_cases h1 : i = μ.length
    · rw [if_pos h1] at q; cases q
      cases z : e.G a with
      | none => rfl
      | some u => rw [s.sub a u z] at h; cases h
    · rw [if_neg h1] at q; exact s.free i b q
theorem St0.changed {W : Wd} {e : Em} {μ : Mu} {H : Hp} (s : St0 W e μ H) {i : Nat} {a : Addr} {o : HO} {so : SO} (hi : e.r i = some a)
    (hr : ∀ e', Ex e H e' (upd H a o) → RepO W e' (upd H a o) a so) : Ex e H e (upd H a o) ∧ St0 W e (μ.set i so) (upd H a o) := by
  have x : Ex e H e (upd H a o) := by
    refine ⟨fun _ _ q => q, fun _ _ q => q, fun _ _ q => .inl q, fun _ _ q => .inl q, fun b u q hn => ?_, fun b u q => ?_⟩
    · rw [upd_ne (fun z => hn i (by rw [z]; exact hi))]; exact q
    · by_cases hb : b = a
      · subst hb; exact ⟨o, upd_same⟩
      · exact ⟨u, by rw [upd_ne hb]; exact q⟩
  refine ⟨x, ⟨fun b u q => ?_, fun j u q => ?_, fun j hj => s.out j (by simpa using hj), s.inj, s.free⟩⟩
  · rw [upd_ne (fun z => by rw [z, s.free i a hi] at q; cases q)]; exact s.sub b u q
  · by_cases hj : j = i
    · subst hj
      have hl := s.rn hi
      rw [List.getElem?_set_self hl] at q
      cases q
      exact ⟨a, hi, hr e x⟩
    · rw [List.getElem?_set_ne (Ne.symm hj)] at q
      obtain ⟨b, hb, hr'⟩ := s.cell j u q
      refine ⟨b, hb, hr'.ex x ?_⟩
      rw [upd_ne (fun z => hj (s.inj j i a (by rw [← z]; exact hb) hi))]
end Ev

set_option maxRecDepth 100000
namespace EvH
open PySem PySem.Spec PyProof.Rows HotX
def WarmAt (A : Around) (h : Heap) : Prop := A.handled = none ∨ ∃ x, HotAt A x h
theorem WarmAt.in1 {A : Around} {h : Heap} (w : WarmAt A h) : WarmAt A.in1 h := w
def HasCtx (h : Heap) (a : Addr) : Prop := ∃ (o : Obj) (vs : Array Value), h.get? a = some o ∧ o.data = .fields vs ∧ vs[2]? = some .none
theorem WarmAt.keeps {A : Around} {h h' : Heap} (w : WarmAt A h) (k : ∀ b o, HasCtx h b → h.get? b = some o → h'.get? b = some o) : WarmAt A h' := by
  rcases w with w | ⟨x, hh, o, vs, g, d, c⟩
  · exact .inl w
  · exact .inr ⟨x, hh, o, vs, k x o ⟨o, vs, g, d, c⟩ g, d, c⟩
theorem WarmAt.but {A : Around} {h h' : Heap} {it : Addr} (w : WarmAt A h) (n : ¬ HasCtx h it) (k : ∀ b o, b ≠ it → h.get? b = some o → h'.get? b = some o) : WarmAt A h' :=
  w.keeps fun b o hb g => k b o (fun z => n (z ▸ hb)) g
theorem no_ctx {h : Heap} {a : Addr} {o : Obj} {vs : Array Value} (g : h.get? a = some o) (d : o.data = .fields vs) (z : vs[2]? ≠ some .none) : ¬ HasCtx h a := by
  rintro ⟨o', vs', g', d', c⟩
  rw [g] at g'; cases g'
  rw [d] at d'; cases d'
  exact z c
section
variable {prog : Program} {w : World} {A : Around} {E : Value → Shared → Prop} {s : Shared}
structure Rsd (h h' : Heap) (a : Addr) (oe : Obj) : Prop where
  keep : ∀ b o, b ≠ a → h.get? b = some o → h'.get? b = some o
  at_ : ∃ o, h'.get? a = some o ∧ o.cls = oe.cls
theorem raise_warm {α : Type} {a : Addr} {oe : Obj} {vs : Array Value} {Q : α → Shared → Prop} (hw : WarmAt A s.heap) (hn : A.handled ≠ some (.ref a)) (ha : s.heap.get? a = some oe) (da : oe.data = .fields vs) (hi : 2 < vs.size)
    (hE : ∀ h', Rsd s.heap h' a oe → E (.ref a) { s with heap := h' }) : wpAny (model prog w) A (raiseNew (.ref a) : Sem α) Q E s := by
  rcases hw with hh | ⟨x, hot⟩
  · simp only [raiseNew]
    refine wpAny_bind (wpAny_handled ?_)
    rw [hh]
    exact wpAny_bind (wpAny_pure (wpAny_throw (hE s.heap ⟨fun _ _ _ e => e, oe, ha, rfl⟩)))
  · refine raiseNew_hot hot (fun z => hn (by rw [hot.1, z])) ha da hi (hE _ ⟨fun b o hb e => ?_, _, Heap.get?_update_self _ ha (Obj.isFreed_of_fields (Obj.data_mapFields da _)), Obj.cls_mapFields ..⟩)
    rw [Heap.get?_update_other _ _ (Ne.symm hb)]
    exact e
theorem stop_warm {α : Type} {Q : α → Shared → Prop} (hw : WarmAt A s.heap)
    (hE : ∀ h' a, (∀ b o, s.heap.get? b = some o → h'.get? b = some o) → (∃ o, h'.get? a = some o ∧ o.cls = .type "StopIteration") → E (.ref a) { s with heap := h' }) :
    wpAny (model prog w) A (do let e ← newExc (.type "StopIteration") []; (raiseNew e : Sem α)) Q E s := by
  refine wpAny_bind ?_
  simp only [newExc, newTuple]
  refine wpAny_bind (wpAny_newObj_type ?_ (by size_fits))
  refine wpAny_bind (m := firstArgMember _ _) (wpAny_of_eq (a := Value.none) (by first | rfl | (simp only [firstArgMember]; rfl)) ?_)
  refine wpAny_newObj_type ?_ (by size_fits)
  refine raise_warm (hw.keeps fun b o _ e => Heap.get?_push_of_some _ (Heap.get?_push_of_some _ e)) (fun z => ?_) (Heap.get?_push_size _ rfl) rfl (by first | (simp; done) | (simp; omega) | (simp only [Array.size_append]; simp; omega)) fun h' r => hE h' _ (fun b o e => ?_) (r.at_.imp fun _ z => ⟨z.1, z.2⟩)
  · rcases hw with hh | ⟨x, hh, o, vs, g, d, c⟩
    · rw [hh] at z; cases z
    · rw [hh] at z
      have lt := Heap.lt_size (Heap.get?_push_of_some { cls := .type "tuple", data := .seq [].toArray } g)
      cases z
      exact absurd lt (Nat.lt_irrefl _)
  · have e1 := Heap.get?_push_of_some { cls := .type "tuple", data := .seq [].toArray } e
    exact r.keep b o (Nat.ne_of_lt (Heap.lt_size e1)) (Heap.get?_push_of_some _ e1)
theorem list_end_warm {it l : Addr} {i : Nat} {xs : Array Value} {Q : Option Value → Shared → Prop} (hw : WarmAt A s.heap) (hit : s.heap.IsListIter it l i) (hl : s.heap.IsList l xs) (hx : xs[i]? = none)
    (hQ : ∀ h', (∀ b o, b ≠ it → s.heap.get? b = some o → h'.get? b = some o) → Q none { s with heap := h' }) : wpAny (model prog w) A (pyNext (.ref it)) Q E s := by
  obtain ⟨o, ho, hc, hd⟩ := id hit
  obtain ⟨ol, hol, _, nl, hdl⟩ := hl
  have nc : ¬ HasCtx s.heap it := no_ctx ho hd (by simp)
  unfold pyNext
  refine wpAny_bind (wpAny_attempt (wpAny_callSpecial?_slot (name := Str.ofString "__next__") hit.typeIs slot_listiter_next (wpAny_call_entry slot_listiter_next hit.typeIs entry_listiter_next ?_ (args_listiter_next _))))
  show wpAny _ _ (field (.ref it) 0 >>= _) _ _ s
  refine wpAny_bind (wpAny_field ho hd (x := .ref l) rfl ?_)
  show wpAny _ _ (if (Value.ref l == Value.none) = true then _ else _) _ _ s
  rw [if_neg (show ¬ ((Value.ref l == Value.none) = true) from Bool.false_ne_true)]
  show wpAny _ _ (field (.ref it) 1 >>= _) _ _ s
  refine wpAny_bind (wpAny_field ho hd (x := .int i 0) rfl ?_)
  show wpAny _ _ (seqItems? (.ref l) >>= _) _ _ s
  refine wpAny_bind (wpAny_seqItems hol hdl ?_)
  simp only [Int.toNat_natCast, hx]
  refine wpAny_bind (wpAny_rule (wpAny_bind (wpAny_setField ho hd (by simp) ?_)))
  have k : ∀ b o', b ≠ it → s.heap.get? b = some o' → (s.heap.update it (Obj.mapFields (·.setIfInBounds 0 Value.none))).get? b = some o' := fun b o' hb e => by
    rw [Heap.get?_update_other _ _ (Ne.symm hb)]; exact e
  refine stop_warm (A := A.in1) (s := { s with heap := s.heap.update it (Obj.mapFields (·.setIfInBounds 0 Value.none)) }) (hw.but nc k) fun h' a kk ⟨oa, ha, hca⟩ => ?_
  refine wpAny_bind (wpAny_isInstance (T := "StopIteration") (b := true) ⟨oa, ha, hca⟩ isSubtype_stop ?_)
  exact wpAny_pure (hQ h' fun b o' hb e => kk b o' (k b o' hb e))

theorem tuple_end_warm {it t : Addr} {i : Nat} {xs : Array Value} {Q : Option Value → Shared → Prop} (hw : WarmAt A s.heap) (hit : s.heap.IsTupleIter it t i) (hl : s.heap.IsTuple t xs) (hx : xs[i]? = none)
    (hQ : ∀ h', (∀ b o, b ≠ it → s.heap.get? b = some o → h'.get? b = some o) → Q none { s with heap := h' }) : wpAny (model prog w) A (pyNext (.ref it)) Q E s := by
  obtain ⟨o, ho, hc, hd⟩ := id hit
  obtain ⟨ol, hol, _, nl, hdl⟩ := hl
  have nc : ¬ HasCtx s.heap it := no_ctx ho hd (by simp)
  unfold pyNext
  refine wpAny_bind (wpAny_attempt (wpAny_callSpecial?_slot (name := Str.ofString "__next__") hit.typeIs F.slot_tuple_iterator_next (wpAny_call_entry F.slot_tuple_iterator_next hit.typeIs F.entry_tuple_iterator_next ?_ (F.args_tuple_iterator_next_1 _))))
  show wpAny _ _ (field (.ref it) 0 >>= _) _ _ s
  refine wpAny_bind (wpAny_field ho hd (x := .ref t) rfl ?_)
  show wpAny _ _ (if (Value.ref t == Value.none) = true then _ else _) _ _ s
  rw [if_neg (show ¬ ((Value.ref t == Value.none) = true) from Bool.false_ne_true)]
  show wpAny _ _ (field (.ref it) 1 >>= _) _ _ s
  refine wpAny_bind (wpAny_field ho hd (x := .int i 0) rfl ?_)
  show wpAny _ _ (seqItems? (.ref t) >>= _) _ _ s
  refine wpAny_bind (wpAny_seqItems hol hdl ?_)
  simp only [Int.toNat_natCast, hx]
  refine wpAny_bind (wpAny_rule (wpAny_bind (wpAny_setField ho hd (by simp) ?_)))
  have k : ∀ b o', b ≠ it → s.heap.get? b = some o' → (s.heap.update it (Obj.mapFields (·.setIfInBounds 0 Value.none))).get? b = some o' := fun b o' hb e => by
    rw [Heap.get?_update_other _ _ (Ne.symm hb)]; exact e
  refine stop_warm (A := A.in1) (s := { s with heap := s.heap.update it (Obj.mapFields (·.setIfInBounds 0 Value.none)) }) (hw.but nc k) fun h' a kk ⟨oa, ha, hca⟩ => ?_
  refine wpAny_bind (wpAny_isInstance (T := "StopIteration") (b := true) ⟨oa, ha, hca⟩ isSubtype_stop ?_)
  exact wpAny_pure (hQ h' fun b o' hb e => kk b o' (k b o' hb e))

theorem range_end_warm {it : Addr} {x left step : Int} {Q : Option Value → Shared → Prop} (hw : WarmAt A s.heap) (hit : IsRangeIter s.heap it x left step) (hleft : left ≤ 0)
    (hQ : ∀ h', (∀ b o, b ≠ it → s.heap.get? b = some o → h'.get? b = some o) → Q none { s with heap := h' }) : wpAny (model prog w) A (pyNext (.ref it)) Q E s := by
  rcases hw with hh | ⟨x1, hot⟩
  · exact wpAny_pyNext_range_end hh hit hleft hQ
  · exact pyNext_range_end_hot hot hit hleft fun h' k => hQ h' fun b o _ => k b o
theorem unpack_tuple_warm {t : Addr} {xs : Array Value} {Q : List Value → Shared → Prop} (hw : WarmAt A s.heap) (ht : IsTup s.heap t xs)
    (hQ : ∀ h', (∀ b o, b ≠ s.heap.objs.size → s.heap.get? b = some o → h'.get? b = some o) → Q xs.toList { s with heap := h' }) : wpAny (model prog w) A (unpackItems (.ref t) xs.size none) Q E s := by
  have hlt : t ≠ s.heap.objs.size := let ⟨_, ho, _⟩ := ht; Nat.ne_of_lt (Heap.lt_size ho)
  have hT : s.heap.IsTuple t xs := ht
  unfold unpackItems notIterableAtAll
  refine wpAny_bind (wpAny_bind (wpAny_specialOf hT.typeIs slot_tuple_iter.lookup (wpAny_pure ?_)))
  rw [if_neg (by simp)]
  refine wpAny_bind (wpAny_holding (iter_tuple ht ?_))
  refine wpAny_bind (wpAny_holding (draw_tuple hlt xs.size 0 _ _ ⟨_, Heap.get?_push_size _ rfl, rfl, rfl⟩ (ht.push _) (by omega) fun h1 hit1 hs1 => ?_))
  have e0 : List.take xs.size (List.drop 0 xs.toList) = xs.toList := by rw [List.drop_zero]; exact List.take_of_length_le (by simp)
  rw [e0, if_neg (by simp)]
  have k1 : ∀ b o, b ≠ s.heap.objs.size → s.heap.get? b = some o → h1.get? b = some o := fun b o hb e => hs1.extBut b o hb (Heap.get?_push_of_some _ e)
  have ht1 : h1.IsTuple t xs := (hT.push _).extBut hs1.extBut hlt
  have nn : ¬ HasCtx s.heap s.heap.objs.size := fun ⟨_, _, g, _⟩ => absurd (Heap.lt_size g) (Nat.lt_irrefl _)
  refine wpAny_bind (wpAny_holding (tuple_end_warm (hw.but nn k1) hit1 ht1 (by simp) fun h2 k2 => ?_))
  rw [if_neg (by simp)]
  exact wpAny_pure (hQ h2 fun b o hb e => k2 b o hb (k1 b o hb e))
theorem unpack_list_warm {l : Addr} {xs : Array Value} {Q : List Value → Shared → Prop} (hw : WarmAt A s.heap) (hl : s.heap.IsList l xs)
    (hQ : ∀ h', (∀ b o, b ≠ s.heap.objs.size → s.heap.get? b = some o → h'.get? b = some o) → Q xs.toList { s with heap := h' }) : wpAny (model prog w) A (unpackItems (.ref l) xs.size none) Q E s := by
  have hlt : l ≠ s.heap.objs.size := let ⟨_, ho, _⟩ := hl; Nat.ne_of_lt (Heap.lt_size ho)
  unfold unpackItems notIterableAtAll
  refine wpAny_bind (wpAny_bind (wpAny_specialOf hl.typeIs slot_list_iter.lookup (wpAny_pure ?_)))
  rw [if_neg (by simp)]
  refine wpAny_bind (wpAny_holding (wpAny_pyIter_list hl ?_))
  refine wpAny_bind (wpAny_holding (PySem.W.kun_draw hlt xs.size 0 _ _ ⟨_, Heap.get?_push_size _ rfl, rfl, rfl⟩ (hl.push _) (by omega) fun h1 hit1 hs1 => ?_))
  have e0 : List.take xs.size (List.drop 0 xs.toList) = xs.toList := by rw [List.drop_zero]; exact List.take_of_length_le (by simp)
  rw [e0, if_neg (by simp)]
  have k1 : ∀ b o, b ≠ s.heap.objs.size → s.heap.get? b = some o → h1.get? b = some o := fun b o hb e => hs1.extBut b o hb (Heap.get?_push_of_some _ e)
  have hl1 : h1.IsList l xs := (hl.push _).extBut hs1.extBut hlt
  have nn : ¬ HasCtx s.heap s.heap.objs.size := fun ⟨_, _, g, _⟩ => absurd (Heap.lt_size g) (Nat.lt_irrefl _)
  refine wpAny_bind (wpAny_holding (list_end_warm (hw.but nn k1) hit1 hl1 (by simp) fun h2 k2 => ?_))
  rw [if_neg (by simp)]
  exact wpAny_pure (hQ h2 fun b o hb e => k2 b o hb (k1 b o hb e))
end
end EvH

set_option maxRecDepth 100000
set_option maxHeartbeats 2000000
namespace EvW
open PySem PySem.Spec PyProof.Rows L2 EvH
abbrev St := L2.St
def Warm (X : Cx) : Prop := X.calm = true ∨ L2H.HotC X
section
variable {X : Cx} {pins : List (Addr × Obj)} {σ : St} {H : Hp} {s : Shared}
theorem Warm.at_ (w : Warm X) (I : Inv X pins σ H s) : WarmAt X.A s.heap := by
  rcases w with c | c
  · exact .inl (I.ok.hd c)
  · exact .inr (c.at I)
end
section
variable {X : Cx} {pos : Pos}
theorem pg_tupW {es : List Expr} {k : Nat} {t : TGs} {n : Nat} (hc : Warm X) (h : PGs X es t) (hn : (assignEach es X.env).length = n) (hst : (assignEach es X.env).findIdx? (·.1) = none) : PG X (.Tuple es k pos) (gTup X.K n t) := by
  constructor
  intro pins s σ H v u Q I r hw
  obtain ⟨a, xs, rfl, hq, hl, hw⟩ := hw
  cases r
  obtain ⟨its, rv, ht, hz⟩ := I.tuple hq
  have hsz : (assignEach es X.env).length = its.toArray.size := by simp [hn, ← hl, rv.length]
  rw [PyProof.Rows.assign_Tuple]
  unfold unpack
  rw [hsz, hst]
  refine wpAny_bind (wpAny_standAt (wpAny_bind (wpAny_holding (unpack_tuple_warm (hc.at_ I) ht fun h1 hx => ?_))))
  exact h.run pins _ σ H xs _ Q (I.kept (h' := h1) (t' := s.toks) fun b o e => hx b o (Nat.ne_of_lt (Heap.lt_size e)) e) (by simpa using rv) hw
theorem pg_lstW {es : List Expr} {k : Nat} {t : TGs} {n : Nat} (hc : Warm X) (h : PGs X es t) (hn : (assignEach es X.env).length = n) (hst : (assignEach es X.env).findIdx? (·.1) = none) : PG X (.Tuple es k pos) (gLst X.K n t) := by
  constructor
  intro pins s σ H v u Q I r hw
  obtain ⟨a, xs, rfl, hq, hl, hw⟩ := hw
  cases r
  obtain ⟨its, rv, pl, hz⟩ := I.list hq
  have hsz : (assignEach es X.env).length = its.toArray.size := by simp [hn, ← hl, rv.length]
  rw [PyProof.Rows.assign_Tuple]
  unfold unpack
  rw [hsz, hst]
  refine wpAny_bind (wpAny_standAt (wpAny_bind (wpAny_holding (unpack_list_warm (hc.at_ I) pl.isList fun h1 hx => ?_))))
  exact h.run pins _ σ H xs _ Q (I.kept (h' := h1) (t' := s.toks) fun b o e => hx b o (Nat.ne_of_lt (Heap.lt_size e)) e) (by simpa using rv) hw
theorem ps_parW {i j : Nat} {x y : Str} {a b : Expr} {ta : TA} {px py pt : Pos} {kt k2 pt2} (hc : Warm X) (hN : X.N.Nodup) (hi : X.N[i]? = some x) (hj : X.N[j]? = some y) (hij : i ≠ j)
    (hx : X.env.scope.names.lookup x = some .local) (hy : X.env.scope.names.lookup y = some .local) (ha : PA X [a, b] ta)
    (hw : swappedStores [.Tuple [.Name x px, .Name y py] kt pt] (.Tuple [a, b] k2 pt2) X.env = pure (some [x, y]))
    (hs : swapsWithSole [.Tuple [.Name x px, .Name y py] kt pt] (.Tuple [a, b] k2 pt2) pos.line X.env = pure false := by rfl) :
    PS X (.Assign [.Tuple [.Name x px, .Name y py] kt pt] (.Tuple [a, b] k2 pt2) pos) (tPar i j ta) := by
  constructor
  intro pins s σ H D I h
  rw [exec_Assign_arm]
  refine wpAny_bind (wpAny_standAt ?_)
  rw [hs]
  refine wpAny_bind (wpAny_pure ?_)
  rw [if_neg (by decide)]
  refine wpAny_bind (Tuple_ (thn (ha.run _ pins s σ H _ I h) fun us s1 ⟨vs, H1, I1, r1, q1⟩ => ?_))
  obtain ⟨v, z, rfl, q1⟩ := q1
  obtain ⟨u1, u2, rfl, rv, rz⟩ := vals2 r1
  refine wpAny_newObj_type ?_ (by show 2 ≤ sizeLine; decide)
  generalize hs2 : ({ s1 with heap := s1.heap.push { cls := .type "tuple", data := .seq [u1, u2].toArray } } : Shared) = s2
  have I2 : Inv X pins σ H1 s2 := by rw [← hs2]; exact I1.kept (t' := s1.toks) fun b o e => Heap.get?_push_of_some _ e
  have hT : IsTup s2.heap s1.heap.objs.size #[u1, u2] := by rw [← hs2]; exact IsTup.new s1.heap _
  rw [hw]
  refine wpAny_bind (wpAny_pure ?_)
  show wpAny _ _ (rule "assign.swapped-stores" >>= fun _ => unpackItems (.ref s1.heap.objs.size) 2 none >>= fun its => assignInOrder [fun v => bindName X.env y v, fun v => bindName X.env x v] its.reverse >>= fun _ => pure Flow.next) _ _ _
  refine wpAny_bind (wpAny_rule (wpAny_bind (unpack_tuple_warm (xs := #[u1, u2]) (hc.at_ I2) hT fun h1 k1 => ?_)))
  have I3 := I2.kept (h' := h1) (t' := s2.toks) fun b o e => k1 b o (Nat.ne_of_lt (Heap.lt_size e)) e
  show wpAny _ _ (assignInOrder [fun v => bindName X.env y v, fun v => bindName X.env x v] [u2, u1] >>= fun _ => pure Flow.next) _ _ _
  refine wpAny_bind (assignInOrder_cons (wpAny_bindName (store_ok I3 hN hj (.inl hy) rz (fun s4 I4 => ?_) (.inr hy))))
  refine assignInOrder_cons (wpAny_bindName (store_ok I4 hN hi (.inl hx) rv (fun s5 I5 => assignInOrder_nil (wpAny_pure ?_)) (.inr hx)))
  rw [List.set_comm _ _ (Ne.symm hij)] at I5
  exact ⟨_, H1, I5, q1⟩
end
structure TurnW (P : Program) (w : World) (K : PySem.W.Frag) (tg : Expr) (J : It) (fp : List Addr) (it : Addr) (tn : Nat → Heap → Prop) : Prop where
  mem : it ∈ fp
  obj : ∀ i h, tn i h → ∀ b ∈ fp, ∃ o, h.get? b = some o ∧ ∀ v, o.data ≠ .cell v
  keep : ∀ i h h', tn i h → (∀ b ∈ fp, ∀ o, h.get? b = some o → h'.get? b = some o) → tn i h'
  item : ∀ (X : Cx), X.prog = P → X.w = w → X.K = K → Warm X → ∀ (i : Nat) (pins : List (Addr × Obj)) (s : Shared) (σ : St) (H : Hp) (E : Value → Shared → Prop), Inv X pins σ H s → (∀ b ∈ fp, FpOk X pins H b) → tn i s.heap → J.go i H →
    wpAny (model P w) X.A (pyNext (.ref it)) (fun r s1 => ∃ u, r = some u ∧
      wpAny (model P w) X.A (letOwnedTupleGo tg (.ref it) u) (fun _ s2 => ∃ x H', Inv X pins σ H' s2 ∧ RelV x u ∧ J.yld i H x H' ∧ tn (i + 1) s2.heap ∧ ∀ b ∈ fp, H' b = none) E s1) E s
  done : ∀ (X : Cx), X.prog = P → X.w = w → X.K = K → Warm X → ∀ (i : Nat) (pins : List (Addr × Obj)) (s : Shared) (σ : St) (H : Hp) (E : Value → Shared → Prop), Inv X pins σ H s → (∀ b ∈ fp, FpOk X pins H b) → tn i s.heap → J.stop i H →
    wpAny (model P w) X.A (pyNext (.ref it)) (fun r s1 => r = none ∧ Inv X pins σ H s1) E s
  self : ∀ (A : Around) (i : Nat) (s : Shared) (Q : Value → Shared → Prop) (E : Value → Shared → Prop), tn i s.heap → Q (.ref it) s → wpAny (model P w) A (pyIter (.ref it)) Q E s
theorem one_mem {b it : Addr} (hb : b ∈ [it]) : b = it := by simpa using hb
theorem turn_listW {P : Program} {w : World} {K : PySem.W.Frag} {tg : Expr} (a it : Addr) : TurnW P w K tg (Itl K a) [it] it (fun i h => h.IsListIter it a i) where
  mem := by simp
  obj := fun i h st b hb => by
    cases one_mem hb
    obtain ⟨o, e, c, d⟩ := st
    exact ⟨o, e, fun v z => by rw [d] at z; cases z⟩
  keep := fun i h h' st k => st.at fun o e => k it (by simp) o e
  item := by
    rintro X rfl rfl rfl hc i pins s σ H E I hf st ⟨xs, x, hq, hx⟩
    obtain ⟨its, rv, p, hz⟩ := I.list hq
    obtain ⟨u, hu, ru⟩ := rv.get hx
    obtain ⟨f0, f1, f2, f3, f4, f5⟩ := hf it (by simp)
    refine wpAny_pyNext_list_item st p.isList (x := u) (by simpa using hu) fun h1 st1 sb => ?_
    have I1 : Inv X pins σ H { s with heap := h1 } := I.turned (t' := s.toks) (fun b o hb e => (sb.2 b hb).trans e) f0 f1 f3 f4 f5
    obtain ⟨o, e, c, d⟩ := id st1
    exact ⟨u, rfl, go_of (s := { s with heap := h1 }) e c d (by decide) ⟨x, H, I1, ru, ⟨rfl, fun ys hy => by rw [I.list_inj hy hq]; exact hx⟩, st1, fun b hb => (hf b hb).1⟩⟩
  done := by
    rintro X rfl rfl rfl hc i pins s σ H E I hf st ⟨xs, hq, hx⟩
    obtain ⟨its, rv, p, hz⟩ := I.list hq
    obtain ⟨f0, f1, f2, f3, f4, f5⟩ := hf it (by simp)
    have hl := rv.length
    exact list_end_warm (hc.at_ I) st p.isList (by simp; omega) fun h1 eb => ⟨rfl, I.turned (t' := s.toks) (fun b o hb e => eb b o hb e) f0 f1 f3 f4 f5⟩
  self := fun _ _ _ _ _ st h => wpAny_pyIter_listiter st h
theorem turn_tupleW {P : Program} {w : World} {K : PySem.W.Frag} {tg : Expr} (a it : Addr) : TurnW P w K tg (Itt K a) [it] it (fun i h => h.IsTupleIter it a i) where
  mem := by simp
  obj := fun i h st b hb => by
    cases one_mem hb
    obtain ⟨o, e, c, d⟩ := st
    exact ⟨o, e, fun v z => by rw [d] at z; cases z⟩
  keep := fun i h h' st k => st.at fun o e => k it (by simp) o e
  item := by
    rintro X rfl rfl rfl hc i pins s σ H E I hf st ⟨xs, x, hq, hx⟩
    obtain ⟨its, rv, p, hz⟩ := I.tuple hq
    obtain ⟨u, hu, ru⟩ := rv.get hx
    obtain ⟨f0, f1, f2, f3, f4, f5⟩ := hf it (by simp)
    refine wpAny_pyNext_tuple_item st (show s.heap.IsTuple a its.toArray from p) (x := u) (by simpa using hu) fun h1 st1 sb => ?_
    have I1 : Inv X pins σ H { s with heap := h1 } := I.turned (t' := s.toks) (fun b o hb e => (sb.2 b hb).trans e) f0 f1 f3 f4 f5
    obtain ⟨o, e, c, d⟩ := id st1
    exact ⟨u, rfl, go_of (s := { s with heap := h1 }) e c d (by decide) ⟨x, H, I1, ru, ⟨rfl, fun ys hy => by rw [I.tuple_inj hy hq]; exact hx⟩, st1, fun b hb => (hf b hb).1⟩⟩
  done := by
    rintro X rfl rfl rfl hc i pins s σ H E I hf st ⟨xs, hq, hx⟩
    obtain ⟨its, rv, p, hz⟩ := I.tuple hq
    obtain ⟨f0, f1, f2, f3, f4, f5⟩ := hf it (by simp)
    have hl := rv.length
    exact tuple_end_warm (hc.at_ I) st (show s.heap.IsTuple a its.toArray from p) (by simp; omega) fun h1 eb => ⟨rfl, I.turned (t' := s.toks) (fun b o hb e => eb b o hb e) f0 f1 f3 f4 f5⟩
  self := fun _ _ _ _ _ st h => wpAny_pyIter_tupleiter st h
end EvW

set_option maxRecDepth 100000
set_option maxHeartbeats 2000000
namespace EvW
open PySem PySem.Spec PyProof.Rows L2 EvH
theorem turn_rangeW {P : Program} {w : World} {K : PySem.W.Frag} {tg : Expr} (it : Addr) (lo : Int) (n : Nat) : TurnW P w K tg (Itr lo n) [it] it (fun i h => IsRangeIter h it (lo + (i : Nat) * 1) ((n : Int) - (i : Nat)) 1) where
  mem := by simp
  obj := (turn_range (P := P) (w := w) (K := K) (tg := tg) it lo n).obj
  keep := fun i h h' st k => k it (by simp) _ st
  item := fun X h1 h2 h3 hc => hc.elim (fun c => (turn_range (tg := tg) it lo n).item X h1 h2 h3 c) fun c => (L2H.turn_rangeH (tg := tg) it lo n).item X h1 h2 h3 c
  done := fun X h1 h2 h3 hc => hc.elim (fun c => (turn_range (tg := tg) it lo n).done X h1 h2 h3 c) fun c => (L2H.turn_rangeH (tg := tg) it lo n).done X h1 h2 h3 c
  self := fun _ _ _ _ _ st h => wpAny_pyIter_rangeiter st h
def PIEW (X : Cx) (pins : List (Addr × Obj)) (σ : St) (tg : Expr) (R : It → Hp → Prop) (itv : Value) (s2 : Shared) : Prop :=
  ∃ (it : Addr) (fp : List Addr) (tn : Nat → Heap → Prop) (J : It) (H' : Hp), itv = .ref it ∧ Inv X pins σ H' s2 ∧ TurnW X.prog X.w X.K tg J fp it tn ∧ tn 0 s2.heap ∧ (∀ b ∈ fp, FpOk X pins H' b) ∧ R J H'
structure PIW (X : Cx) (tg iter : Expr) (wi : TI) : Prop where
  run : ∀ (pins : List (Addr × Obj)) (s : Shared) (σ : St) (H : Hp) (R : It → Hp → Prop), Inv X pins σ H s → wi σ H R →
    wpAny (model X.prog X.w) X.A (eval iter X.env) (fun v s1 => wpAny (model X.prog X.w) X.A (pyIter v) (PIEW X pins σ tg R) X.xe s1) X.xe s
section
variable {X : Cx} {tg : Expr}
theorem new_fp {pins : List (Addr × Obj)} {σ : St} {H : Hp} {s : Shared} (I : Inv X pins σ H s) : ∀ b ∈ [s.heap.objs.size], FpOk X pins H b := fun b hb => by
  cases one_mem hb
  exact I.fpOk (Nat.le_refl _) (I.hok.fresh (Nat.le_refl _))
theorem pi_listW {l : Expr} {tl : TE} (hl : PE X l tl) : PIW X tg l (iList X.K tl) := by
  constructor
  intro pins s σ H R I h
  refine thn (hl.run pins s σ H _ I h) fun v s1 ⟨x, H1, I1, r1, a, ex, ⟨xs, hq⟩, q⟩ => ?_
  subst ex
  cases r1
  obtain ⟨its, rv, p, hz⟩ := I1.list hq
  exact wpAny_pyIter_list p.isList ⟨s1.heap.objs.size, [s1.heap.objs.size], _, _, H1, rfl, I1.kept (t' := s1.toks) fun b o e => Heap.get?_push_of_some _ e, turn_listW a _, ⟨_, Heap.get?_push_size _ rfl, rfl, rfl⟩, new_fp I1, q⟩
theorem pi_tupW {l : Expr} {tl : TE} (hl : PE X l tl) : PIW X tg l (iTup X.K tl) := by
  constructor
  intro pins s σ H R I h
  refine thn (hl.run pins s σ H _ I h) fun v s1 ⟨x, H1, I1, r1, a, ex, ⟨xs, hq⟩, q⟩ => ?_
  subst ex
  cases r1
  obtain ⟨its, rv, p, hz⟩ := I1.tuple hq
  exact wpAny_pyIter_tuple (show s1.heap.IsTuple a its.toArray from p) ⟨s1.heap.objs.size, [s1.heap.objs.size], _, _, H1, rfl, I1.kept (t' := s1.toks) fun b o e => Heap.get?_push_of_some _ e, turn_tupleW a _, ⟨_, Heap.get?_push_size _ rfl, rfl, rfl⟩, new_fp I1, q⟩
theorem range_itW {pins : List (Addr × Obj)} {σ : St} {H : Hp} {s : Shared} {R : It → Hp → Prop} {E : Value → Shared → Prop} {lo hi : Int} {t u v : Tok} {tk : Nat} (I : Inv X pins σ H s) (h1 : -(2 ^ 62) ≤ lo) (h2 : lo < 2 ^ 62) (h3 : -(2 ^ 62) ≤ hi) (h4 : hi < 2 ^ 62)
    (q : R (Itr lo (hi - lo).toNat) H) : wpAny (model X.prog X.w) X.A (pyIter (.ref s.heap.objs.size)) (PIEW X pins σ tg R) E { s with heap := s.heap.push { cls := .type "range", data := .fields #[.int lo t, .int hi u, .int 1 v] }, toks := tk } := by
  generalize hs1 : ({ s with heap := s.heap.push { cls := .type "range", data := .fields #[.int lo t, .int hi u, .int 1 v] }, toks := tk } : Shared) = s1
  have I1 : Inv X pins σ H s1 := by rw [← hs1]; exact I.kept fun b o e => Heap.get?_push_of_some _ e
  have ir : IsRange s1.heap s.heap.objs.size lo hi 1 t u v := by rw [← hs1]; exact IsRange.new ..
  refine wpAny_pyIter_range ir (small_one h1 h2 h3 h4) ⟨s1.heap.objs.size, [s1.heap.objs.size], _, _, H, rfl, I1.kept (t' := s1.toks) fun b o e => Heap.get?_push_of_some _ e, turn_rangeW _ lo (hi - lo).toNat, ?_, new_fp I1, q⟩
  have e1 : lo + ((0 : Nat) : Int) * 1 = lo := by simp
  have e2 : (((hi - lo).toNat : Nat) : Int) - ((0 : Nat) : Int) = Builtin.Range.rangeSize lo hi 1 := by rw [rangeSize_one]; split <;> omega
  show IsRangeIter _ _ (lo + ((0 : Nat) : Int) * 1) ((((hi - lo).toNat : Nat) : Int) - ((0 : Nat) : Int)) 1
  rw [e1, e2]
  exact Heap.get?_push_size _ rfl
theorem pi_range1W {a : Expr} {ta : TA} {p pos : Pos} (hg : Gl X "range") (hm : X.mg "range" = none) (ha : PA X [a] ta) (hs : starEach [a] X.env = [(false, eval a X.env)]) : PIW X tg (.Call (.Name "range" p) [a] [] pos) (iRng1 ta) := by
  constructor
  intro pins s σ H R I h
  refine Call_ (ld_blt I hg hm boot_range (PyProof.Rows.callWith_type1 (thn (ha.run pos pins s σ H _ I h) fun us s1 ⟨vs, H1, I1, r1, j, ev, q1, q2, q⟩ => ?_) hs rfl))
  subst ev
  obtain ⟨u, rfl, t, rfl⟩ := vals1 r1
  exact call_range_1 (range_itW I1 (by omega) (by omega) q1 q2 (by simpa using q))
theorem ps_forW {iter : Expr} {body : List Stmt} {wi : TI} {g : TG} {tb : TS} {pos : Pos} (hp : PassesOwn (model X.prog X.w) X.A X.env X.xe) (hc : Warm X) (hi : PIW X tg iter wi) (hg : PG X tg g) (hb : PSs X body tb)
    (hs : ∀ x, foldedSetIterable iter X.env x = pure x) : PS X (.For tg iter body [] pos) (tFor wi g tb) := by
  constructor
  intro pins s σ H D I h
  refine wpAny_For (thn (hi.run pins s σ H _ I h) fun v s1 h1 => thn h1 fun itv s2 h2 => ?_) hs
  obtain ⟨it, fp, tn, J, H2, rfl, I2, T, st2, f2, W, ⟨m0, w0⟩, turn⟩ := h2
  have stat : ∀ {H' : Hp}, (∀ b ∈ fp, H' b = none) → ∀ b ∈ fp, FpOk X pins H' b := fun hn b hb => ⟨hn b hb, (f2 b hb).2⟩
  refine codeAny_forLoop_any (fun n s' => ∃ i σ' H', Inv X pins σ' H' s' ∧ tn i s'.heap ∧ (∀ b ∈ fp, H' b = none) ∧ W i n σ' H') ?_ m0 ⟨0, σ, H2, I2, st2, fun b hb => (f2 b hb).1, w0⟩
  rintro n s3 ⟨i, σ3, H3, I3, st3, fr3, w3⟩
  rcases turn i n σ3 H3 w3 with ⟨stop, qn⟩ | ⟨go, N, hN, step⟩
  · refine wpAny_passesOwn hp (thn (T.done X rfl rfl rfl hc i pins s3 σ3 H3 X.xe I3 (stat fr3) st3 stop) fun r s4 ⟨hr, I4⟩ => ?_)
    subst hr
    exact wpAny_execs_nil ⟨σ3, H3, I4, qn⟩
  · refine wpAny_passesOwn hp (thn (T.item X rfl rfl rfl hc i pins s3 σ3 H3 X.xe I3 (stat fr3) st3 go) fun r s4 ⟨u, hr, h4⟩ => ?_)
    subst hr
    refine wpAny_passesOwn hp (thn h4 fun _ s5 ⟨x, H5, I5, r5, y5, st5, fr5⟩ => ?_)
    have J5 := I5.pinned (stat fr5) (T.obj _ _ st5)
    refine wpAny_passesOwn hp (thn (hg.run _ s5 σ3 H5 x u _ J5 r5 (step x H5 y5)) fun _ s6 ⟨σ6, H6, I6, q6⟩ => ?_)
    refine wpAny_passesOwn hp (thn (hb.run _ s6 σ6 H6 _ I6 q6) fun f s7 q7 => ?_)
    have pin : ∀ {σ7 : St} {H7 : Hp}, Inv X (pins ++ pinsAt fp s5.heap) σ7 H7 s7 → ∀ b ∈ fp, ∀ o, s5.heap.get? b = some o → s7.heap.get? b = some o ∧ H7 b = none := fun {σ7 H7} I7 b hb o e =>
      let z := I7.pin (b, o) (List.mem_append_right _ (List.mem_append_right _ (mem_pinsAt hb e)))
      ⟨z.1, z.2.1⟩
    have again : ∀ {σ7 : St} {H7 : Hp}, Inv X (pins ++ pinsAt fp s5.heap) σ7 H7 s7 → N σ7 H7 → ∃ m, m < n ∧ ∃ i σ' H', Inv X pins σ' H' s7 ∧ tn i s7.heap ∧ (∀ b ∈ fp, H' b = none) ∧ W i m σ' H' := fun {σ7 H7} I7 n7 => by
      obtain ⟨m1, hm, w7⟩ := hN σ7 H7 n7
      refine ⟨m1, hm, i + 1, σ7, H7, I7.unpinned, T.keep _ _ _ st5 fun b hb o e => (pin I7 b hb o e).1, fun b hb => ?_, w7⟩
      obtain ⟨o, e, _⟩ := T.obj _ _ st5 b hb
      exact (pin I7 b hb o e).2
    cases f with
    | next => exact q7.elim fun σ7 q => q.elim fun H7 q => again q.1 q.2
    | cont => exact q7.elim fun σ7 q => q.elim fun H7 q => again q.1 q.2
    | brk => exact q7.elim fun σ7 q => q.elim fun H7 q => ⟨σ7, H7, q.1.unpinned, q.2⟩
    | ret v =>
      obtain ⟨x7, σ7, H7, I7, r7, q7⟩ := q7
      exact ⟨x7, σ7, H7, I7.unpinned, r7, q7⟩
end
abbrev blkW (X : Cx) (s : Shared) (H : Hp) (scope : Scope) (cenv : Env) (fp : List Addr) : Cx := { X.blk s H scope cenv fp with pn := X.pn }
theorem Warm.blk {X : Cx} (c : Warm X) (s : Shared) (H : Hp) (scope : Scope) (cenv : Env) (fp : List Addr) : Warm (blkW X s H scope cenv fp) := c
section
variable {X : Cx} {pins : List (Addr × Obj)} {σ : St} {H : Hp} {s : Shared}
theorem block_startW {scope : Scope} {own : List (Str × Nat)} {fp : List Addr} (I : Inv X pins σ H s) (ok : BlkOk X.N X.env.scope scope own) (hN : X.N.Nodup) (hfp : ∀ b ∈ fp, FpOk X pins H b ∧ b < s.heap.objs.size) :
    Inv (blkW X s H scope (compEnvC scope (cellsFrom (s.heap.objs.size + 1) scope.names (cloFrom X.env.cells scope.names [])) s.heap.objs.size X.env) fp) [] (wipe σ (own.map (·.2))) H { s with heap := pushCells (s.heap.push { cls := .type "dict", data := .dict #[] }) scope.names } := by
  have J := block_start I ok hN hfp
  obtain ⟨j1, j2, j3, j4, j5, j6, j7, j8, j9, j10, j11⟩ := J
  refine ⟨⟨j1.mod, j1.kind, j1.glob, j1.blt, j1.above, j1.inj, j1.has, j1.cab, j1.hd, j1.frames, j1.stk, j1.exf, j1.bs, j1.bsz, j1.noex, j1.exfs, j1.funs, j1.frf⟩, j2, j3, j4, j5, j6, j7, j8, fun p hp => ?_, j10, j11⟩
  have hp : p ∈ X.pn := by simpa using hp
  obtain ⟨p1, p2, p3, p4, p5⟩ := I.pin p (List.mem_append_left _ hp)
  refine ⟨pushCells_keeps _ _ _ _ (Heap.get?_push_of_some _ p1), p2, Nat.ne_of_lt (Heap.lt_size p1), fun z => ?_, p5⟩
  rcases List.mem_cons.mp (I.stkSub p.1 z) with z | z
  · exact p3 z
  · exact p4 z
end
section
variable {X : Cx}
theorem lc_coreW {pins : List (Addr × Obj)} {s : Shared} {σ : St} {H : Hp} {Q : VK} {elt tg iter : Expr} {ifs : List Expr} {scope : Scope} {own : List (Str × Nat)} {pos pos' : Pos} {wi : TI} {g : TG} {tt : TT} {te : TE} {use : Option (Value → Sem Unit)} {Qf : Value → Shared → Prop}
    (hc : Warm X) (hN : X.N.Nodup) (I : Inv X pins σ H s) (hi : PIW X tg iter wi) (ok : BlkOk X.N X.env.scope scope own)
    (hg : ∀ (s : Shared) (H : Hp) (C : Addr) (cl : List (Str × Addr)) (fp : List Addr), PG (blkW X s H scope (compEnvC scope cl C X.env) fp) tg g) (ht : ∀ (s : Shared) (H : Hp) (C : Addr) (cl : List (Str × Addr)) (fp : List Addr), PTs (blkW X s H scope (compEnvC scope cl C X.env) fp) ifs tt)
    (he : ∀ (s : Shared) (H : Hp) (C : Addr) (cl : List (Str × Addr)) (fp : List Addr), PE (blkW X s H scope (compEnvC scope cl C X.env) fp) elt te) (hs : ∀ x, foldedSetIterable iter X.env x = pure x)
    (h : tLc wi g tt te (own.map (·.2)) σ H Q)
    (hRR : ∀ D C s' m H', Inv X pins σ H' s' → Q (.ref D) H' → s'.heap.Ns C m → FpOk X pins H' C → compPost (model X.prog X.w) X.A X.xe use Qf (.ref D) C (.ok .next) s') :
    wpAny (model X.prog X.w) X.A (comprehension (.ListComp elt [⟨tg, iter, ifs, 0⟩] scope pos) scope X.env pos' (newList []) false (eval iter X.env) use) Qf X.xe s := by
  have hfree : ∀ y ∈ scope.names, y.2 = .free → ∃ c, X.env.cells.lookup y.1 = some c := fun y hy e => (ok.free y hy e).elim (fun k => I.ok.has _ (.inl k)) fun k => I.ok.has _ (.inr k)
  refine wpAny_comprehension_free (use := use) rfl hs (closure_ok hfree) ok.kind (fun y hy e => by rw [ok.uniq y hy, e])
    (thn (hi.run pins s σ H _ I h) fun xv s1 hx => thn hx fun itv s2 h2 => ?_)
  obtain ⟨it, fp, tn, J, H2, rfl, I2, T, st2, f2, q⟩ := h2
  refine wpAny_newObj_type (newEnv_comp ?_) (by show 0 ≤ sizeLine; decide)
  generalize hD : s2.heap.objs.size = D
  have hDn : H2 D = none := I2.hok.fresh (Nat.le_of_eq hD)
  obtain ⟨W, ⟨m0, w0⟩, turn⟩ := q D hDn
  generalize hs3 : ({ s2 with heap := s2.heap.push { cls := .type "list", data := .seq ([] : List Value).toArray } } : Shared) = s3
  have h3 : s3.heap = s2.heap.push { cls := .type "list", data := .seq ([] : List Value).toArray } := by rw [← hs3]
  have I3 : Inv X pins σ (upd H2 D (.lst [])) s3 := by
    rw [← hs3]
    refine I2.laid (t' := s2.toks) (fun b o e => Heap.get?_push_of_some _ e) (Nat.le_of_eq hD) ⟨Nat.zero_le _, [], 0, .nil, ?_⟩
    rw [← hD]
    exact Heap.get?_push_size _ rfl
  have f3 : ∀ b ∈ fp, FpOk X pins (upd H2 D (.lst [])) b ∧ b < s3.heap.objs.size := fun b hb => by
    obtain ⟨o, e, _⟩ := T.obj _ _ st2 b hb
    have hlt := Heap.lt_size e
    refine ⟨⟨?_, (f2 b hb).2⟩, by rw [h3, Heap.size_push]; exact Nat.lt_succ_of_lt hlt⟩
    rw [upd_ne (by rw [← hD]; exact Nat.ne_of_lt hlt)]
    exact (f2 b hb).1
  have st3 : tn 0 s3.heap := T.keep _ _ _ st2 fun b _ o e => by rw [h3]; exact Heap.get?_push_of_some _ e
  have I4 := block_startW I3 ok hN f3
  have pg := hg s3 (upd H2 D (.lst [])) s3.heap.objs.size (cellsFrom (s3.heap.objs.size + 1) scope.names (cloFrom X.env.cells scope.names [])) fp
  have pt := ht s3 (upd H2 D (.lst [])) s3.heap.objs.size (cellsFrom (s3.heap.objs.size + 1) scope.names (cloFrom X.env.cells scope.names [])) fp
  have pe := he s3 (upd H2 D (.lst [])) s3.heap.objs.size (cellsFrom (s3.heap.objs.size + 1) scope.names (cloFrom X.env.cells scope.names [])) fp
  show codeAny _ _ (.compStart (.ListComp elt [⟨tg, iter, ifs, 0⟩] scope pos) 0 (.ref it) (.ref D) (compEnvC scope (cellsFrom (s3.heap.objs.size + 1) scope.names (cloFrom X.env.cells scope.names [])) s3.heap.objs.size X.env)) (compPost (model X.prog X.w) X.A X.xe use Qf (.ref D) s3.heap.objs.size) { s3 with heap := pushCells (s3.heap.push { cls := .type "dict", data := .dict #[] }) scope.names }
  have nfp : ∀ b ∈ fp, (upd H2 D (.lst [])) b = none := fun b hb => (f3 b hb).1.1
  generalize hce : compEnvC scope (cellsFrom (s3.heap.objs.size + 1) scope.names (cloFrom X.env.cells scope.names [])) s3.heap.objs.size X.env = ce at I4 pg pt pe ⊢
  have cL : ce.locals = s3.heap.objs.size := by subst hce; rfl
  generalize hH3 : upd H2 D (.lst []) = H3 at I3 I4 pg pt pe w0 nfp f3
  generalize hs4 : ({ s3 with heap := pushCells (s3.heap.push { cls := .type "dict", data := .dict #[] }) scope.names } : Shared) = s4 at I4 ⊢
  have st4 : tn 0 s4.heap := T.keep _ _ _ st3 fun b _ o e => by rw [← hs4]; exact pushCells_keeps _ _ _ _ (Heap.get?_push_of_some _ e)
  have npn : ∀ b ∈ fp, ∀ p ∈ X.pn ++ ([] : List (Addr × Obj)), p.1 ≠ b := fun b hb p hp => (f3 b hb).1.2.2.2.2.2 p (List.mem_append_left _ (by simpa using hp))
  have stat : ∀ {σ' : St} {H' : Hp} {s' : Shared}, Inv (blkW X s3 H3 scope ce fp) [] σ' H' s' → (∀ b ∈ fp, H' b = none) → ∀ b ∈ fp, FpOk (blkW X s3 H3 scope ce fp) [] H' b := fun {σ' H' s'} I' hn b hb =>
    ⟨hn b hb, (I'.ok.exf b hb).1, I'.ok.exfs b hb, .inl hb, fun x c e => (I'.ok.exf b hb).2 x c e, npn b hb⟩
  have hcB : Warm (blkW X s3 H3 scope ce fp) := hc.blk ..
  have loop : codeAny (model X.prog X.w) X.A (.compLoop (.ListComp elt [⟨tg, iter, ifs, 0⟩] scope pos) 0 (.ref it) (.ref D) ce) (compPost (model X.prog X.w) X.A X.xe use Qf (.ref D) s3.heap.objs.size) s4 := by
    refine compLoop_any (fun n s' => ∃ i H', Inv (blkW X s3 H3 scope ce fp) [] (wipe σ (own.map (·.2))) H' s' ∧ tn i s'.heap ∧ (∀ b ∈ fp, H' b = none) ∧ W i n H') ?_ m0 ⟨0, H3, I4, st4, nfp, w0⟩
    rintro n s5 ⟨i, H5, I5, st5, n5, w5⟩
    rcases turn i n H5 w5 with ⟨stop, qq⟩ | ⟨go, Nx, hNx, step⟩
    · refine thnF (T.done (blkW X s3 H3 scope ce fp) rfl rfl rfl hcB i [] s5 _ H5 (fun _ _ => False) I5 (stat I5 n5) st5 stop) fun r s6 ⟨hr, I6⟩ => ?_
      subst hr
      have I7 : Inv X pins σ H5 s6 := I3.call' (ch := fp) I6.os I6.base I6.hok I6.bare fun b hb => ⟨(f3 b hb).1.2.2.2.1, (f3 b hb).1.2.1, (f3 b hb).1.2.2.2.2.1, (f3 b hb).1.2.2.2.2.2⟩
      have nC : H5 s3.heap.objs.size = none := by
        rw [← cL]
        exact I6.free
      obtain ⟨m, hn, _⟩ := I6.loc
      have hn : s6.heap.Ns ce.locals m := hn
      rw [cL] at hn
      exact hRR D s3.heap.objs.size s6 m H5 I7 qq hn (I3.fpOk (Nat.le_refl _) nC)
    · refine thnF (T.item (blkW X s3 H3 scope ce fp) rfl rfl rfl hcB i [] s5 _ H5 (fun _ _ => False) I5 (stat I5 n5) st5 go) fun r s6 ⟨u, hr, h6⟩ => ?_
      subst hr
      refine thnF h6 fun _ s7 ⟨x, H7, I7, r7, y7, st7, n7⟩ => ?_
      have J7 := I7.pinned (stat I7 n7) (T.obj _ _ st7)
      refine thnF (pg.run _ s7 _ H7 x u _ J7 r7 (step x H7 y7)) fun _ s8 ⟨σ8, H8, I8, hw8, q8⟩ => ?_
      refine thnF (pt.run _ s8 σ8 H8 _ I8 q8) fun b s9 ⟨H9, I9, q9⟩ => ?_
      have fin : ∀ {s' : Shared} {H' : Hp}, Inv (blkW X s3 H3 scope ce fp) ([] ++ pinsAt fp s7.heap) σ8 H' s' → Nx H' → ∃ m, m < n ∧ ∃ i H', Inv (blkW X s3 H3 scope ce fp) [] (wipe σ (own.map (·.2))) H' s' ∧ tn i s'.heap ∧ (∀ b ∈ fp, H' b = none) ∧ W i m H' := fun {s' H'} I' nx => by
        obtain ⟨m1, hm, w1⟩ := hNx H' nx
        have pin : ∀ b ∈ fp, ∀ o, s7.heap.get? b = some o → s'.heap.get? b = some o ∧ H' b = none := fun b hb o e =>
          let z := I'.pin (b, o) (List.mem_append_right _ (List.mem_append_right _ (mem_pinsAt hb e)))
          ⟨z.1, z.2.1⟩
        have hl : (wipe σ (own.map (·.2))).length = σ8.length := by rw [← hw8, wipe_length]
        refine ⟨m1, hm, i + 1, H', (I'.unpinned (pins := [])).weak hl (fun j v e => by rw [← hw8] at e; exact (wipe_some e).1), T.keep _ _ _ st7 fun b hb o e => (pin b hb o e).1, fun b hb => ?_, w1⟩
        obtain ⟨o, e, _⟩ := T.obj _ _ st7 b hb
        exact (pin b hb o e).2
      cases b with
      | false =>
        simp only [Bool.false_eq_true, if_false] at q9 ⊢
        exact fin I9 q9
      | true =>
        simp only [if_true] at q9 ⊢
        refine thnF (pe.run _ s9 σ8 H9 _ I9 q9) fun z s10 ⟨yv, H10, I10, r10, acc, hD10, hz10, nx⟩ => ?_
        exact app_ok (X := blkW X s3 H3 scope ce fp) I10 hD10 hz10 r10 fun s11 I11 => fin I11 nx
  exact codeAny_compStart_list loop (T.self X.A 0 _ _ _ st4 loop)
theorem pe_lcW {elt tg iter : Expr} {ifs : List Expr} {scope : Scope} {own : List (Str × Nat)} {pos : Pos} {wi : TI} {g : TG} {tt : TT} {te : TE} (hc : Warm X) (hN : X.N.Nodup) (hi : PIW X tg iter wi) (ok : BlkOk X.N X.env.scope scope own)
    (hg : ∀ (s : Shared) (H : Hp) (C : Addr) (cl : List (Str × Addr)) (fp : List Addr), PG (blkW X s H scope (compEnvC scope cl C X.env) fp) tg g) (ht : ∀ (s : Shared) (H : Hp) (C : Addr) (cl : List (Str × Addr)) (fp : List Addr), PTs (blkW X s H scope (compEnvC scope cl C X.env) fp) ifs tt)
    (he : ∀ (s : Shared) (H : Hp) (C : Addr) (cl : List (Str × Addr)) (fp : List Addr), PE (blkW X s H scope (compEnvC scope cl C X.env) fp) elt te) (hs : ∀ x, foldedSetIterable iter X.env x = pure x) :
    PE X (.ListComp elt [⟨tg, iter, ifs, 0⟩] scope pos) (tLc wi g tt te (own.map (·.2))) := by
  constructor
  intro pins s σ H Q I h
  rw [eval_ListComp]
  refine lc_coreW hc hN I hi ok hg ht he hs h fun D C s1 m H1 I1 q hn ⟨f0, f1, f2, f3, f4, f5⟩ => ⟨m, hn, fun h2 sb => ?_⟩
  exact ⟨.ref D, H1, I1.turned (t' := s1.toks) (fun b o hb e => (sb.2 b hb).trans e) f0 f1 f3 f4 f5, rfl, q⟩
theorem ps_setLcW {i : Nat} {y : Str} {py : Pos} {elt tg iter : Expr} {ifs : List Expr} {scope : Scope} {own : List (Str × Nat)} {pos spos : Pos} {wi : TI} {g : TG} {tt : TT} {te : TE} (hc : Warm X) (hN : X.N.Nodup) (hy : X.N[i]? = some y) (hyl : X.env.scope.names.lookup y = some .local)
    (hsw : swapsWith (.ListComp elt [⟨tg, iter, ifs, 0⟩] scope pos) (some (.Name y py)) spos.line X.env = pure true) (hi : PIW X tg iter wi) (ok : BlkOk X.N X.env.scope scope own)
    (hg : ∀ (s : Shared) (H : Hp) (C : Addr) (cl : List (Str × Addr)) (fp : List Addr), PG (blkW X s H scope (compEnvC scope cl C X.env) fp) tg g) (ht : ∀ (s : Shared) (H : Hp) (C : Addr) (cl : List (Str × Addr)) (fp : List Addr), PTs (blkW X s H scope (compEnvC scope cl C X.env) fp) ifs tt)
    (he : ∀ (s : Shared) (H : Hp) (C : Addr) (cl : List (Str × Addr)) (fp : List Addr), PE (blkW X s H scope (compEnvC scope cl C X.env) fp) elt te) (hs : ∀ x, foldedSetIterable iter X.env x = pure x) :
    PS X (.Assign [.Name y py] (.ListComp elt [⟨tg, iter, ifs, 0⟩] scope pos) spos) (tAsg (tLc wi g tt te (own.map (·.2))) (gName i)) := by
  constructor
  intro pins s σ H D I h
  rw [exec_Assign_Name_used _ _ _ _ hsw]
  refine wpAny_bind (wpAny_standAt (wpAny_bind ?_))
  show wpAny _ X.A (comprehension (.ListComp elt [⟨tg, iter, ifs, 0⟩] scope pos) scope X.env (firstIterPos [⟨tg, iter, ifs, 0⟩] pos) (newList []) false (eval iter X.env) (some (assign (.Name y py) X.env)) >>= fun _ => pure _) _ _ s
  have h : tLc wi g tt te (own.map (·.2)) σ H (fun x H1 => gName i x σ H1 D.nx) := h
  refine wpAny_bind (thn (lc_coreW (Qf := fun _ s1 => SP X pins D .next s1) hc hN I hi ok hg ht he hs h fun L C s1 m H1 I1 q hn ⟨f0, f1, f2, f3, f4, f5⟩ => ?_) fun _ s1 hq => wpAny_pure (wpAny_pure hq))
  show wpAny _ _ (assign (.Name y py) X.env (.ref L)) _ _ _
  refine wpAny_assign_Name (store_ok2 (v := V.ref L) I1 hN hy (.inl hyl) rfl (fun s2 I2 ⟨a, sb, ha⟩ => ?_) (.inr hyl))
  have haC : C ≠ a := ha.elim (fun z => by rw [z]; exact f1) fun z e => f4 y a z e.symm
  exact ⟨m, hn.sameBut sb haC, fun h3 sb3 => ⟨_, H1, I2.turned (t' := s2.toks) (fun b o hb e => (sb3.2 b hb).trans e) f0 f1 f3 f4 f5, q⟩⟩
end
end EvW

set_option maxRecDepth 100000
set_option maxHeartbeats 2000000
namespace EvW
open PySem PySem.Spec PyProof.Rows L2 EvH HotX
theorem walks_tup_hot {prog : Program} {w : World} {A : Around} {x1 : Addr} (I ax : Addr) (hne : ax ≠ I) (xs : Array Value) :
    Walks prog w A I [I, ax, x1] [I] xs.size (fun i v => xs[i]? = some v) (fun i h => h.IsTupleIter I ax i ∧ h.IsTuple ax xs ∧ HotAt A x1 h) where
  sub := fun b hb => by simp at hb; simp [hb]
  frame := fun i h h' ⟨a, b, hh, o, vs, g, d, c⟩ hk => ⟨a.at fun o e => hk I (by simp) o e, b.at fun o e => hk ax (by simp) o e, hh, o, vs, hk x1 (by simp) o g, d, c⟩
  item := fun i s Q E hi ⟨a, b, hh, o, vs, g, d, c⟩ hQ => by
    refine wpAny_pyNext_tuple_item a b (x := xs[i]) (by simp [hi]) fun h1 hit hs => ?_
    have nx : x1 ≠ I := by
      rintro rfl
      obtain ⟨o2, g2, _, d2⟩ := a
      rw [g] at g2; cases g2
      rw [d] at d2; cases d2
      simp at c
    exact hQ _ h1 s.toks (by simp [hi]) ⟨hit, b.extBut hs.extBut hne, hh, o, vs, hs.extBut x1 o nx g, d, c⟩ fun b o hb e => hs.extBut b o (fun z => hb (by simp [z])) e
  done := fun s Q E ⟨a, b, hot⟩ hQ => tuple_end_warm (.inr ⟨x1, hot⟩) a b (by simp) fun h1 k => hQ h1 s.toks fun b o hb e => k b o (fun z => hb (by simp [z])) e
  self := fun _ _ _ _ st hQ => wpAny_pyIter_tupleiter st.1 hQ
section
variable {prog : Program} {w : World} {A : Around} {E : Value → Shared → Prop} {s : Shared}
theorem two_at {a b : Int} {t u : Tok} {v : Value} {j : Nat} (h : (intItems #[(a, t), (b, u)])[j]? = some v) : v = if j = 0 then .int a t else .int b u := by
  match j with
  | 0 => simpa [intItems] using h.symm
  | 1 => simpa [intItems] using h.symm
  | n + 2 => simp [intItems] at h
theorem best2 (bt : Nat → Nat → Bool) : argBest bt 1 = if bt 1 0 = true then 1 else 0 := by simp [argBest]
theorem max_two_warm {a b : Int} {t u : Tok} {Q : Value → Shared → Prop} (hw : WarmAt A s.heap)
    (h : ∀ h' tk, (∀ c o, s.heap.get? c = some o → h'.get? c = some o) → Q (if b > a then .int b u else .int a t) { s with heap := h', toks := tk }) :
    wpAny (model prog w) A (call (.builtin "max") [.int a t, .int b u]) Q E s := by
  rcases hw with hh | ⟨x, hot⟩
  · exact max_two_ints hh h
  generalize hg1 : s.heap.push { cls := .type "tuple", data := .seq #[.int a t, .int b u] } = g1
  have k1 : ∀ c o, s.heap.get? c = some o → g1.get? c = some o := fun c o e => by rw [← hg1]; exact Heap.get?_push_of_some _ e
  have hT : g1.IsTuple s.heap.objs.size (intItems #[(a, t), (b, u)]) := by rw [← hg1]; exact ⟨_, Heap.get?_push_size _ rfl, rfl, 0, by simp [intItems]⟩
  have z1 : g1.objs.size = s.heap.objs.size + 1 := by rw [← hg1]; exact Heap.size_push ..
  obtain ⟨hh, o, vs, g, d, c⟩ := hot
  have lx := Heap.lt_size g
  refine call_max_two ?_
  rw [hg1]
  refine wpAny_pyIter_tuple hT ⟨_, _, _, _, _, _, _, rfl, walks_tup_hot (A := A.in1) (x1 := x) _ s.heap.objs.size (by show _ ≠ g1.objs.size; omega) (intItems #[(a, t), (b, u)]),
    ⟨⟨_, Heap.get?_push_size _ rfl, rfl, rfl⟩, hT.push _, hh, o, vs, Heap.get?_push_of_some _ (k1 x o g), d, c⟩, fun c hc => ?_, by simp [intItems], CmpOf.ints_gt (numAt #[(a, t), (b, u)]) (fun _ _ => intItems_at), fun v h2 tk hP hk => ?_⟩
  · show c < (g1.push _).objs.size
    rw [Heap.size_push, z1]
    simp only [List.mem_cons, List.not_mem_nil, or_false] at hc
    rcases hc with rfl | rfl | rfl
    · show g1.objs.size < _
      rw [z1]; exact Nat.lt_succ_self _
    · exact Nat.lt_succ_of_lt (Nat.lt_succ_self _)
    · exact Nat.lt_succ_of_lt (Nat.lt_succ_of_lt lx)
  · have hold : ∀ c o, s.heap.get? c = some o → h2.get? c = some o := fun c o e => hk c o (fun hm => by
      have e1 : c = g1.objs.size := by simpa using hm
      have l := Heap.lt_size e
      rw [e1, z1] at l
      exact Nat.lt_irrefl _ (Nat.lt_of_succ_lt l)) (Heap.get?_push_of_some _ (k1 c o e))
    have q := h h2 tk hold
    have e2 := two_at hP
    have e3 : (intItems #[(a, t), (b, u)]).size - 1 = 1 := by simp [intItems]
    rw [e3, best2] at e2
    by_cases hba : b > a
    · rw [e2]; simpa [numAt, hba] using q
    · rw [e2]; simpa [numAt, hba] using q
theorem min_two_warm {a b : Int} {t u : Tok} {Q : Value → Shared → Prop} (hw : WarmAt A s.heap)
    (h : ∀ h' tk, (∀ c o, s.heap.get? c = some o → h'.get? c = some o) → Q (if b < a then .int b u else .int a t) { s with heap := h', toks := tk }) :
    wpAny (model prog w) A (call (.builtin "min") [.int a t, .int b u]) Q E s := by
  rcases hw with hh | ⟨x, hot⟩
  · exact min_two_ints hh h
  generalize hg1 : s.heap.push { cls := .type "tuple", data := .seq #[.int a t, .int b u] } = g1
  have k1 : ∀ c o, s.heap.get? c = some o → g1.get? c = some o := fun c o e => by rw [← hg1]; exact Heap.get?_push_of_some _ e
  have hT : g1.IsTuple s.heap.objs.size (intItems #[(a, t), (b, u)]) := by rw [← hg1]; exact ⟨_, Heap.get?_push_size _ rfl, rfl, 0, by simp [intItems]⟩
  have z1 : g1.objs.size = s.heap.objs.size + 1 := by rw [← hg1]; exact Heap.size_push ..
  obtain ⟨hh, o, vs, g, d, c⟩ := hot
  have lx := Heap.lt_size g
  refine call_min_two ?_
  rw [hg1]
  refine wpAny_pyIter_tuple hT ⟨_, _, _, _, _, _, _, rfl, walks_tup_hot (A := A.in1) (x1 := x) _ s.heap.objs.size (by show _ ≠ g1.objs.size; omega) (intItems #[(a, t), (b, u)]),
    ⟨⟨_, Heap.get?_push_size _ rfl, rfl, rfl⟩, hT.push _, hh, o, vs, Heap.get?_push_of_some _ (k1 x o g), d, c⟩, fun c hc => ?_, by simp [intItems], CmpOf.ints_lt (numAt #[(a, t), (b, u)]) (fun _ _ => intItems_at), fun v h2 tk hP hk => ?_⟩
  · show c < (g1.push _).objs.size
    rw [Heap.size_push, z1]
    simp only [List.mem_cons, List.not_mem_nil, or_false] at hc
    rcases hc with rfl | rfl | rfl
    · show g1.objs.size < _
      rw [z1]; exact Nat.lt_succ_self _
    · exact Nat.lt_succ_of_lt (Nat.lt_succ_self _)
    · exact Nat.lt_succ_of_lt (Nat.lt_succ_of_lt lx)
  · have hold : ∀ c o, s.heap.get? c = some o → h2.get? c = some o := fun c o e => hk c o (fun hm => by
      have e1 : c = g1.objs.size := by simpa using hm
      have l := Heap.lt_size e
      rw [e1, z1] at l
      exact Nat.lt_irrefl _ (Nat.lt_of_succ_lt l)) (Heap.get?_push_of_some _ (k1 c o e))
    have q := h h2 tk hold
    have e2 := two_at hP
    have e3 : (intItems #[(a, t), (b, u)]).size - 1 = 1 := by simp [intItems]
    rw [e3, best2] at e2
    by_cases hba : b < a
    · rw [e2]; simpa [numAt, hba] using q
    · rw [e2]; simpa [numAt, hba] using q
end
section
variable {X : Cx}
theorem call_max2W (hc : Warm X) : CallR X (.builtin "max") (fun xs H Q => ∃ i j, xs = [.int i, .int j] ∧ Q (.int (if j > i then j else i)) H) := by
  rintro pins s σ H xs us Q I r ⟨i, j, rfl, q⟩
  obtain ⟨_, _, rfl, ⟨t, rfl⟩, ⟨t2, rfl⟩⟩ := vals2 r
  refine max_two_warm (hc.at_ I) fun h1 tk k => ⟨_, H, I.kept k, ?_, q⟩
  split <;> exact ⟨_, rfl⟩
theorem call_min2W (hc : Warm X) : CallR X (.builtin "min") (fun xs H Q => ∃ i j, xs = [.int i, .int j] ∧ Q (.int (if j < i then j else i)) H) := by
  rintro pins s σ H xs us Q I r ⟨i, j, rfl, q⟩
  obtain ⟨_, _, rfl, ⟨t, rfl⟩, ⟨t2, rfl⟩⟩ := vals2 r
  refine min_two_warm (hc.at_ I) fun h1 tk k => ⟨_, H, I.kept k, ?_, q⟩
  split <;> exact ⟨_, rfl⟩
end
end EvW

set_option maxRecDepth 100000
set_option maxHeartbeats 2000000
namespace EvT
open PySem PySem.Spec PyProof.Rows L2
inductive Bk where | ve | ae | le
def Bk.name : Bk → String
  | .ve => "ValueError"
  | .ae => "ArithmeticError"
  | .le => "LookupError"
def Bk.newId : Bk → String
  | .ve => "ValueError.__new__"
  | .ae => "ArithmeticError.__new__"
  | .le => "LookupError.__new__"
def Bk.initId : Bk → String
  | .ve => "ValueError.__init__"
  | .ae => "ArithmeticError.__init__"
  | .le => "LookupError.__init__"
def Bk.tail (b : Bk) : List Value := [.type b.name, .type "Exception", .type "BaseException", .type "object"]
theorem Bk.base : ∀ b : Bk, ExcBaseFacts b.name b.newId b.initId b.tail
  | .ve => F.excBase_ValueError
  | .ae => F.excBase_ArithmeticError
  | .le => F.excBase_LookupError
theorem Bk.store : ∀ b : Bk, StoreFacts b.name b.tail "object.__setattr__" "object"
  | .ve => F.store_ValueError
  | .ae => F.store_ArithmeticError
  | .le => F.store_LookupError
theorem Bk.typ : ∀ b : Bk, typeOf (.type b.name) = pure (.type "type")
  | .ve => by kernel_rfl
  | .ae => by kernel_rfl
  | .le => by kernel_rfl
theorem Bk.stub : ∀ b : Bk, Manifest.isStub b.name = false
  | .ve => by decide +kernel
  | .ae => by decide +kernel
  | .le => by decide +kernel
theorem Bk.handed : ∀ b : Bk, PySem.W.handedIn (.builtin b.initId) = true
  | .ve => by decide +kernel
  | .ae => by decide +kernel
  | .le => by decide +kernel
theorem Bk.boot : ∀ b : Bk, bootBuiltins (Str.ofString b.name) = some (.type b.name)
  | .ve => PyProof.Rows.Boot.«ValueError»
  | .ae => PyProof.Rows.Boot.«ArithmeticError»
  | .le => PyProof.Rows.Boot.«LookupError»
def off : List Value → List Value
  | .ref _ :: r => off r
  | l => l
theorem off_cases : ∀ l : List Value, (∃ c r, l = .ref c :: r ∧ off l = off r) ∨ off l = l
  | .ref c :: r => .inl ⟨c, r, rfl, rfl⟩
  | [] => .inr rfl
  | .none :: _ => .inr rfl
  | .ellipsis :: _ => .inr rfl
  | .notImplemented :: _ => .inr rfl
  | .bool _ :: _ => .inr rfl
  | .int _ _ :: _ => .inr rfl
  | .float _ _ :: _ => .inr rfl
  | .str _ _ :: _ => .inr rfl
  | .bytes _ _ :: _ => .inr rfl
  | .type _ :: _ => .inr rfl
  | .builtin _ :: _ => .inr rfl
theorem off_has (Y : String) : ∀ l : List Value, l.contains (.type Y) = (off l).contains (.type Y) := by
    intro l
    induction l with
    | nil => rfl
    | cons a r ih =>
      rcases off_cases (a :: r) with ⟨c, r', e, h⟩ | h
      · obtain ⟨rfl, rfl⟩ := List.cons.inj e
        rw [h, ← ih, List.contains_cons]; rfl
      · rw [h]
theorem off_refuse (self : Value) (m : Str) : ∀ l : List Value, refuseLoop self m l = refuseLoop self m (off l) := by
    intro l
    induction l with
    | nil => rfl
    | cons a r ih =>
      rcases off_cases (a :: r) with ⟨c, r', e, h⟩ | h
      · obtain ⟨rfl, rfl⟩ := List.cons.inj e
        rw [h, ← ih, refuseLoop_ref]
      · rw [h]
theorem off_ne {l : List Value} (h : off l ≠ []) : l.isEmpty = false := by
  cases l with
  | nil => exact absurd rfl h
  | cons _ _ => rfl
theorem tail_ne (b : Bk) : b.tail ≠ [] := by unfold Bk.tail; simp
structure ExT (K : PySem.W.Frag) (C : Addr) (b : Bk) : Prop where
  cls : ∃ nm q N bs bm sn sub ab col dd k0 k1 k2 k3 k5, K.lookup C = some (excClassObj nm q C N bs bm true sn sub ab col dd k0 k1 k2 k3 k5 b.newId) ∧ off bm = b.tail
  sa : PySem.W.findIn K (.ref C) "__setattr__" = some (some (.builtin "object.__setattr__"))
  exC : PySem.W.subIn K (.ref C) (.type "BaseException") = some true
  tyC : PySem.W.typeIn K (.ref C) = some (.type "type")
  kC : PySem.W.keepIn K (.ref C) = true
section
variable {prog : Program} {w : World} {A : Around} {R : Result → Shared → Prop} {hp : Heap} {g : Array GenState} {d : Drawn} {t : Nat} {os : OsState}
open Builtin Builtin.ObjectAttr
theorem osa_first {b : Bk} {K : PySem.W.Frag} {name : Str} {tk : Tok} {v : Value} {x C : Addr} {fv : Array Value} {cd : ClassData} (KX : K.In hp) (hx : hp.get? x = some { cls := .ref C, data := .fields fv }) (hcd : PySem.W.clsIn K C = some cd)
    (hm : off cd.mro = b.tail) (hh : cd.hasDict = true) (ha : PySem.W.findIn K (.ref C) name = some none)
    (hq : ∀ h' tk' dx, (∀ c o, c ≠ x → hp.get? c = some o → h'.get? c = some o) → hp.objs.size ≤ dx → dx ≠ x → h'.get? x = some { cls := .ref C, dict := some dx, data := .fields fv } →
      h'.Ns1 dx (fun y => if y = name then some v else none) → R (.ok (.ret .none)) ⟨h', g, d, tk', os⟩) :
    codeAny (model prog w) A (.call (.builtin "object.__setattr__") ⟨[.ref x, .str name tk, v], []⟩) R ⟨hp, g, d, t, os⟩ := by
  have J : PySem.W.InstAt hp x { cls := .ref C, data := .fields fv } C none := ⟨hx, rfl, rfl, trivial⟩
  have SF := F.store_object
  have ne : cd.mro.isEmpty = false := off_ne (by rw [hm]; exact tail_ne b)
  have hob : cd.mro.contains (.type "object") = true := by rw [off_has, hm]; cases b <;> decide +kernel
  have hxs : x ≠ hp.objs.size := Nat.ne_of_lt (Heap.lt_size hx)
  have sub : PySem.W.Looks (model prog w) hp (isInstance (.ref x) (.type "object")) true := J.type.andThen (PySem.W.looks_mroIn KX (by unfold PySem.W.mroIn; rw [hcd, Option.bind_some, if_neg (by rw [ne]; decide), hob]))
  refine codeAny_call_builtin SF.slot.plain SF.entry (@PySem.W.check_slot (model prog w) _ _ ⟨hp, g, d, t, os⟩ "object.__setattr__" "object" "__setattr__" (.ref x) [.str name tk, v] [] _ SF.kind SF.split sub (SF.args (.ref x) (.str name tk) v) ?_)
  have mr : PySem.W.Looks (model prog w) hp (mroOf (.ref C)) cd.mro := (PySem.W.looks_clsIn KX hcd).andThen .now
  have tkr : PySem.W.Looks (model prog w) hp (storeTaker? none) none := .now
  have hcls : PySem.W.Looks (model prog w) hp (classData C) cd := PySem.W.looks_clsIn KX hcd
  rw [PySem.W.osa_eq, refuse_eq]
  refine wpAny_bind (wpAny_bind (J.type.at (wpAny_bind (mr.at ?_))))
  rw [off_refuse, hm, b.store.passes]
  refine wpAny_pure (wpAny_bind (J.type.at (wpAny_bind ((PySem.W.looks_findIn KX ha).at (wpAny_bind (tkr.at ?_))))))
  show wpAny _ _ (storeInOwnDict (.ref x) (.ref C) (.str name tk) name v false) _ _ _
  obtain ⟨nm, bs, mro, ns, qn, hd, sn, sb, ab, col, del⟩ := cd
  dsimp only at hh
  subst hh
  unfold storeInOwnDict ownDictForStores
  repeat (first | with_reducible refine HandSPX.store_in_new ?_ ?_ | with_reducible refine wpAny_loadPart_at hx ?_ | with_reducible refine hcls.at ?_ | wp_step)
  · exact ⟨_, #[], _, (Heap.get?_update_ne _ _ _ _ hxs.symm).trans (Heap.get?_push_at rfl rfl), rfl, fun e he => absurd he (by simp), fun _ => rfl⟩
  · intro h2 tk2 hn hs
    have hx1 : (hp.push { cls := .type "dict", data := .dict #[] }).get? x = some { cls := .ref C, data := .fields fv } := Heap.get?_push_of_some _ hx
    exact hq h2 tk2 hp.objs.size (fun c o hc ho => (hs.2 c (Nat.ne_of_lt (Heap.lt_size ho))).trans ((Heap.get?_update_ne _ _ _ _ hc).trans (Heap.get?_push_of_some _ ho))) (Nat.le_refl _) hxs.symm ((hs.2 x hxs).trans (Heap.get?_update_self _ hx1 rfl)) hn
end
section
variable {X : Cx} {pins : List (Addr × Obj)} {σ : L2.St} {H : Hp} {s : Shared} {a C dx : Addr} {f : Str} {y : V} {u : Value} {b : Bk} {Q : Unit → Shared → Prop} {E : Value → Shared → Prop} {A : Around}
theorem put_first (T : ExT X.K C b) (I : Inv X pins σ H s) (e : H a = some (exo a C none)) (hno : PySem.W.findIn X.K (.ref C) f = some none) (ry : RelV y u)
    (h : ∀ dx s', H dx = none → dx ≠ a → Inv X pins σ (upd (upd H dx (exd dx [(f, y)])) a (exo a C (some dx))) s' → Q () s') : wpAny (model X.prog X.w) A (setAttr (.ref a) f u) Q E s := by
  obtain ⟨nm, q, N, bs, bm, sn, sub, ab, col, dd, k0, k1, k2, k3, k5, hC, hbm⟩ := T.cls
  have hcl : PySem.W.clsIn X.K C = some { name := nm, bases := bs, mro := .ref C :: bm, ns := N, qualname := q, hasDict := true, slotNames := sn, subclasses := sub, abstract := ab, collection := col, hasDel := false } := by unfold PySem.W.clsIn; rw [hC] <;> rfl
  obtain ⟨t1, ho⟩ := exo_at I.hok e
  obtain ⟨hp, g, d, t, os⟩ := s
  refine PySem.W.set_plain I.kIn (ox := { cls := .ref C, dict := none, data := .fields #[.ref t1, .none, .none, .none, .bool false, .none] }) (od := none) ⟨ho, rfl, rfl, trivial⟩ T.sa ?_
  refine osa_first (b := b) I.kIn ho hcl (show off (.ref C :: bm) = b.tail from hbm) rfl hno (fun h1 tk dx k dn dne hx hn => ?_)
  have hnd : H dx = none := I.hok.fresh dn
  have nd : ∀ {c : Addr} {o : Obj}, hp.get? c = some o → c ≠ dx := fun {c o} q => Nat.ne_of_lt (Nat.lt_of_lt_of_le (Heap.lt_size q) dn)
  have na : ∀ {c : Addr}, H c = none → c ≠ a := fun {c} n z => by
    rw [z, e] at n
    cases n
  have U : Un X.fs [] H (upd (upd H dx (exd dx [(f, y)])) a (exo a C (some dx))) hp h1 := {
    keep := fun c o q n _ _ => k c o (na n) q
    slot := fun c o q n _ _ => ⟨o.slots, k c o (na n) q⟩
    free := fun c o q n _ => by rw [upd_ne (na n), upd_ne (nd q)]; exact n
    there := fun c o q _ => by
      by_cases hb : c = a
      · exact ⟨_, by rw [hb]; exact hx⟩
      · exact ⟨o, k c o hb q⟩
    tups := fun c xs q => by rw [upd_ne (at_ne e q exo_tup), upd_ne (ne_of_none q hnd)]; exact q
    frzs := fun c o v q => by rw [upd_ne (at_ne e q exo_frz), upd_ne (ne_of_none q hnd)]; exact q
    tbls := fun c ps q => ⟨#[], by rw [upd_ne (at_ne e q exo_tbl), upd_ne (ne_of_none q hnd), q]; simp⟩ }
  refine h dx _ hnd dne (I.un (t' := tk) U fun c o q => ?_)
  by_cases hb : c = a
  · subst hb
    rw [upd_same] at q
    cases q
    exact exo_ok hx
  rw [upd_ne hb] at q
  by_cases hd : c = dx
  · subst hd
    rw [upd_same] at q
    cases q
    exact exd_ok hn (relO_put (fs := []) ry fun g => True.intro)
  rw [upd_ne hd] at q
  exact (I.hok c o q).stay (fun c' v hc z => k c' v (hc.elim (fun hc => by rw [hc]; exact hb) fun hc => at_ne e hc exo_own) z)
    (fun c' hc => by rw [upd_ne (at_ne e hc exo_own), upd_ne (ne_of_none hc hnd)]; exact hc) (fun c' xs hc => by rw [upd_ne (at_ne e hc exo_tup), upd_ne (ne_of_none hc hnd)]; exact hc)
theorem init_run {us : List Value} {Q : Value → Shared → Prop} (T : ExT X.K C b) (I : Inv X pins σ H s) (e : H a = some (exo a C none)) (hl : us.length ≤ sizeLine) (h : ∀ s', Inv X pins σ H s' → Q .none s') :
    wpAny (model X.prog X.w) A (call (.builtin b.initId) (.ref a :: us)) Q E s := by
  obtain ⟨nm, q, N, bs, bm, sn, sub, ab, col, dd, k0, k1, k2, k3, k5, hC, hbm⟩ := T.cls
  obtain ⟨t1, ho⟩ := exo_at I.hok e
  obtain ⟨hp, g, d, t, os⟩ := s
  refine wpAny_call (PySem.HandSPX.init_base b.base (fun Y => by rw [off_has, hbm]) (I.kIn _ _ hC) ho hl fun h1 t2 k hx => ?_)
  have J := I.write (t' := t) (x := a) (e := a) (o := exo a C none) (by rw [e]; exact True.intro) (.inl rfl) k ⟨_, hx⟩ (exo_ok hx)
  have eu : upd H a (exo a C none) = H := funext fun c => by
    by_cases hb : c = a
    · rw [hb, upd_same, e]
    · rw [upd_ne hb]
  rw [eu] at J
  exact h _ J
end
def BaseN (K : PySem.W.Frag) (mg : Str → Option Value) (b : Bk) (x : Str) : Prop :=
  (x = Str.ofString b.name ∧ mg x = none ∧ PySem.W.findCls K (.type b.name) (.type "type") "__init__" = some (.val (.builtin b.initId))) ∨
  ∃ S : Addr, mg x = some (.ref S) ∧ PySem.W.readsIn K S (.type "type") = true ∧ PySem.W.specialIn K (.ref S) "__getattribute__" = some (some (.builtin "type.__getattribute__")) ∧ PySem.W.findCls K (.ref S) (.type "type") "__init__" = some (.val (.builtin b.initId))
def tBi (K : PySem.W.Frag) (b : Bk) (ta : TA) : TE := fun σ H Q => ta σ H fun vs H1 => ∃ (a C : Addr) (ws : List V), vs = .ref a :: ws ∧ ws.length ≤ 1000 ∧ ExT K C b ∧ H1 a = some (exo a C none) ∧ Q .non H1
section
variable {X : Cx} {o e : Expr} {es : List Expr} {to te : TE} {ta : TA} {f x : Str} {p p' p1 p2 pos : Pos} {b : Bk}
theorem pe_binit {pl : Sem Bool} (hg : Gl X x) (hdb : (x == ("__debug__" : Str)) = false) (hB : BaseN X.K X.mg b x) (ha : PA X (e :: es) ta)
    (hc : eval (.Call (.Attribute (.Name x p1) "__init__" p2) (e :: es) [] pos) X.env = (do
      let ov ← eval (.Name x p1) X.env
      standAt p2.atName
      let (f, first) ← holding [ov] (getMethod ov "__init__" pl)
      callWith pos f first (backTo pos (starEach (e :: es) X.env)) (backToKw pos (keywordEach [] X.env))))
    (he : starEach (e :: es) X.env = (false, eval e X.env) :: starEach es X.env) (hpl : (backTo pos (starEach es X.env)).any (·.1) = false) :
    PE X (.Call (.Attribute (.Name x p1) "__init__" p2) (e :: es) [] pos) (tBi X.K b ta) := by
  constructor
  intro pins s σ H Q I h
  have go : ∀ s0 : Shared, Inv X pins σ H s0 → wpAny (model X.prog X.w) X.A (callWith pos (Value.builtin b.initId) [] (backTo pos (starEach (e :: es) X.env)) []) (EP X pins σ Q) X.xe s0 := fun s0 I0 => by
    refine PyProof.Rows.callWith_method1 (thn (ha.run pos pins _ σ H _ I0 h) fun us s1 ⟨vs, H1, I1, r1, a, C, ws, ev, hl, T, ea, q⟩ => ?_) he hpl
    subst ev
    cases r1 with
    | @cons _ u0 _ ur ra rw' =>
      obtain rfl : u0 = Value.ref a := ra
      exact init_run T I1 ea (by rw [← Paired.length rw', sizeLine_eq]; omega) fun s2 J => ⟨.non, H1, J, rfl, q⟩
  rcases hB with ⟨rfl, hm, hv⟩ | ⟨S, hm, hr, hga, hv⟩
  · refine PySem.W.methodCall_KW (ld_blt I hg hm b.boot ?_ (by cases b <;> decide) hdb) hc
    obtain ⟨m, fr⟩ := I.fr
    refine PySem.W.method_type fr I.ok.mod.kin b.typ b.stub hv b.handed ?_
    exact go _ (I.tok _)
  · refine PySem.W.methodCall_KW (ld_glob I hg hm ?_ hdb) hc
    refine PySem.W.method_cls I.kIn hga (PySem.W.cls_value I.kIn hr hv b.handed ?_)
    exact go _ (I.tok _)
def tPut (K : PySem.W.Frag) (b : Bk) (f : Str) (to te : TE) : TS := fun D σ H => te σ H fun y H1 => to σ H1 fun x H2 => ∃ a C : Addr, x = .ref a ∧ ExT K C b ∧ PySem.W.findIn K (.ref C) f = some none ∧
  H2 a = some (exo a C none) ∧ ∀ dx, H2 dx = none → dx ≠ a → D.nx σ (upd (upd H2 dx (exd dx [(f, y)])) a (exo a C (some dx)))
theorem ps_put (ho : PE X o to) (he : PE X e te) (hs : swapsWith e (some (.Attribute o f p')) pos.line X.env = pure false) : PS X (.Assign [.Attribute o f p'] e pos) (tPut X.K b f to te) := by
  constructor
  intro pins s σ H D I h
  refine plainObj_wpAny_Assign_Attribute (thn (he.run pins s σ H _ I h) fun v s1 ⟨y, H1, I1, r1, q1⟩ => thn (ho.run pins s1 σ H1 _ I1 q1) fun u s2 ⟨x, H2, I2, r2, a, C, ex, T, hno, ea, q⟩ => ?_) hs
  subst ex
  obtain rfl : u = Value.ref a := r2
  exact put_first T I2 ea hno r1 fun dx s3 n ne J => ⟨σ, _, J, q dx n ne⟩
end
end EvT

set_option maxRecDepth 100000
set_option maxHeartbeats 2000000
namespace EvB
open PySem PySem.Spec PySem.Calls PyProof.Rows
section
variable {prog : Program} {w : World} {A : Around} {E : Value → Shared → Prop} {s : Shared} {K : PySem.W.Frag} {x C f L : Addr} {ox : Obj} {od : Option Obj} {h₀ : Heap} {m : Str → Option Value}
theorem bool_own {Q : Value → Shared → Prop} (FR : Fr h₀ L s.heap m) (X₀ : K.In h₀) (J : PySem.W.InstAt s.heap x ox C od) (hs : PySem.W.findIn K (.ref C) "__bool__" = some (some (.ref f))) (hf : PySem.W.isFn K (.ref f) = true)
    (h : wpAny (model prog w) A.in1.in1 (call (.ref f) [.ref x]) (PySem.W.BoolBack fun b s' => Q (.bool b) s') E s) : wpAny (model prog w) A (call (.type "bool") [.ref x]) Q E s := by
  refine callType_codes (T := "bool") (Bi := Builtin.«object.__init__») (Q₁ := fun r s₁ => ∃ b, r = .bool b ∧ Q r s₁) PySem.F.called_bool (PySem.F.typeCall_bool_1 _) PySem.F.entry_object_init ?_ ?_
  · refine codeAny_of_tree ?_
    show wpAny _ A.in1.in1 (do checkBuiltinCall "bool.__new__" ⟨[.type "bool", .ref x], []⟩; again (.builtin "bool.__new__" ⟨[.type "bool", .ref x], []⟩)) _ _ s
    refine wpAny_bind (wpAny_of_eq (PySem.F.newCall_bool_1 _) (wpAny_pure ⟨PySem.plainId_quiet (by decide +kernel) _, codeAny_builtin PySem.F.entry_bool_new ?_⟩))
    rw [Around.under_plainId (by decide +kernel) _]
    unfold Builtin.«bool.__new__»
    refine wpAny_bind (wpAny_pure ?_)
    refine wpAny_bind (wpAny_of_eq PySem.F.conv_sub_bool ?_)
    show wpAny _ _ (truthy (.ref x) >>= fun b => ret (.bool b)) _ _ s
    refine wpAny_bind (PySem.W.truthy_K FR X₀ J hs hf (wpAny_mono h (fun r s1 hr => ?_) fun _ _ y => y))
    cases r <;> first | exact hr.elim | exact wpAny_pure ⟨_, rfl, hr⟩
  · rintro obj s₁ ⟨b, rfl, hq⟩
    exact ⟨PySem.typeIs_bool _ _, PySem.F.args_object_init_2 _ _, object_init_meets PySem.F.called_bool.init.lookup PySem.F.called_bool.made (by decide) prog w A.in1 _ s₁ ⟨PySem.typeIs_bool _ _, rfl, hq⟩⟩
end
section
variable {M : Model} {A : Around} {E : Value → Shared → Prop} {s : Shared} {Q : Value → Shared → Prop}
theorem is_bool {a b : Bool} (h : Q (.bool (decide (a = b))) s) : wpAny M A (compareOp .Is (.bool a) (.bool b)) Q E s := by
  have e : (Value.bool a == Value.bool b) = decide (a = b) := by cases a <;> cases b <;> rfl
  exact wpAny_pure (by rw [e]; exact h)
theorem isnot_bool {a b : Bool} (h : Q (.bool (!decide (a = b))) s) : wpAny M A (compareOp .IsNot (.bool a) (.bool b)) Q E s := by
  have e : (Value.bool a == Value.bool b) = decide (a = b) := by cases a <;> cases b <;> rfl
  exact wpAny_pure (by rw [e]; exact h)
end
end EvB

set_option maxRecDepth 100000
namespace Ev
open PySem PySem.Spec PyProof.Rows L2

abbrev FLATT : List String := ["NoneType", "bool", "int", "str", "tuple", "list"]
abbrev OPS : List B2 := [.add, .mul, .bor]
def opB2 : B2 → Operator
  | .add => .Add
  | .sub => .Sub
  | .mul => .Mult
  | .fdiv => .FloorDiv
  | .mod => .Mod
  | .pow => .Pow
  | .bor => .BitOr
structure ClsF (W : Wd) (c : Nat) (i : ClI) : Prop where
  cls : Cls W.K (W.ca c)
  no : ∀ k ∈ i.flds, NoAttr W.K (W.ca c) (an W.T k)
  fi : ∀ k ∈ i.flds, ∀ k' ∈ i.flds, an W.T k = an W.T k' → k = k'
  meth : ∀ (m f : Nat), i.meths.lookup m = some f → ∃ j, W.T.fns[f]? = some j ∧ Meth W.K (W.ca c) (an W.T m) (fadr W.K W.T j.loc) ∧ ∀ k ∈ i.flds, an W.T k ≠ an W.T m
  prop : ∀ (k f : Nat), i.props.lookup k = some f → ∃ j p, W.T.fns[f]? = some j ∧ PropOf W.K (W.ca c) (an W.T k) p (fadr W.K W.T j.loc)
  first : PySem.W.selfFirst W.K (W.ca c) = true
  ne : i.meths.lookup 6 ≠ none → PySem.W.findIn W.K (.ref (W.ca c)) "__ne__" = some (some (.builtin "object.__ne__"))
  top : PySem.W.subIn W.K (.ref (W.ca c)) (.type "object") = some true
  cla : PySem.W.findIn W.K (.ref (W.ca c)) "__class__" = some (some (.builtin "object.__class__"))
  mro : PySem.W.mroIn W.K (W.ca c) (.type "object") = some true
  make : ∀ (j : FnI), W.T.fns[i.init]? = some j → Mk W.K (W.ca c) (fadr W.K W.T j.loc)
  mroT : ∀ t ∈ FLATT, PySem.W.mroIn W.K (W.ca c) (.type t) = some false
  eqo : i.meths.lookup 6 = none → PySem.W.findIn W.K (.ref (W.ca c)) "__eq__" = some (some (.builtin "object.__eq__")) ∧ PySem.W.findIn W.K (.ref (W.ca c)) "__ne__" = some (some (.builtin "object.__ne__"))
  subs : ∀ (c' : Nat) (i' : ClI), W.T.cls[c']? = some i' → i'.isexc = false → PySem.W.mroIn W.K (W.ca c) (.ref (W.ca c')) = some (i.mro.contains c')
  nor : ∀ k ∈ OPS, (i.meths.lookup k.m).isSome = true → PySem.W.findIn W.K (.ref (W.ca c)) (PySem.dunderR (opB2 k).info.2) = some none

theorem RoomH.in1 {k : Nat} {A : Around} (r : L2H.RoomH (k + 1) A) : L2H.RoomH k A.in1 :=
  ⟨by have := r.dp; show A.depth + 3 * k + 5 < _; omega, by have := r.un; show A.units + 1 + 16 * k + 200 < _; omega⟩
theorem RoomH.in2 {k : Nat} {A : Around} (r : L2H.RoomH (k + 1) A) : L2H.RoomH k A.in1.in1 :=
  ⟨by have := r.dp; show A.depth + 3 * k + 5 < _; omega, by have := r.un; show A.units + 1 + 1 + 16 * k + 200 < _; omega⟩
theorem RoomH.make {k : Nat} {A : Around} (r : L2H.RoomH (k + 1) A) (C : Addr) (us : List Value) : L2H.RoomH k (A.under (.builtin "type.__call__" ⟨.ref C :: us, []⟩)) :=
  ⟨by have := r.dp; rw [make_depth]; omega, by have := r.un; rw [make_units]; omega⟩
def Lull (hot : Bool) (A : Around) (outer : List Env) (H : Hp) (s : Shared) : Prop := A.handled = none ∨ hot = true ∧ ∃ p, L2H.Hot1 A p ∧ L2H.PinOk outer H s p
structure FnG (hot : Bool) (P : Program) (w : World) (K : PySem.W.Frag) (mg : Str → Option Value) (base : Heap) (Cx_ : CXT) (k : Nat) (f : Addr) (fd : FuncData) (ps : List Str) (sp : Sp) : Prop where
  len : ∀ vs H Q E, sp vs H Q E → vs.length = ps.length
  run : ∀ (A : Around) (outer : List Env) (s : Shared) (H : Hp) (args : Args) (us : List Value) (vs : List V) (Q : VK) (E : XK), A.guards = some [] → L2H.RoomH k A → Lull hot A outer H s → Env0 P w K mg base A outer s H → BindsTo s fd args (ps.zip us) → Vals vs us → sp vs H Q E →
    codeAny (model P w) A (.call (.ref f) args) (CR Cx_ outer P w H s Q E) s
def spF (W : Wd) (np : Nat) (F : List D → Mu → Res D) : Sp := fun vs H Q E => ∃ e μ ds, vs.length = np ∧ St0 W e μ H ∧ RepL W e ds vs ∧ Aft W e H (F ds μ) (fun d m e' H' => ∀ v, Rep W e' d v → Q v H') E
structure FnP (W : Wd) (n : Nat) (hot : Bool) (i : FnI) (F : List D → Mu → Res D) : Prop where
  np : (i.names.take i.np).length = i.np
  fill : ∀ ds μ us, argsOf i ds = some us → F ds μ = F us μ
  miss : ∀ ds μ, argsOf i ds = none → F ds μ = .stuck
  ok : ∃ fd, FnG hot W.P W.w W.K W.mg W.base (L2N.CX W.P W.w) (n + 34) (fadr W.K W.T i.loc) fd (i.names.take i.np) (spF W i.np F) ∧
    ∀ k, k ≤ i.dfl.length → ∃ ds dvs, Vals dvs ds ∧ (∀ e, RepL W e (i.dfl.drop k) dvs) ∧ Binds W.K fd (i.names.take i.np) ds
def without_ (H : Hp) (a : Addr) : Hp := fun b => if b = a then none else H b
def AftI (W : Wd) (e : Em) (H : Hp) (c : Nat) (ks : List Nat) (a dx : Addr) (r : Res D) (Q : VK) (E : XK) : Prop := match r with
  | .ok d m => ∀ e' H' gs vs fs, Ex e H e' H' → St0 W e' m H' → d = .ins c fs → FldsAt W.T ks gs vs → RepL W e' fs vs → e'.G a = none → (∀ i, e'.r i ≠ some a) → Q .non (upd H' a (.ins (W.ca c) dx gs))
  | .exc c' fs m => ∀ e' H' gs cls d, Ex e H e' H' → St0 W e' m H' → Exa W e' H' c' fs cls d → e'.G a = none → (∀ i, e'.r i ≠ some a) → d ≠ some a → E cls d (upd H' a (.ins (W.ca c) dx gs))
  | .stuck => False
def spI (W : Wd) (c : Nat) (ks : List Nat) (np : Nat) (F : List D → Mu → Res D) : Sp := fun vs H Q E => ∃ e μ ds a dx us, vs = .ref a :: us ∧ vs.length = np ∧ H a = some (.ins (W.ca c) dx []) ∧ e.G a = none ∧ (∀ i, e.r i ≠ some a) ∧
  St0 W e μ (without_ H a) ∧ RepL W e ds us ∧ AftI W e (without_ H a) c ks a dx (F ds μ) Q E
structure InP (W : Wd) (n : Nat) (hot : Bool) (c : Nat) (k : ClI) (i : FnI) (F : List D → Mu → Res D) : Prop where
  np : (i.names.take i.np).length = i.np
  fill : ∀ ds μ us, argsOf i (.non :: ds) = some (.non :: us) → F ds μ = F us μ
  miss : ∀ ds μ, argsOf i (.non :: ds) = none → F ds μ = .stuck
  ok : ∃ fd, FnG hot W.P W.w W.K W.mg W.base (L2N.CX W.P W.w) (n + 34) (fadr W.K W.T i.loc) fd (i.names.take i.np) (spI W c k.flds i.np F) ∧
    ∀ k, k ≤ i.dfl.length → ∃ ds dvs, Vals dvs ds ∧ (∀ e, RepL W e (i.dfl.drop k) dvs) ∧ Binds W.K fd (i.names.take i.np) ds
def FnPs (W : Wd) (n : Nat) (hot : Bool) (F : Nat → List D → Mu → Res D) : Prop := ∀ (f : Nat) (ds : List D) (μ : Mu), F f ds μ = .stuck ∨ ∃ i, W.T.fns[f]? = some i ∧ i.ok = true ∧ FnP W n hot i (F f)
def InPs (W : Wd) (n : Nat) (hot : Bool) (F : Nat → List D → Mu → Res D) : Prop := ∀ (c : Nat) (ds : List D) (μ : Mu), F c ds μ = .stuck ∨ ∃ k i, W.T.cls[c]? = some k ∧ k.isexc = false ∧ W.T.fns[k.init]? = some i ∧ i.ok = true ∧
  ((k.isval = true ∧ InP W n hot c k i (F c)) ∨ (k.isval = false ∧ ∃ G, FnP W n hot i G ∧ ∀ vs μ, F c vs μ = (G (.obj μ.length :: vs) (μ ++ [.ins c []])).bind fun r m => (match r with | .non => .ok (.obj μ.length) m | _ => .stuck)))

def DUN : List Str := ["__add__", "__sub__", "__mul__", "__or__", "__neg__", "__abs__", "__eq__", "__lt__", "__le__", "__gt__", "__ge__", "__bool__", "__str__", "__repr__", "__len__", "__contains__", "__init__", "__floordiv__", "__mod__", "__pow__"]
def BLT : List Str := ["len", "abs", "max", "min", "str", "repr", "int", "bool", "list", "tuple", "any", "all", "range", "enumerate", "zip", "isinstance", "reversed"]
def tyV (W : Wd) : Ty → Value
  | .non => .type "NoneType"
  | .bl => .type "bool"
  | .int => .type "int"
  | .str => .type "str"
  | .lst => .type "list"
  | .tup => .type "tuple"
  | .ins c => .ref (W.ca c)
def kdV (W : Wd) : Kd → Value
  | .int => .type "int"
  | .str => .type "str"
  | .bool => .type "bool"
  | .list => .type "list"
  | .tuple => .type "tuple"
  | .cls c => .ref (W.ca c)
def tyIn (T : Tb) : Ty → Bool
  | .ins c => (T.cls[c]?).isSome
  | _ => true
def kdIn (T : Tb) : Kd → Bool
  | .cls c => (T.cls[c]?).isSome
  | _ => true
structure FnT (W : Wd) (i : FnI) (body : List Stmt) (scope : Scope) : Prop where
  ex : ∃ (x qual : Str) (params : Arguments) (dvs : List V) (fd : FuncData), FunD W.K x qual params body scope dvs [] (fadr W.K W.T i.loc) fd ∧
    ∀ k, k ≤ i.dfl.length → ∃ ds dvs', Vals dvs' ds ∧ (∀ e, RepL W e (i.dfl.drop k) dvs') ∧ Binds W.K fd (i.names.take i.np) ds
  sc : FnScope i.names (i.names.take i.np) scope
  np : (i.names.take i.np).length = i.np
def XBody (K : PySem.W.Frag) (mg : Str → Option Value) (b : EvT.Bk) (f : Str) (N : List Str) (sc : Scope) (body : List Stmt) : Prop := ∃ (sf vl bn txt : Str) (j : Nat) (p1 p2 p3 p4 p5 p6 p7 p8 p9 p10 : Pos), N = [sf, vl] ∧
  body = [.Expr (.Call (.Attribute (.Name bn p1) "__init__" p2) [.Name sf p3, .Constant (.str txt) j p4] [] p5) p6, .Assign [.Attribute (.Name sf p7) f p8] (.Name vl p9) p10] ∧ (p2.endLine == p5.line) = true ∧
  sc.names.lookup sf = some .local ∧ sc.names.lookup vl = some .local ∧ sc.names.lookup bn = some .globalImplicit ∧ (bn == ("__debug__" : Str)) = false ∧ (sf == ("__debug__" : Str)) = false ∧ (sf == ("__classdict__" : Str)) = false ∧ (vl == ("__debug__" : Str)) = false ∧ (vl == ("__classdict__" : Str)) = false ∧
  EvT.BaseN K mg b bn
structure ExcF (W : Wd) (c : Nat) (i : ClI) : Prop where
  made : i.flds ≠ [] → ∃ (b : EvT.Bk) (k : Nat) (j : FnI) (body : List Stmt) (scope : Scope), EvT.ExT W.K (W.ca c) b ∧ i.flds = [k] ∧ PySem.W.findIn W.K (.ref (W.ca c)) (an W.T k) = some none ∧ W.T.fns[i.init]? = some j ∧
    PySem.W.findIn W.K (.ref (W.ca c)) "__init__" = some (some (.ref (fadr W.K W.T j.loc))) ∧ PySem.W.typeIn W.K (.ref (fadr W.K W.T j.loc)) = some (.type "function") ∧ FnT W j body scope ∧ j.np = 2 ∧ j.dfl = [] ∧ XBody W.K W.mg b (an W.T k) j.names scope body
  xf : XfC W.K (W.ca c)
  cls : PySem.W.findIn W.K (.ref (W.ca c)) "__class__" = some (some (.builtin "object.__class__"))
  top : PySem.W.mroIn W.K (W.ca c) (.type "object") = some true
  inst : (PySem.W.clsIn W.K (W.ca c)).isSome = true
  sub : ∀ (c' : Nat) (i' : ClI), W.T.cls[c']? = some i' → i'.isexc = true → PySem.W.exmOne W.K (.ref (W.ca c)) (.ref (W.ca c')) = some (isSubc W.T c c')
structure Txt (W : Wd) : Prop where
  isi : ∀ t k, tyIn W.T t = true → kdIn W.T k = true → PySem.W.kitOne W.K (tyV W t) (kdV W k) = some (isTy W.T t k)
  ccg : PySem.W.specialIn W.K (.builtin "object.__class__") "__get__" = some (some (.builtin "getset_descriptor.__get__"))
  cct : PySem.W.takesIn W.K (.builtin "object.__class__") = some true
  dun : ∀ (j : Nat) (x : Str), DUN[j]? = some x → an W.T j = x
  cls : ∀ (c : Nat) (i : ClI), W.T.cls[c]? = some i → i.isexc = false → ClsF W c i
  exc : ∀ (c : Nat) (i : ClI), W.T.cls[c]? = some i → i.isexc = true → ExcF W c i
  inj : ∀ (c c' : Nat) (i i' : ClI), W.T.cls[c]? = some i → W.T.cls[c']? = some i' → W.ca c = W.ca c' → c = c'
  glob : ∀ (f : Nat) (i : FnI) (x : Str), W.T.fns[f]? = some i → i.loc = (x, none) → W.mg x = some (.ref (fadr W.K W.T i.loc)) ∧ PySem.W.keepIn W.K (.ref (fadr W.K W.T i.loc)) = true
  clsg : ∀ (c : Nat) (i : ClI), W.T.cls[c]? = some i → W.mg i.name = some (.ref (W.ca c)) ∧ PySem.W.keepIn W.K (.ref (W.ca c)) = true
  blt : ∀ x ∈ BLT, W.mg x = none
  seer : W.base.NoSeer
  tree : W.P.given.tree = none
structure Hyp (W : Wd) (X : Cx) (n : Nat) (C : Cl) (Wx : WX) : Prop where
  prog : X.prog = W.P
  w : X.w = W.w
  K : X.K = W.K
  mg : X.mg = W.mg
  base : X.base = W.base
  T : C.T = W.T
  txt : Txt W
  warm : X.calm = true ∨ C.hot = true ∧ L2H.HotC X
  room : L2H.RoomH (n + 34) X.A
  guards : X.A.guards = some []
  nd : X.N.Nodup
  top : ∃ env l, X.stack = env :: l ∧ env.scope.isGenerator = false ∧ env.scope.isCoroutine = false ∧ env.builtins = builtinsNs ∧ env.globals = mainGlobals
  takes : L2N.Takes X Wx
  own : PassesOwn (model X.prog X.w) X.A X.env X.xe
  call : FnPs W n C.hot C.call
  low : (∀ f ds μ, C.low f ds μ = .stuck) ∨ ∃ k, k + 1 ≤ n ∧ FnPs W k C.hot C.low
  make : (∀ f ds μ, C.make f ds μ = .stuck) ∨ ∃ k, k + 1 ≤ n ∧ InPs W k C.hot C.make
  hcall : FnPs W n true C.hcall
  hlow : (∀ f ds μ, C.hlow f ds μ = .stuck) ∨ ∃ k, k + 1 ≤ n ∧ FnPs W k true C.hlow
  hmake : (∀ f ds μ, C.hmake f ds μ = .stuck) ∨ ∃ k, k + 1 ≤ n ∧ InPs W k true C.hmake

structure Pn (W : Wd) (X : Cx) (C : Cl) (H0 : En) : Prop where
  cold : C.hot = false → H0.x = none
  pin : ∀ a c dx, H0.x = some (a, c, dx) → ∃ oe : Obj, (a, oe) ∈ X.pn ∧ oe.cls = .ref (W.ca c) ∧ oe.dict = some dx ∧ ∃ vs, oe.data = .fields vs
section
variable {W : Wd} {X : Cx} {n : Nat} {C : Cl} {Wx : WX} {pins : List (Addr × Obj)} {σ : L2.St} {H : Hp} {s : Shared}
theorem Hyp.warmW (h : Hyp W X n C Wx) : EvW.Warm X := h.warm.imp id fun z => z.2
theorem Hyp.lull (h : Hyp W X n C Wx) {A : Around} (hha : A.handled = X.A.handled) (I : Inv X pins σ H s) : Lull C.hot A X.stack H s := by
  rcases h.warm with c | ⟨hc, p, ⟨hh, v⟩, hp⟩
  · exact .inl (hha.trans (I.ok.hd c))
  · have P1 := I.pin p (List.mem_append_left _ hp)
    exact .inr ⟨hc, p, ⟨hha.trans hh, v⟩, P1.1, P1.2.1, fun hm => (List.mem_cons.mp (I.stkSub p.1 hm)).elim P1.2.2.1 P1.2.2.2.1, P1.2.2.2.2⟩
theorem argsOf_full {i : FnI} {ds us : List D} (h : argsOf i ds = some us) : ds.length ≤ i.np ∧ i.np ≤ ds.length + i.dfl.length ∧ us = ds ++ i.dfl.drop (ds.length + i.dfl.length - i.np) ∧ us.length = i.np := by
  unfold argsOf at h
  split at h
  · rename_i z
    cases h
    refine ⟨z.1, z.2, rfl, ?_⟩
    rw [List.length_append, List.length_drop]
    omega
  · cases h
def Got (W : Wd) (e : Em) (H : Hp) (r : Res D) (Q : VK) (E : XK) : Prop := Aft W e H r (fun d _ e' H' => ∀ v, Rep W e' d v → Q v H') E
abbrev xkA (Wx : WX) (σ : L2.St) : XK := fun cls d H' => Wx cls d σ H'
theorem run_fnW {k : Nat} {i : FnI} {F : List D → Mu → Res D} (h : Hyp W X n C Wx) {A : Around} (hr : L2H.RoomH (k + 34) A) (hA : A.frames = X.A.frames) (hgu : A.guards = X.A.guards) (hha : A.handled = X.A.handled) (fp : FnP W k C.hot i F) {e : Em} {μ : Mu} {ds : List D} {vs : List V} {us : List Value} {Q : VK}
    (I : Inv X pins σ H s) (r : Vals vs us) (st : St0 W e μ H) (rd : RepL W e ds vs) (q : Got W e H (F ds μ) Q (xkA Wx σ)) :
    wpAny (model X.prog X.w) A (call (.ref (fadr W.K W.T i.loc)) us) (EP X pins σ Q) X.xe s := by
  have ha : ∃ a, argsOf i ds = some a := by
    cases z : argsOf i ds with
    | some a => exact ⟨a, rfl⟩
    | none => rw [fp.miss ds μ z] at q; exact q.elim
  obtain ⟨a, ha⟩ := ha
  obtain ⟨l1, l2, ea, la⟩ := argsOf_full ha
  obtain ⟨fd, ok, bi⟩ := fp.ok
  obtain ⟨dd, dvs, rv, rl, bd⟩ := bi (ds.length + i.dfl.length - i.np) (by omega)
  have hl : vs.length = ds.length := rd.length
  have hdl : dvs.length = (i.dfl.drop (ds.length + i.dfl.length - i.np)).length := (rl e).length
  have F' : FnG C.hot X.prog X.w X.K X.mg X.base (L2N.CX X.prog X.w) (k + 34) (fadr W.K W.T i.loc) fd (i.names.take i.np) (spF W i.np F) := by rw [h.prog, h.w, h.K, h.mg, h.base]; exact ok
  have bd' : Binds X.K fd (i.names.take i.np) dd := by rw [h.K]; exact bd
  have sp : spF W i.np F (vs ++ dvs) H Q (xkA Wx σ) := by
    refine ⟨e, μ, a, ?_, st, ?_, ?_⟩
    · rw [List.length_append, hl, hdl, List.length_drop]; omega
    · rw [ea]; exact rd.append (rl e)
    · rw [fp.fill ds μ a ha] at q; exact q
  have r2 : Vals (vs ++ dvs) (us ++ dd) := r.append rv
  have hl2 : (us ++ dd).length = (i.names.take i.np).length := by rw [← r2.length]; exact F'.len _ _ _ _ sp
  have e0 : Env0 X.prog X.w X.K X.mg X.base A X.stack s H := by
    have e := I.env0
    exact ⟨by rw [hA]; exact e.frames, e.mod, e.bs, e.bsz, e.funs, e.frf, e.hok, e.bare⟩
  refine wpAny_call (codeAny_mono (F'.run A X.stack s H ⟨us, []⟩ (us ++ dd) (vs ++ dvs) Q _ (by rw [hgu]; exact h.guards) hr (h.lull hha I) e0 (bd' s us I.kIn hl2) r2 sp) fun r s' hq => ?_)
  cases r with
  | error x => exact h.takes _ _ (L2N.XE.of_call I (fun _ _ _ z => z) hq)
  | ok fl =>
    cases fl with
    | ret u => exact I.after hq
    | next => exact False.elim hq
    | brk => exact False.elim hq
    | cont => exact False.elim hq
end
end Ev
namespace Ev
open PySem PySem.Spec PyProof.Rows L2
section
variable {W : Wd} {X : Cx} {n : Nat} {C : Cl} {Wx : WX} {pins : List (Addr × Obj)} {σ : L2.St} {H : Hp} {s : Shared} {e : Em} {μ : Mu}
theorem FldsAt.no_ {T : Tb} {ks : List Nat} {gs : List (Str × V)} {vs : List V} (f : FldsAt T ks gs vs) {nm : Str} (h : ∀ k ∈ ks, an T k ≠ nm) : gs.lookup nm = none := f.no nm h
theorem inst_at (st : St0 W e μ H) {x : D} {v : V} {c : Nat} (hx : Rep W e x v) (hc : clsOf μ x = some c) :
    ∃ a dx gs i, v = .ref a ∧ H a = some (.ins (W.ca c) dx gs) ∧ W.T.cls[c]? = some i ∧ i.isexc = false ∧ ∀ nm, (∀ k ∈ i.flds, an W.T k ≠ nm) → gs.lookup nm = none := by
  cases x with
  | ins c' fs =>
    cases hc
    obtain ⟨a, dx, gs, vs, i, rfl, h1, h2, h3, h4, _⟩ := hx
    exact ⟨a, dx, gs, i, rfl, st.sub _ _ h1, h2, h3, h4.no⟩
  | obj o =>
    obtain ⟨a, rfl, ha⟩ := hx
    have hc : (match μ[o]? with | some (.ins c _) => some c | _ => none) = some c := hc
    cases q : μ[o]? with
    | none => rw [q] at hc; cases hc
    | some so =>
      rw [q] at hc
      cases so with
      | lst xs => cases hc
      | ins c' fs =>
        cases hc
        obtain ⟨b, hb, dx, gs, i, h1, h2, h3, h4, _⟩ := st.cell o _ q
        rw [ha] at hb; cases hb
        exact ⟨a, dx, gs, i, rfl, h1, h2, h3, fun nm hn => h4.no nm fun k hk _ => hn k hk⟩
  | _ => cases hc
theorem dcallF_ok (h : Hyp W X n C Wx) {k : Nat} {F : Nat → List D → Mu → Res D} {A : Around} (hF : FnPs W k C.hot F) (hr : L2H.RoomH (k + 34) A) (hA : A.frames = X.A.frames) (hgu : A.guards = X.A.guards) (hha : A.handled = X.A.handled) {m : Nat} {x : D} {ys : List D} {v : V} {vs : List V} {u : Value} {us : List Value} {Q : VK} (I : Inv X pins σ H s) (st : St0 W e μ H)
    (hx : Rep W e x v) (hy : RepL W e ys vs) (rv : RelV v u) (rs : Vals vs us) (q : Got W e H (dcallF C.T F m x ys μ) Q (xkA Wx σ)) :
    ∃ c a dx gs i fa, v = .ref a ∧ u = .ref a ∧ H a = some (.ins (W.ca c) dx gs) ∧ clsOf μ x = some c ∧ W.T.cls[c]? = some i ∧ ClsF W c i ∧ Meth X.K (W.ca c) (an W.T m) fa ∧ gs.lookup (an W.T m) = none ∧
      wpAny (model X.prog X.w) A (call (.ref fa) (.ref a :: us)) (EP X pins σ Q) X.xe s := by
  unfold dcallF at q
  cases hc : clsOf μ x with
  | none => rw [hc] at q; exact q.elim
  | some c =>
    rw [hc] at q
    have q : Got W e H (match mthd C.T c m with | some f => F f (x :: ys) μ | none => .stuck) Q (xkA Wx σ) := q
    cases hm : mthd C.T c m with
    | none => rw [hm] at q; exact q.elim
    | some f =>
      rw [hm] at q
      have q : Got W e H (F f (x :: ys) μ) Q (xkA Wx σ) := q
      obtain ⟨a, dx, gs, i, rfl, hH, hi, hx2, hno⟩ := inst_at st hx hc
      cases rv
      have cf := h.txt.cls c i hi hx2
      have hm : i.meths.lookup m = some f := by
        unfold mthd at hm
        rw [h.T, hi] at hm
        exact hm
      obtain ⟨j, hj, hM, hne⟩ := cf.meth m f hm
      rcases hF f (x :: ys) μ with z | ⟨j', hj', ho, fp⟩
      · rw [z] at q; exact q.elim
      · rw [hj] at hj'; cases hj'
        refine ⟨c, a, dx, gs, i, _, rfl, rfl, hH, rfl, hi, cf, by rw [h.K]; exact hM, hno _ hne, ?_⟩
        exact run_fnW h hr hA hgu hha fp I (Paired.cons (show RelV (V.ref a) (Value.ref a) from rfl) rs) st (.cons hx hy) q
theorem dcall_ok (h : Hyp W X n C Wx) {m : Nat} {x : D} {ys : List D} {v : V} {vs : List V} {u : Value} {us : List Value} {Q : VK} (I : Inv X pins σ H s) (st : St0 W e μ H)
    (hx : Rep W e x v) (hy : RepL W e ys vs) (rv : RelV v u) (rs : Vals vs us) (q : Got W e H (dcall C m x ys μ) Q (xkA Wx σ)) :
    ∃ c a dx gs i fa, v = .ref a ∧ u = .ref a ∧ H a = some (.ins (W.ca c) dx gs) ∧ clsOf μ x = some c ∧ W.T.cls[c]? = some i ∧ ClsF W c i ∧ Meth X.K (W.ca c) (an W.T m) fa ∧ gs.lookup (an W.T m) = none ∧
      wpAny (model X.prog X.w) X.A (call (.ref fa) (.ref a :: us)) (EP X pins σ Q) X.xe s := dcallF_ok h h.call h.room rfl rfl rfl I st hx hy rv rs q
theorem dcallL_ok (h : Hyp W X n C Wx) {m : Nat} {x : D} {ys : List D} {v : V} {vs : List V} {u : Value} {us : List Value} {Q : VK} (I : Inv X pins σ H s) (st : St0 W e μ H)
    (hx : Rep W e x v) (hy : RepL W e ys vs) (rv : RelV v u) (rs : Vals vs us) (q : Got W e H (dcallL C m x ys μ) Q (xkA Wx σ)) :
    ∃ c a dx gs i fa, v = .ref a ∧ u = .ref a ∧ H a = some (.ins (W.ca c) dx gs) ∧ clsOf μ x = some c ∧ W.T.cls[c]? = some i ∧ ClsF W c i ∧ Meth X.K (W.ca c) (an W.T m) fa ∧ gs.lookup (an W.T m) = none ∧
      wpAny (model X.prog X.w) X.A.in1 (call (.ref fa) (.ref a :: us)) (EP X pins σ Q) X.xe s := by
  rcases h.low with hs | ⟨k, hk, hF⟩
  · unfold dcallL dcallF at q
    split at q
    · rw [hs] at q; exact q.elim
    · exact q.elim
  · exact dcallF_ok h hF (RoomH.in1 (h.room.mono (by omega))) rfl rfl rfl I st hx hy rv rs q
theorem dcallL2_ok (h : Hyp W X n C Wx) {m : Nat} {x : D} {ys : List D} {v : V} {vs : List V} {u : Value} {us : List Value} {Q : VK} (I : Inv X pins σ H s) (st : St0 W e μ H)
    (hx : Rep W e x v) (hy : RepL W e ys vs) (rv : RelV v u) (rs : Vals vs us) (q : Got W e H (dcallL C m x ys μ) Q (xkA Wx σ)) :
    ∃ c a dx gs i fa, v = .ref a ∧ u = .ref a ∧ H a = some (.ins (W.ca c) dx gs) ∧ clsOf μ x = some c ∧ W.T.cls[c]? = some i ∧ ClsF W c i ∧ Meth X.K (W.ca c) (an W.T m) fa ∧ gs.lookup (an W.T m) = none ∧
      wpAny (model X.prog X.w) X.A.in1.in1 (call (.ref fa) (.ref a :: us)) (EP X pins σ Q) X.xe s := by
  rcases h.low with hs | ⟨k, hk, hF⟩
  · unfold dcallL dcallF at q
    split at q
    · rw [hs] at q; exact q.elim
    · exact q.elim
  · exact dcallF_ok h hF (RoomH.in2 (h.room.mono (by omega))) rfl rfl rfl I st hx hy rv rs q
theorem inst_rule (I : Inv X pins σ H s) {c : Nat} {a dx : Addr} {gs : List (Str × V)} (hH : H a = some (.ins (W.ca c) dx gs)) :
    ∃ m od, PyProof.Rows.Fr X.base X.env.locals s.heap m ∧ X.K.In X.base ∧ PySem.W.InstAt s.heap a (PySem.W.instObj (W.ca c) dx) (W.ca c) od := by
  obtain ⟨mA, O, _⟩ := ins_get I.hok hH
  obtain ⟨od, J, _⟩ := O.look
  obtain ⟨m, F⟩ := I.fr
  exact ⟨m, _, F, I.ok.mod.kin, J⟩
end
end Ev

set_option maxRecDepth 100000
set_option maxHeartbeats 2000000
namespace Ev
open PySem PySem.Spec PyProof.Rows L2
def IsCx (hot : Bool) (cX : CXT) (P : Program) (w : World) (K : PySem.W.Frag) (mg : Str → Option Value) (base : Heap) (N : List Str) (qual : Str) (scope : Scope) (f : Addr) (cd : Value) (A : Around) (outer : List Env) (s : Shared) (H : Hp) (E : XK) (X : Cx) : Prop :=
  X = cxOf cX P w K mg base N qual scope f cd A outer s H E ∨ hot = true ∧ ∃ p, L2H.Hot1 A p ∧ X = L2H.cxH cX P w K mg base N qual scope f cd A outer s H E p
theorem fnG_of {P : Program} {w : World} {K : PySem.W.Frag} {mg : Str → Option Value} {base : Heap} {cX : CXT} {x qual : Str} {params : Arguments} {body : List Stmt} {scope : Scope} {dvs : List V} {kws : List (Str × V)} {f : Addr} {fd : FuncData} {N ps : List Str} {k : Nat} {sp : Sp} {hot : Bool}
    (F : FunD K x qual params body scope dvs kws f fd) (S : FnScope N ps scope) (len : ∀ vs H Q E, sp vs H Q E → vs.length = ps.length)
    (hb : ∀ (cdv : Value) (A : Around) (outer : List Env) (s : Shared) (H : Hp) (vs : List V) (Q : VK) (E : XK) (X : Cx), IsCx hot cX P w K mg base N qual scope f cdv A outer s H E X → A.guards = some [] → L2H.RoomH k (A.deeper (envOfC qual scope s.heap.objs.size f cdv)) → sp vs H Q E →
      ∃ t, PSs X body t ∧ t { nx := fun _ H' => Q .non H', rt := Q } (L2.start N vs) H) : FnG hot P w K mg base cX (k + 1) f fd ps sp := by
  obtain ⟨oc, od, dV, kV, doc, pm, an, cdv, ct, osl, rfl, lk, hcd, _, _⟩ := F.ex
  constructor
  · exact len
  intro A outer s H args us vs Q E hgu room lull env bnd rel hsp
  have grown : ∀ b o, base.get? b = some o → s.heap.get? b = some o := fun b o e => (env.bs b o e).1
  have kin := env.mod.kin.keeps grown
  have kinds : ∀ z ∈ ps.zip us, scope.names.lookup z.1 = some .local ∨ (scope.names.lookup z.1 = some .cell ∧ ((cellsFrom (s.heap.objs.size + 1) scope.names []).lookup z.1).isSome = true) := by
    rintro ⟨nm, u⟩ hz
    exact (S.par nm (List.of_mem_zip hz).1).imp id fun q => ⟨q, PySem.W.cellsFrom_some _ _ _ (.inl q)⟩
  refine codeAny_call_function room.depth (kin _ _ lk) rfl S.co S.gen rfl (PySem.W.codeRec_of kin hcd) (bnd _ _ _ _ ?_)
  refine wpAny_newFunctionEnv_cells S.kind kinds ?_
  rintro _ rfl s1 inC
  refine ⟨(env.mod.nolimit.keeps grown).keeps inC.toInCall.keep, codeAny_func ?_⟩
  rcases lull with hd | ⟨hc, p, hot, pin⟩
  · obtain ⟨t, ht, hq⟩ := hb cdv A outer s H vs Q E _ (.inl rfl) hgu (room.deeper _) hsp
    have J := inv_start (CX := cX) (P := P) (w := w) (mg := mg) (E := E) S hd env (len _ _ _ _ hsp) rel inC
    refine wpAny_mono (ht.run [] s1 (L2.start N vs) H _ J hq) ?_ fun _ _ z => z
    intro fl s' hs
    match fl, hs with
    | .ret u, ⟨v, σ', H', J', rv, q⟩ => exact ⟨v, H', J'.os, J'.bare, J'.base, J'.hok, rv, q⟩
    | .next, ⟨σ', H', J', q⟩ => exact ⟨.non, H', J'.os, J'.bare, J'.base, J'.hok, rfl, q⟩
    | .brk, ⟨_, _, _, q⟩ => exact q.elim
    | .cont, ⟨_, _, _, q⟩ => exact q.elim
  · obtain ⟨t, ht, hq⟩ := hb cdv A outer s H vs Q E _ (.inr ⟨hc, p, hot, rfl⟩) hgu (room.deeper _) hsp
    have J := L2H.inv_startH (CX := cX) (P := P) (w := w) (mg := mg) (E := E) S pin env (len _ _ _ _ hsp) rel inC
    refine wpAny_mono (ht.run [] s1 (L2.start N vs) H _ J hq) ?_ fun _ _ z => z
    intro fl s' hs
    match fl, hs with
    | .ret u, ⟨v, σ', H', J', rv, q⟩ => exact ⟨v, H', J'.os, J'.bare, J'.base, J'.hok, rv, q⟩
    | .next, ⟨σ', H', J', q⟩ => exact ⟨.non, H', J'.os, J'.bare, J'.base, J'.hok, rfl, q⟩
    | .brk, ⟨_, _, _, q⟩ => exact q.elim
    | .cont, ⟨_, _, _, q⟩ => exact q.elim
end Ev

set_option maxRecDepth 100000
set_option maxHeartbeats 2000000
namespace Ev
open PySem PySem.Spec PyProof.Rows L2
section
variable {W : Wd} {X : Cx} {n : Nat} {C : Cl} {Wx : WX} {pins : List (Addr × Obj)} {σ : L2.St} {H : Hp} {s : Shared} {e : Em} {μ : Mu}
theorem sq_exact (h : Hyp W X n C Wx) (I : Inv X pins σ H s) (st : St0 W e μ H) {a : Addr} {vs : List V} (q : SqX W.K e.G a vs) :
    ∃ (its : List Value) (m : Nat), s.heap.get? a = some { cls := .type "list", data := .seq its.toArray m } ∧ Vals vs its ∧ vs.length ≤ sizeLine := by
  rcases q with q | ⟨its, m, h1, h2, h3⟩
  · have q : Rd H a (.lst vs) := by
      rcases q with q | ⟨o, q⟩
      · exact .inl (st.sub _ _ q)
      · exact .inr ⟨o, st.sub _ _ q⟩
    obtain ⟨z, its, m, r, g⟩ := q.ok I.hok
    exact ⟨its, m, g, r, z⟩
  · refine ⟨its.toList, m, ?_, h3, ?_⟩
    · rw [← h.K] at h1
      have := I.kIn _ _ h1
      simpa using this
    · have := h3.length
      simp at this
      omega
theorem Got.newL {Q : VK} {E : XK} {ds : List D} {vs : List V} (q : Got W e H (.ok (.lst ds) μ) Q E) (st : St0 W e μ H) (r : RepL W e ds vs) : ∀ p, H p = none → Q (.ref p) (upd H p (.lst vs)) := fun p hp => by
  obtain ⟨x, s'⟩ := st.frozen (.lst vs) hp
  exact q _ _ x s' _ ⟨p, vs, rfl, .inl (.inl upd_same), r.ex x⟩
theorem Got.newT {Q : VK} {E : XK} {ds : List D} {vs : List V} (q : Got W e H (.ok (.tup ds) μ) Q E) (st : St0 W e μ H) (r : RepL W e ds vs) : ∀ p, H p = none → Q (.ref p) (upd H p (.tup vs)) := fun p hp => by
  obtain ⟨x, s'⟩ := st.frozen (.tup vs) hp
  exact q _ _ x s' _ ⟨p, vs, rfl, .inl (.inl upd_same), r.ex x⟩
theorem Got.val {Q : VK} {E : XK} {d : D} {v : V} (q : Got W e H (.ok d μ) Q E) (st : St0 W e μ H) (r : Rep W e d v) : Q v H := Aft.now q st v r

theorem ib_eq (i : Int) : Builtin.Int.intBits i = ib i := by
  unfold Builtin.Int.intBits ib
  by_cases h : i = 0
  · subst h; rfl
  · rw [if_neg h]
    split <;> simp_all
theorem mulOk_ok {i j : Int} (h : mulOk i j = true) : IntMulOk i j := by
  unfold mulOk at h
  rw [Bool.or_eq_true, Bool.or_eq_true] at h
  rcases h with (h | h) | h
  · exact .of_left (by rw [ib_eq]; exact of_decide_eq_true h)
  · exact .of_right (by rw [ib_eq]; exact of_decide_eq_true h)
  · have h := of_decide_eq_true h
    unfold IntMulOk
    intro z
    rw [Bool.and_eq_true] at z
    have z2 := z.2
    unfold Builtin.Int.intTooBig at z2
    have z3 := of_decide_eq_true z2
    rw [ib_eq, ib_eq, show bitsLine = 134217728 by decide] at z3
    have h : ib i + ib j ≤ 134217728 := h
    omega
theorem dun_info (h : Txt W) (k : B2) : an W.T k.m = PySem.dunder (opB2 k).info.2 := by
  cases k <;> (rw [h.dun _ _ (by rfl)] <;> decide +kernel)
theorem op_inst (h : Hyp W X n C Wx) (k : B2) {x y : D} {v w : V} {u t : Value} {Q : VK} (I : Inv X pins σ H s) (st : St0 W e μ H) (hx : Rep W e x v) (hy : Rep W e y w) (rv : RelV v u) (rw_ : RelV w t)
    (hc : clsOf μ y = clsOf μ x) (q : Got W e H (dcall C k.m x [y] μ) Q (xkA Wx σ)) : wpAny (model X.prog X.w) X.A (binaryOp (opB2 k) u t) (EP X pins σ Q) X.xe s := by
  obtain ⟨c, a, dx, gs, i, fa, rfl, rfl, hH, hcx, hi, cf, M, _, run⟩ := dcall_ok h I st hx (.cons hy .nil) rv (.cons rw_ .nil) q
  obtain ⟨m, od, F, KX, J⟩ := inst_rule I hH
  rw [hcx] at hc
  obtain ⟨b, dy, gs', i', rfl, hH', _⟩ := inst_at st hy hc
  cases rw_
  obtain ⟨m', od', F', KX', J'⟩ := inst_rule I hH'
  refine PySem.W.binop_K F KX J J'.type (by rw [h.K]; exact cf.first) (by rw [← dun_info h.txt k]; exact M.at_) M.fn ?_
  refine wpAny_mono run (fun r s' z => ?_) fun _ _ z => z
  obtain ⟨v', H', I', r', q'⟩ := z
  have fin : EP X pins σ Q r s' := ⟨v', H', I', r', q'⟩
  cases v' with
  | non => cases r'; exact fin
  | bl b => cases r'; exact fin
  | int i => obtain ⟨t, rfl⟩ := r'; exact fin
  | str i => obtain ⟨t, rfl⟩ := r'; exact fin
  | byt i => obtain ⟨t, rfl⟩ := r'; exact fin
  | flt i => obtain ⟨t, rfl⟩ := r'; exact fin
  | ref a => cases r'; exact fin
  | ty a => cases r'; exact fin
theorem pylong (h : Hyp W X n C Wx) (I : Inv X pins σ H s) : PylongRoom (model X.prog X.w) X.A s := by
  obtain ⟨env, l, h1, h2, h3, h4, h5⟩ := h.top
  have ns : s.heap.NoSeer := by
    have := h.txt.seer
    rw [← h.base] at this
    exact this.keeps I.bk
  have ht : (model X.prog X.w).prog.given.tree = none := by
    show X.prog.given.tree = none
    rw [h.prog]; exact h.txt.tree
  refine PylongRoom.of I.nolimit ?_ (SeerAt.of (env := env) (l := l) ns ht ?_ h2 h3 h4 h5)
  · have := h.room.dp
    show X.A.depth + 100 < _
    omega
  · rw [I.ok.frames, h1]
theorem op_ok (h : Hyp W X n C Wx) (k : B2) {dx dy : D} {x y : V} {u t : Value} {Q : VK} (I : Inv X pins σ H s) (st : St0 W e μ H) (hx : RepH W e H dx x) (hy : RepH W e H dy y) (rx : RelV x u) (ry : RelV y t)
    (q : Got W e H (evB2 C k dx dy μ) Q (xkA Wx σ)) : wpAny (model X.prog X.w) X.A (binaryOp (opB2 k) u t) (EP X pins σ Q) X.xe s := by
  have ii : ∀ {i j : Int}, dx = .int i → dy = .int j → (∃ a b, x = .int i ∧ y = .int j ∧ u = .int i a ∧ t = .int j b) := by
    rintro i j rfl rfl
    have hx : x = .int i := hx
    have hy : y = .int j := hy
    subst hx hy
    obtain ⟨a, rfl⟩ := rx
    obtain ⟨b, rfl⟩ := ry
    exact ⟨a, b, rfl, rfl, rfl, rfl⟩
  have inst : ∀ {c : Nat} {xs ys : List D}, dx = .ins c xs → dy = .ins c ys → Got W e H (dcall C k.m dx [dy] μ) Q (xkA Wx σ) → wpAny (model X.prog X.w) X.A (binaryOp (opB2 k) u t) (EP X pins σ Q) X.xe s := by
    rintro c xs ys rfl rfl q
    exact op_inst h k I st (RepH.of rfl hx) (RepH.of rfl hy) rx ry rfl q
  cases dx with
  | int i =>
    cases dy with
    | int j =>
      obtain ⟨a, b, rfl, rfl, rfl, rfl⟩ := ii rfl rfl
      cases k with
      | add => exact op_add pins s σ H _ _ _ _ Q I rx ry ⟨i, j, rfl, rfl, q.val st rfl⟩
      | sub => exact op_sub pins s σ H _ _ _ _ Q I rx ry ⟨i, j, rfl, rfl, q.val st rfl⟩
      | mul =>
        have q : Got W e H (if mulOk i j then .ok (.int (i * j)) μ else .stuck) Q (xkA Wx σ) := q
        cases z : mulOk i j with
        | false => rw [z] at q; exact q.elim
        | true =>
          rw [z] at q
          exact mul_int ⟨.int _, H, I.tok _, ⟨_, rfl⟩, Got.val q st rfl⟩ (mulOk_ok z)
      | fdiv =>
        have q : Got W e H (if j ≠ 0 then .ok (.int (i.fdiv j)) μ else .stuck) Q (xkA Wx σ) := q
        by_cases z : j ≠ 0
        · rw [if_pos z] at q
          exact floordiv_int z ⟨.int _, H, I.tok _, ⟨_, rfl⟩, Got.val q st rfl⟩ (.inr (pylong h I))
        · rw [if_neg z] at q; exact q.elim
      | mod =>
        have q : Got W e H (if j ≠ 0 then .ok (.int (i.fmod j)) μ else .stuck) Q (xkA Wx σ) := q
        by_cases z : j ≠ 0
        · rw [if_pos z] at q
          exact mod_int' z ⟨.int _, H, I.tok _, ⟨_, rfl⟩, Got.val q st rfl⟩
        · rw [if_neg z] at q; exact q.elim
      | pow =>
        have q : Got W e H (if 0 ≤ j ∧ j ≤ 1000000 ∧ i.natAbs < 2 ^ 64 then .ok (.int (i ^ j.toNat)) μ else .stuck) Q (xkA Wx σ) := q
        by_cases z : 0 ≤ j ∧ j ≤ 1000000 ∧ i.natAbs < 2 ^ 64
        · rw [if_pos z] at q
          exact op_pow pins s σ H _ _ _ _ Q I rx ry ⟨i, j, rfl, rfl, z, Got.val q st rfl⟩
        · rw [if_neg z] at q; exact q.elim
      | bor => exact q.elim
    | _ => cases k <;> exact q.elim
  | str a =>
    cases dy with
    | str b =>
      cases k with
      | add =>
        have q : Got W e H (if a.length + b.length ≤ LINE then .ok (.str (a ++ b)) μ else .stuck) Q (xkA Wx σ) := q
        by_cases z : a.length + b.length ≤ LINE
        · rw [if_pos z] at q
          exact op_add_str pins s σ H _ _ _ _ Q I rx ry ⟨a, b, hx, hy, by rw [sizeLine_eq]; exact z, Got.val q st rfl⟩
        · rw [if_neg z] at q; exact q.elim
      | _ => exact q.elim
    | _ => cases k <;> exact q.elim
  | lst xs =>
    cases dy with
    | lst ys =>
      cases k with
      | add =>
        have q : Got W e H (if xs.length + ys.length ≤ LINE then .ok (.lst (xs ++ ys)) μ else .stuck) Q (xkA Wx σ) := q
        by_cases z : xs.length + ys.length ≤ LINE
        · rw [if_pos z] at q
          obtain ⟨a, vs, rfl, sa, ra⟩ := hx
          obtain ⟨b, ws, rfl, sb, rb⟩ := hy
          cases rx
          cases ry
          obtain ⟨its, m1, g1, r1, _⟩ := sq_exact h I st sa
          obtain ⟨its2, m2, g2, r2, _⟩ := sq_exact h I st sb
          have z : xs.length + ys.length ≤ 16777216 := z
          have l1 := ra.length
          have l2 := rb.length
          have k1 := r1.length
          have k2 := r2.length
          refine PySem.P.add_list g1 g2 ?_ (by rw [List.size_toArray, List.size_toArray, sizeLine_eq]; omega)
          have hf : H s.heap.objs.size = none := I.hok.fresh (Nat.le_refl _)
          have ea : its.toArray ++ its2.toArray = (its ++ its2).toArray := by simp
          rw [ea]
          refine ⟨.ref _, _, I.laid (t' := s.toks) (o := .lst (vs ++ ws)) (fun b u z => Heap.get?_push_of_some _ z) (Nat.le_refl _) ?_, rfl, q.newL st (ra.append rb) _ hf⟩
          exact ⟨by rw [List.length_append, sizeLine_eq]; omega, _, 0, r1.append r2, Heap.get?_push_size _ rfl⟩
        · rw [if_neg z] at q; exact q.elim
      | _ => exact q.elim
    | _ => cases k <;> exact q.elim
  | ins c xs =>
    cases dy with
    | ins c' ys =>
      by_cases z : c' = c
      · subst z
        cases k <;> exact inst rfl rfl (by have q : Got W e H (if c' = c' then _ else _) Q (xkA Wx σ) := q; rw [if_pos rfl] at q; exact q)
      · cases k <;> (have q : Got W e H (if c' = c then _ else _) Q (xkA Wx σ) := q; rw [if_neg z] at q; exact q.elim)
    | _ => cases k <;> exact q.elim
  | obj o =>
    cases dy with
    | _ => cases k <;> exact q.elim
  | _ => cases k <;> cases dy <;> exact q.elim
end
end Ev

set_option maxRecDepth 100000
set_option maxHeartbeats 2000000
namespace Ev4
open PySem PySem.SeqAt
open AutoSeq1 (wpAny_loadPart')
open MeetsSeq MeetsSeq2 MeetsSeq3 SeqRoads2
abbrev FinOf (prog : Program) (w : World) (A : Around) (R : Result → Shared → Prop) : Fin → Shared → Prop := fun fin s' => match fin with
  | .done f => R (.ok f) s'
  | .again c' => c'.quiet = true ∧ codeAny (model prog w) A c' R s'
section
variable {prog : Program} {w : World} {A : Around} {R : Result → Shared → Prop}
def LS (l b : Addr) (N : Nat) (s : Shared) : Prop := ∃ (items items2 : Array Value) (n n2 : Nat), s.heap.get? l = some { cls := .type "list", data := .seq items n } ∧ s.heap.get? b = some { cls := .type "list", data := .seq items2 n2 } ∧ items.size = N ∧ items2.size = N
structure ListI (prog : Program) (w : World) (A : Around) (E : Value → Shared → Prop) (l b : Addr) (N : Nat) (I : Nat → Shared → Prop) (Z : Shared → Prop) : Prop where
  ls : ∀ i s, I i s → LS l b N s
  zs : ∀ s, Z s → LS l b N s
  turn : ∀ i s items items2 n n2, I i s → s.heap.get? l = some { cls := .type "list", data := .seq items n } → s.heap.get? b = some { cls := .type "list", data := .seq items2 n2 } → ∀ (h1 : i < items.size) (h2 : i < items2.size),
    wpAny (model prog w) A.in1 (eqBool items[i] items2[i]) (fun r s' => if r = true then I (i + 1) s' else i < N ∧ Z s') E s
def codeN (ne : Bool) : Int := if ne then 3 else 2
def opN (ne : Bool) : CmpOp := if ne then .NotEq else .Eq
theorem loopG (ne : Bool) (l b : Addr) (N : Nat) (I : Nat → Shared → Prop) (Z : Shared → Prop) (hl : ListI prog w A (fun e s' => R (.error e) s') l b N I Z)
    (fin : ∀ s, I N s → R (.ok (.ret (.bool (!ne)))) s) (finZ : ∀ s, Z s → R (.ok (.ret (.bool ne))) s) (k : Nat) :
    ∀ i : Nat, N - i = k → i ≤ N → ∀ s, I i s →
      wpAny (model prog w) A.in1 (Builtin.«list.__eq__.loop» ⟨[.ref l, .ref b, rawInt i, rawInt (codeN ne)], []⟩) (FinOf prog w A R) (fun e s' => R (.error e) s') s := by
  induction k with
  | zero =>
    intro i hk hi s h
    obtain ⟨items, items2, n, n2, hl1, hb1, hs1, hs2⟩ := hl.ls _ _ h
    have hi' : i = N := by omega
    have hR := fin s (hi' ▸ h)
    obtain ⟨hp, g, d, tk, os⟩ := s
    have hi1 : items[((i : Nat) : Int).toNat]? = none := by simp; omega
    have hi2 : items2[((i : Nat) : Int).toNat]? = none := by simp; omega
    cases ne
    case' false => (have hc : codeN false = 2 := rfl)
    case' true => (have hc : codeN true = 3 := rfl)
    all_goals
      rw [hc]
      wp_walk using wpAny_loadPart' hl1, wpAny_loadPart' hb1
      rw [hi1, hi2]
      wp_walk using wpAny_loadPart' hl1, wpAny_loadPart' hb1
    · show R (.ok (.ret (.bool (items.size != items2.size)))) _
      rw [hs1, hs2]
      simpa using hR
    · show R (.ok (.ret (.bool (items.size == items2.size)))) _
      rw [hs1, hs2]
      simpa using hR
  | succ k ih =>
    intro i hk hi s h
    obtain ⟨items, items2, n, n2, hl1, hb1, hs1, hs2⟩ := hl.ls _ _ h
    have hlt : i < items.size := by omega
    have hlt2 : i < items2.size := by omega
    have ht := hl.turn i s items items2 n n2 h hl1 hb1 hlt hlt2
    have hi1 : items[((i : Nat) : Int).toNat]? = some items[i] := by simp [hlt]
    have hi2 : items2[((i : Nat) : Int).toNat]? = some items2[i] := by simp [hlt2]
    have hc1 : ((i : Int) + 1) = ((i + 1 : Nat) : Int) := by omega
    cases ne
    case' false => (have hc : codeN false = 2 := rfl)
    case' true => (have hc : codeN true = 3 := rfl)
    all_goals
      rw [hc]
      obtain ⟨hp, g, d, tk, os⟩ := s
      wp_walk using wpAny_loadPart' hl1, wpAny_loadPart' hb1
      rw [hi1, hi2]
      refine wpAny_bind (wpAny_mono ht (fun r s2 h2 => ?_) fun _ _ x => x)
      cases r with
      | true =>
        have hrec := ih (i + 1) (by omega) (by omega) s2 (by simpa using h2)
        obtain ⟨hp2, g2, d2, tk2, os2⟩ := s2
        wp_walk
        rw [hc1]
        exact ⟨plainId_quiet plain_eq_loop _, codeAny_builtin entry_eq_loop (by
          rw [Around.under_plainId plain_eq_loop _]
          rw [hc] at hrec
          exact hrec)⟩
      | false =>
        have h2 : i < N ∧ Z s2 := by simpa using h2
        obtain ⟨hiN, h2⟩ := h2
        obtain ⟨jt, jt2, m, m2, e1, e2, z1, z2⟩ := hl.zs _ h2
        have hR := finZ s2 h2
        have hj1 : jt[((i : Nat) : Int).toNat]? = some (jt[i]'(by omega)) := by first | (simp; done) | (simp; omega)
        have hj2 : jt2[((i : Nat) : Int).toNat]? = some (jt2[i]'(by omega)) := by first | (simp; done) | (simp; omega)
        obtain ⟨hp2, g2, d2, tk2, os2⟩ := s2
        wp_walk using wpAny_loadPart' e1, wpAny_loadPart' e2
        rw [hj1, hj2]
        wp_walk
        exact hR
theorem list_cmpG (ne : Bool) (l b : Addr) (N : Nat) (I : Nat → Shared → Prop) (Z : Shared → Prop) (hl : ListI prog w A (fun e s' => R (.error e) s') l b N I Z)
    (fin : ∀ s, I N s → R (.ok (.ret (.bool (!ne)))) s) (finZ : ∀ s, Z s → R (.ok (.ret (.bool ne))) s) {s : Shared} (h : I 0 s) :
    wpAny (model prog w) A.in1 ((if ne then Builtin.«list.__ne__» else Builtin.«list.__eq__») ⟨[.ref l, .ref b], []⟩) (FinOf prog w A R) (fun e s' => R (.error e) s') s := by
  obtain ⟨items, items2, n, n2, hl1, hb1, hs1, hs2⟩ := hl.ls _ _ h
  have hrec := loopG (A := A) (R := R) ne l b N I Z hl fin finZ _ 0 rfl (Nat.zero_le _) s h
  obtain ⟨hp, g, d, tk, os⟩ := s
  have f3 := AutoSeq1.sub_list_list
  have hne : ¬ (items.size != items2.size) = true := by simp [hs1, hs2]
  cases ne
  all_goals
    simp only [Bool.false_eq_true, if_false, if_true]
    wp_walk using wpAny_loadPart' hl1, wpAny_loadPart' hb1
    exact ⟨plainId_quiet plain_eq_loop _, codeAny_builtin entry_eq_loop (by
      rw [Around.under_plainId plain_eq_loop _]
      exact hrec)⟩
theorem list_cmpL (ne : Bool) (l b : Addr) {items items2 : Array Value} {n n2 : Nat} {s : Shared} (hl1 : s.heap.get? l = some { cls := .type "list", data := .seq items n }) (hb1 : s.heap.get? b = some { cls := .type "list", data := .seq items2 n2 }) (hs : items.size ≠ items2.size)
    (h : R (.ok (.ret (.bool ne))) s) : wpAny (model prog w) A.in1 ((if ne then Builtin.«list.__ne__» else Builtin.«list.__eq__») ⟨[.ref l, .ref b], []⟩) (FinOf prog w A R) (fun e s' => R (.error e) s') s := by
  obtain ⟨hp, g, d, tk, os⟩ := s
  have f3 := AutoSeq1.sub_list_list
  have hne : (items.size != items2.size) = true := by simpa using hs
  cases ne
  all_goals
    simp only [Bool.false_eq_true, if_false, if_true]
    wp_walk using wpAny_loadPart' hl1, wpAny_loadPart' hb1
    exact h
theorem tuple_cmpG (ne : Bool) (l b : Addr) (items items2 : Array Value) (n n2 : Nat) (dd dd2 : Option Addr) (sl sl2 : Array (Option Value)) (I : Nat → Shared → Prop) (Z : Shared → Prop)
    (turn : ∀ i (h1 : i < items.size) (h2 : i < items2.size) s, I i s → wpAny (model prog w) A.in1 (eqBool items[i] items2[i]) (fun r s' => if r = true then I (i + 1) s' else Z s') (fun e s' => R (.error e) s') s)
    (fin : ∀ s, I (min items.size items2.size) s → R (.ok (.ret (.bool ((items.size == items2.size) != ne)))) s) (finZ : ∀ s, Z s → R (.ok (.ret (.bool ne))) s)
    {s : Shared} (hl1 : s.heap.get? l = some { cls := .type "tuple", dict := dd, data := .seq items n, slots := sl }) (hb1 : s.heap.get? b = some { cls := .type "tuple", dict := dd2, data := .seq items2 n2, slots := sl2 }) (h : I 0 s) :
    wpAny (model prog w) A.in1 ((if ne then Builtin.«tuple.__ne__» else Builtin.«tuple.__eq__») ⟨[.ref l, .ref b], []⟩) (FinOf prog w A R) (fun e s' => R (.error e) s') s := by
  have f2 := AutoSeq1.sub_tuple_tuple
  have hZ : (items.toList.zip items2.toList).length = min items.size items2.size := by simp
  have h0 := h
  obtain ⟨hp, g, d, tk, os⟩ := s
  cases ne
  all_goals
    simp only [Bool.false_eq_true, if_false, if_true]
    wp_walk using wpAny_loadPart' hl1, wpAny_loadPart' hb1, wpAny_forIn_list _ (fun rest b s' => b.1 = none ∧ ∃ i, rest = (items.toList.zip items2.toList).drop i ∧ i ≤ min items.size items2.size ∧ I i s') _
    case turn =>
      rintro ⟨y, x⟩ rest b s' ⟨hb', i, hz, hi, hI⟩
      have hlt : i < (items.toList.zip items2.toList).length := by
        rcases Nat.lt_or_ge i (items.toList.zip items2.toList).length with h' | h'
        · exact h'
        · rw [List.drop_of_length_le h'] at hz; cases hz
      have hm : i < min items.size items2.size := hZ ▸ hlt
      have h1 : i < items.size := Nat.lt_of_lt_of_le hm (Nat.min_le_left _ _)
      have h2 : i < items2.size := Nat.lt_of_lt_of_le hm (Nat.min_le_right _ _)
      rw [List.drop_eq_getElem_cons hlt] at hz
      injection hz with hyx hrest
      have hy : y = items[i] := by have := congrArg Prod.fst hyx; simpa using this
      have hx : x = items2[i] := by have := congrArg Prod.snd hyx; simpa using this
      subst hy hx
      refine wpAny_bind (wpAny_mono (turn i h1 h2 s' hI) (fun r s2 q2 => ?_) fun _ _ x => x)
      cases r with
      | true =>
        wp_walk
        exact ⟨rfl, i + 1, hrest, hm, by simpa using q2⟩
      | false =>
        have q2 : Z s2 := by simpa using q2
        have hR := finZ s2 q2
        wp_walk
        first
        | exact hR
        | exact ⟨_, rfl, hR⟩
    case fin =>
      rintro ⟨b1, b2⟩ s' ⟨hb', i, hz, hi, hI⟩
      simp only at hb'
      subst hb'
      have hge : min items.size items2.size ≤ i := by
        rcases Nat.lt_or_ge i (items.toList.zip items2.toList).length with h' | h'
        · rw [List.drop_eq_getElem_cons h'] at hz; cases hz
        · exact hZ ▸ h'
      have hi' : i = min items.size items2.size := by omega
      have hR := fin s' (hi' ▸ hI)
      wp_walk
      simpa [Builtin.Tuple.tupleCompareSizes, bne] using hR
    case h =>
      exact ⟨rfl, 0, rfl, Nat.zero_le _, h0⟩
end
section
variable {prog : Program} {w : World} {A : Around} {E : Value → Shared → Prop} {s : Shared}
theorem call_here {T : String} {name : Str} {id : String} {B : Builtin} {self : Value} {rest : List Value} {Q : Value → Shared → Prop} (slot : Slot T name id) (hT : s.TypeIs self T)
    (entry : entryFor table id = some B) (args : argsOk id ⟨self :: rest, []⟩)
    (h : wpAny (model prog w) A.in1 (B ⟨self :: rest, []⟩) (FinOf prog w A (wants Q E)) (fun e s' => wants Q E (.error e) s') s) :
    wpAny (model prog w) A (call (.builtin id) (self :: rest)) Q E s :=
  wpAny_call (codeAny_call_builtin slot.plain entry (slot.check _ _ _ _ _ _ _ _ hT args h))
theorem rc_list {ne : Bool} {l b : Addr} {N : Nat} {Q : Value → Shared → Prop} (hu : A.units < cLine) (I : Nat → Shared → Prop) (Z : Shared → Prop) (hl : ListI prog w A E l b N I Z)
    (fin : ∀ s, I N s → Q (.bool (!ne)) s) (finZ : ∀ s, Z s → Q (.bool ne) s) (h : I 0 s) : wpAny (model prog w) A (richCompare (opN ne) (.ref l) (.ref b)) Q E s := by
  obtain ⟨items, items2, n, n2, hl1, hb1, _, _⟩ := hl.ls _ _ h
  have c := list_cmpG (A := A) (R := wants (fun v s' => v ≠ .notImplemented ∧ Q v s') E) ne l b N I Z hl (fun s' q => ⟨(fun x => nomatch x), fin s' q⟩) (fun s' q => ⟨(fun x => nomatch x), finZ s' q⟩) h
  cases ne with
  | false => exact wpAny_richCompare_same_room (op := .Eq) ⟨_, hl1, rfl⟩ ⟨_, hb1, rfl⟩ F.slot_list_eq (call_here F.slot_list_eq ⟨_, hl1, rfl⟩ F.entry_list_eq (F.args_list_eq_2 _ _) c) hu
  | true => exact wpAny_richCompare_same_room (op := .NotEq) ⟨_, hl1, rfl⟩ ⟨_, hb1, rfl⟩ F.slot_list_ne (call_here F.slot_list_ne ⟨_, hl1, rfl⟩ F.entry_list_ne (F.args_list_ne_2 _ _) c) hu
theorem rc_listL {ne : Bool} {l b : Addr} {items items2 : Array Value} {n n2 : Nat} {Q : Value → Shared → Prop} (hu : A.units < cLine) (hl1 : s.heap.get? l = some { cls := .type "list", data := .seq items n }) (hb1 : s.heap.get? b = some { cls := .type "list", data := .seq items2 n2 }) (hs : items.size ≠ items2.size)
    (h : Q (.bool ne) s) : wpAny (model prog w) A (richCompare (opN ne) (.ref l) (.ref b)) Q E s := by
  have c := list_cmpL (prog := prog) (w := w) (A := A) (R := wants (fun v s' => v ≠ .notImplemented ∧ Q v s') E) ne l b hl1 hb1 hs ⟨(fun x => nomatch x), h⟩
  cases ne with
  | false => exact wpAny_richCompare_same_room (op := .Eq) ⟨_, hl1, rfl⟩ ⟨_, hb1, rfl⟩ F.slot_list_eq (call_here F.slot_list_eq ⟨_, hl1, rfl⟩ F.entry_list_eq (F.args_list_eq_2 _ _) c) hu
  | true => exact wpAny_richCompare_same_room (op := .NotEq) ⟨_, hl1, rfl⟩ ⟨_, hb1, rfl⟩ F.slot_list_ne (call_here F.slot_list_ne ⟨_, hl1, rfl⟩ F.entry_list_ne (F.args_list_ne_2 _ _) c) hu
theorem rc_tup {ne : Bool} {l b : Addr} {items items2 : Array Value} {Q : Value → Shared → Prop} (hu : A.units < cLine) (I : Nat → Shared → Prop) (Z : Shared → Prop) (hl : s.heap.IsTuple l items) (hb : s.heap.IsTuple b items2)
    (turn : ∀ i (h1 : i < items.size) (h2 : i < items2.size) s, I i s → wpAny (model prog w) A.in1 (eqBool items[i] items2[i]) (fun r s' => if r = true then I (i + 1) s' else Z s') E s)
    (fin : ∀ s, I (min items.size items2.size) s → Q (.bool ((items.size == items2.size) != ne)) s) (finZ : ∀ s, Z s → Q (.bool ne) s) (h : I 0 s) : wpAny (model prog w) A (richCompare (opN ne) (.ref l) (.ref b)) Q E s := by
  obtain ⟨⟨cls, dd, data, sl⟩, ho, hc, n, hd⟩ := id hl
  obtain ⟨⟨cls2, dd2, data2, sl2⟩, ho2, hc2, n2, hd2⟩ := id hb
  simp only at hc hd hc2 hd2
  subst hc hd hc2 hd2
  have c := tuple_cmpG (prog := prog) (w := w) (A := A) (R := wants (fun v s' => v ≠ .notImplemented ∧ Q v s') E) ne l b items items2 n n2 dd dd2 sl sl2 I Z turn (fun s' q => ⟨(fun x => nomatch x), fin s' q⟩) (fun s' q => ⟨(fun x => nomatch x), finZ s' q⟩) ho ho2 h
  cases ne with
  | false => exact wpAny_richCompare_same_room (op := .Eq) ⟨_, ho, rfl⟩ ⟨_, ho2, rfl⟩ F.slot_tuple_eq (call_here F.slot_tuple_eq ⟨_, ho, rfl⟩ F.entry_tuple_eq (F.args_tuple_eq_2 _ _) c) hu
  | true => exact wpAny_richCompare_same_room (op := .NotEq) ⟨_, ho, rfl⟩ ⟨_, ho2, rfl⟩ F.slot_tuple_ne (call_here F.slot_tuple_ne ⟨_, ho, rfl⟩ F.entry_tuple_ne (F.args_tuple_ne_2 _ _) c) hu
end
end Ev4

set_option maxRecDepth 100000
set_option maxHeartbeats 2000000
namespace Ev
open PySem PySem.Spec PyProof.Rows L2 PySem.W

section
variable {prog : Program} {w : World} {A : Around} {E : Value → Shared → Prop} {s : Shared} {K : Frag} {x C L f : Addr} {h₀ : Heap} {m : Str → Option Value} {ox : Obj} {od : Option Obj} {b tb : Value}
theorem one_bind (self : Value) : bindSpecial (.builtin "object.__ne__") self = pure (.builtin "object.__ne__", [self]) :=
  (Slot.of (T := "object") (name := "__ne__") (owner := "object") (n := "__ne__") (by rw [typeLookup_type, builtinLookup_eq_fast]; kernel_rfl) (by decide +kernel) (by decide +kernel) (by decide +kernel)
    (.inl (by decide +kernel)) (by rw [isSubtype_type]; kernel_rfl)).bind self
theorem one_plain : plainId "object.__ne__" = true := by decide +kernel
theorem own_ne (hu : A.units + 1 < cLine) (FR : Fr h₀ L s.heap m) (X₀ : K.In h₀) (I : InstAt s.heap x ox C od) (hb : Looks (model prog w) s.heap (typeOf b) tb) (hn : notFirst K C tb = true)
    (hs : findIn K (.ref C) "__ne__" = some (some (.builtin "object.__ne__"))) (he : findIn K (.ref C) "__eq__" = some (some (.ref f))) (hf : isFn K (.ref f) = true) (ht : subIn K (.ref C) (.type "object") = some true) {Q : Value → Shared → Prop}
    (h : wpAny (model prog w) A.in1 (call (.ref f) [.ref x, b]) (fun v s' => ∃ r, v = .bool r ∧ Q (.bool (!r)) s') E s) : wpAny (model prog w) A (richCompare .NotEq (.ref x) b) Q E s := by
  have X := X₀.keeps FR.keep
  have t2 : Looks (model prog w) s.heap (isInstance (.ref x) (.type "object")) true := I.type.andThen (looks_subIn X ht)
  have run : ∀ {Q' : Value → Shared → Prop}, (∀ r s', Q (.bool (!r)) s' → Q' (.bool (!r)) s') → wpAny (model prog w) A (call (.builtin "object.__ne__") [.ref x, b]) Q' E s := by
    intro Q' hq
    refine wpAny_call (codeAny_call_builtin one_plain F.cmpEntry_ne (@check_slot (model prog w) _ _ _ "object.__ne__" "object" "__ne__" (.ref x) [b] [] _ F.cmpKind_ne F.cmpSplit_ne t2 (F.cmpArgs_ne _ _) ?_))
    unfold Builtin.«object.__ne__»
    obtain ⟨hp, g, d, tk, os⟩ := s
    repeat (first
      | with_reducible refine wpAny_cRoomFor (A := A.in1) hu ?_
      | (refine wpAny_bind (m := callSpecialIfBound? (.ref x) (Str.ofString "__eq__") [b])
          (ifBound_K X I he hf (wpAny_mono h (fun r s' hr => by
            obtain ⟨b, rfl, hq'⟩ := hr
            repeat (first | exact hq _ _ hq' | exact wpAny_pure (hq _ _ hq') | (refine wpAny_bind (m := truthy (.bool _)) (wpAny_truthy_bool ?_)) | wp_step)) fun _ _ e => e)))
      | wp_step)
  have one : wpAny (model prog w) A (tryCompare (.ref x) (cmpInfo .NotEq).2.1 b) (fun r s' => ∃ v, r = some v ∧ Q v s') E s := by
    unfold tryCompare
    refine wpAny_bind ?_
    simp only [callSpecialIfBound?, bindSpecialIfBound?]
    refine wpAny_holding (wpAny_bind (wpAny_bind (wpAny_bind (I.type.here ((looks_findIn X hs).here ?_)))))
    refine wpAny_bind (wpAny_askSetting (wpAny_ite ?_))
    have fin : wpAny (model prog w) A (call (.builtin "object.__ne__") ([.ref x] ++ [b]) >>= fun v => pure (some v)) (fun r s' => wpAny (model prog w) A (match r with | some .notImplemented | none => pure none | some v => pure (some v)) (fun r s' => ∃ v, r = some v ∧ Q v s') E s') E s :=
      wpAny_bind (wpAny_mono (run (Q' := fun v s' => ∃ r, v = .bool r ∧ Q (.bool r) s') fun r s' q => ⟨_, rfl, q⟩) (fun v s' h' => by
        obtain ⟨r, rfl, q⟩ := h'
        exact wpAny_pure (wpAny_pure ⟨_, rfl, q⟩)) fun _ _ h' => h')
    split
    · exact wpAny_bind ((Looks.of_pure (one_bind _)).here (wpAny_pure (by exact fin)))
    · exact wpAny_tryCatch (wpAny_bind ((Looks.of_pure (one_bind _)).here (wpAny_pure (by exact fin))))
  unfold richCompare
  simp only [oneThing_ref]
  refine wpAny_holding (wpAny_bind (wpAny_cRoomFor (Nat.lt_of_succ_lt hu) ?_))
  refine wpAny_bind (I.type.here (wpAny_bind (hb.here ?_)))
  split
  · rename_i q
    have e : subIn K tb (.ref C) = some false := by
      rcases Bool.or_eq_true_iff.mp hn with e | e
      · rw [beq_iff_eq.mp e] at q; simp at q
      · exact beq_iff_eq.mp e
    refine wpAny_bind ((looks_subIn X e).here ?_)
    simp only [Bool.false_eq_true, if_false]
    refine wpAny_bind (wpAny_mono one (fun r s' z => ?_) fun _ _ e => e)
    obtain ⟨v, rfl, hq⟩ := z
    exact wpAny_pure hq
  · refine wpAny_bind (wpAny_pure ?_)
    simp only [Bool.false_eq_true, if_false]
    refine wpAny_bind (wpAny_mono one (fun r s' z => ?_) fun _ _ e => e)
    obtain ⟨v, rfl, hq⟩ := z
    exact wpAny_pure hq
end

section
variable {W : Wd} {X : Cx} {n : Nat} {C : Cl} {Wx : WX} {pins : List (Addr × Obj)} {σ : L2.St} {H : Hp} {s : Shared} {e : Em} {μ : Mu}
theorem FldsAt.fun_ {T : Tb} {ks : List Nat} {gs : List (Str × V)} {vs us : List V} (f : FldsAt T ks gs vs) (g : FldsAt T ks gs us) : vs = us := by
  apply List.ext_getElem?
  intro j
  by_cases hj : j < ks.length
  · obtain ⟨v, a, b⟩ := f.at_ j ks[j] (by simp [hj])
    obtain ⟨u, a', b'⟩ := g.at_ j ks[j] (by simp [hj])
    rw [a, a', ← b, ← b']
  · rw [List.getElem?_eq_none (by rw [f.len]; omega), List.getElem?_eq_none (by rw [g.len]; omega)]
theorem store_sqx (I : Inv X pins σ H s) (h : Hyp W X n C Wx) (st : St0 W e μ H) {o : Nat} {a : Addr} {vs : List V} (g : e.r o = some a) (q : SqX W.K e.G a vs) : False := by
  rcases q with (q | ⟨_, q⟩) | ⟨its, m, h1, _⟩
  · rw [st.free o a g] at q; cases q
  · rw [st.free o a g] at q; cases q
  · rw [← h.K] at h1
    have z := (I.bs a _ (I.mod.kin _ _ h1)).2
    obtain ⟨u, hu⟩ := st.rH g
    rw [z] at hu; cases hu
theorem store_sqt (I : Inv X pins σ H s) (h : Hyp W X n C Wx) (st : St0 W e μ H) {o : Nat} {a : Addr} {vs : List V} (g : e.r o = some a) (q : SqT W.K e.G a vs) : False := by
  rcases q with (q | ⟨_, q⟩) | ⟨ob, its, m, h1, _⟩
  · rw [st.free o a g] at q; cases q
  · rw [st.free o a g] at q; cases q
  · rw [← h.K] at h1
    have z := (I.bs a _ (I.mod.kin _ _ h1)).2
    obtain ⟨u, hu⟩ := st.rH g
    rw [z] at hu; cases hu
mutual
theorem Rep.inj (h : Hyp W X n C Wx) (I : Inv X pins σ H s) (st : St0 W e μ H) : ∀ (x y : D) (v : V), Rep W e x v → Rep W e y v → x = y
  | .non, y, v, hx, hy => by
    have hx : v = .non := hx
    subst hx
    cases y with
    | non => rfl
    | bl b => cases (show V.non = .bl b from hy)
    | int b => cases (show V.non = .int b from hy)
    | str b => cases (show V.non = .str b from hy)
    | tup b => obtain ⟨a, vs, z, _⟩ := hy; cases z
    | lst b => obtain ⟨a, vs, z, _⟩ := hy; cases z
    | ins c b => obtain ⟨a, dx, gs, vs, i, z, _⟩ := hy; cases z
    | obj o => obtain ⟨a, z, _⟩ := hy; cases z
    | bor _ _ => exact hy.elim
  | .bl k, y, v, hx, hy => by
    have hx : v = .bl k := hx
    subst hx
    cases y with
    | non => cases (show V.bl k = .non from hy)
    | bl b => cases (show V.bl k = .bl b from hy); rfl
    | int b => cases (show V.bl k = .int b from hy)
    | str b => cases (show V.bl k = .str b from hy)
    | tup b => obtain ⟨a, vs, z, _⟩ := hy; cases z
    | lst b => obtain ⟨a, vs, z, _⟩ := hy; cases z
    | ins c b => obtain ⟨a, dx, gs, vs, i, z, _⟩ := hy; cases z
    | obj o => obtain ⟨a, z, _⟩ := hy; cases z
    | bor _ _ => exact hy.elim
  | .int k, y, v, hx, hy => by
    have hx : v = .int k := hx
    subst hx
    cases y with
    | non => cases (show V.int k = .non from hy)
    | bl b => cases (show V.int k = .bl b from hy)
    | int b => cases (show V.int k = .int b from hy); rfl
    | str b => cases (show V.int k = .str b from hy)
    | tup b => obtain ⟨a, vs, z, _⟩ := hy; cases z
    | lst b => obtain ⟨a, vs, z, _⟩ := hy; cases z
    | ins c b => obtain ⟨a, dx, gs, vs, i, z, _⟩ := hy; cases z
    | obj o => obtain ⟨a, z, _⟩ := hy; cases z
    | bor _ _ => exact hy.elim
  | .str k, y, v, hx, hy => by
    have hx : v = .str k := hx
    subst hx
    cases y with
    | non => cases (show V.str k = .non from hy)
    | bl b => cases (show V.str k = .bl b from hy)
    | int b => cases (show V.str k = .int b from hy)
    | str b => cases (show V.str k = .str b from hy); rfl
    | tup b => obtain ⟨a, vs, z, _⟩ := hy; cases z
    | lst b => obtain ⟨a, vs, z, _⟩ := hy; cases z
    | ins c b => obtain ⟨a, dx, gs, vs, i, z, _⟩ := hy; cases z
    | obj o => obtain ⟨a, z, _⟩ := hy; cases z
    | bor _ _ => exact hy.elim
  | .tup xs, y, v, hx, hy => by
    obtain ⟨a, vs, rfl, h1, h2⟩ := hx
    have t1 : SqT X.K H a vs := by rw [h.K]; exact sqT_sub h1 st.sub
    cases y with
    | non => cases (show V.ref a = .non from hy)
    | bl b => cases (show V.ref a = .bl b from hy)
    | int b => cases (show V.ref a = .int b from hy)
    | str b => cases (show V.ref a = .str b from hy)
    | tup b =>
      obtain ⟨a', us, z, g1, g2⟩ := hy
      cases z
      have t2 : SqT X.K H a us := by rw [h.K]; exact sqT_sub g1 st.sub
      have e1 := I.tuple_inj t1 t2
      subst e1
      rw [RepL.inj h I st xs b vs h2 g2]
    | lst b =>
      obtain ⟨a', us, z, g1, g2⟩ := hy
      cases z
      obtain ⟨its, m, q, _⟩ := sq_exact h I st g1
      obtain ⟨_, _, ⟨o, q', hc, _⟩, _⟩ := I.tuple t1
      rw [q] at q'; cases q'
      exact absurd hc (by simp)
    | ins c b =>
      obtain ⟨a', dx, gs, us, i, z, g1, _⟩ := hy
      cases z
      obtain ⟨_, _, _, q, _⟩ := I.hok a _ (st.sub _ _ g1)
      obtain ⟨_, _, ⟨o, q', hc, _⟩, _⟩ := I.tuple t1
      rw [q] at q'; cases q'
      exact absurd hc (by simp [PySem.W.instObj])
    | obj o =>
      obtain ⟨a', z, g1⟩ := hy
      cases z
      exact (store_sqt I h st g1 h1).elim
    | bor _ _ => exact hy.elim
  | .lst xs, y, v, hx, hy => by
    obtain ⟨a, vs, rfl, h1, h2⟩ := hx
    obtain ⟨its, m, q1, r1, _⟩ := sq_exact h I st h1
    have t1 : SqL X.K H a vs := by rw [h.K]; exact h1.sq st.sub
    cases y with
    | non => cases (show V.ref a = .non from hy)
    | bl b => cases (show V.ref a = .bl b from hy)
    | int b => cases (show V.ref a = .int b from hy)
    | str b => cases (show V.ref a = .str b from hy)
    | tup b =>
      obtain ⟨a', us, z, g1, g2⟩ := hy
      cases z
      have t2 : SqT X.K H a us := by rw [h.K]; exact sqT_sub g1 st.sub
      obtain ⟨_, _, ⟨o, q', hc, _⟩, _⟩ := I.tuple t2
      rw [q1] at q'; cases q'
      exact absurd hc (by simp)
    | lst b =>
      obtain ⟨a', us, z, g1, g2⟩ := hy
      cases z
      have t2 : SqL X.K H a us := by rw [h.K]; exact g1.sq st.sub
      have e1 := I.list_inj t1 t2
      subst e1
      rw [RepL.inj h I st xs b vs h2 g2]
    | ins c b =>
      obtain ⟨a', dx, gs, us, i, z, g1, _⟩ := hy
      cases z
      obtain ⟨_, _, _, q, _⟩ := I.hok a _ (st.sub _ _ g1)
      rw [q1] at q; simp [PySem.W.instObj] at q
    | obj o =>
      obtain ⟨a', z, g1⟩ := hy
      cases z
      exact (store_sqx I h st g1 h1).elim
    | bor _ _ => exact hy.elim
  | .ins c fs, y, v, hx, hy => by
    obtain ⟨a, dx, gs, vs, i, rfl, h1, h2, h3, h4, h5⟩ := hx
    cases y with
    | non => cases (show V.ref a = .non from hy)
    | bl b => cases (show V.ref a = .bl b from hy)
    | int b => cases (show V.ref a = .int b from hy)
    | str b => cases (show V.ref a = .str b from hy)
    | tup b =>
      obtain ⟨a', us, z, g1, g2⟩ := hy
      cases z
      have t2 : SqT X.K H a us := by rw [h.K]; exact sqT_sub g1 st.sub
      obtain ⟨_, _, ⟨o, q', hc, _⟩, _⟩ := I.tuple t2
      obtain ⟨_, _, _, q, _⟩ := I.hok a _ (st.sub _ _ h1)
      rw [q] at q'; cases q'
      exact absurd hc (by simp [PySem.W.instObj])
    | lst b =>
      obtain ⟨a', us, z, g1, g2⟩ := hy
      cases z
      obtain ⟨its, m, q1, r1, _⟩ := sq_exact h I st g1
      obtain ⟨_, _, _, q, _⟩ := I.hok a _ (st.sub _ _ h1)
      rw [q1] at q; simp [PySem.W.instObj] at q
    | ins c' b =>
      obtain ⟨a', dx', gs', us, i', z, g1, g2, g3, g4, g5⟩ := hy
      cases z
      rw [h1] at g1
      injection g1 with g1
      injection g1 with k1 k2 k3
      have ec := h.txt.inj c c' i i' h2 g2 k1
      subst ec k3
      rw [h2] at g2; cases g2
      have ev := h4.fun_ g4
      subst ev
      rw [RepL.inj h I st fs b vs h5 g5]
    | obj o =>
      obtain ⟨a', z, g1⟩ := hy
      cases z
      rw [st.free o a g1] at h1; cases h1
    | bor _ _ => exact hy.elim
  | .obj o, y, v, hx, hy => by
    obtain ⟨a, rfl, g1⟩ := hx
    cases y with
    | non => cases (show V.ref a = .non from hy)
    | bl b => cases (show V.ref a = .bl b from hy)
    | int b => cases (show V.ref a = .int b from hy)
    | str b => cases (show V.ref a = .str b from hy)
    | tup b =>
      obtain ⟨a', us, z, h1, _⟩ := hy
      cases z
      exact (store_sqt I h st g1 h1).elim
    | lst b =>
      obtain ⟨a', us, z, h1, _⟩ := hy
      cases z
      exact (store_sqx I h st g1 h1).elim
    | ins c' b =>
      obtain ⟨a', dx', gs', us, i', z, h1, _⟩ := hy
      cases z
      rw [st.free o a g1] at h1; cases h1
    | obj o' =>
      obtain ⟨a', z, g2⟩ := hy
      cases z
      rw [st.inj o o' a g1 g2]
    | bor _ _ => exact hy.elim
  | .bor _ _, _, _, hx, _ => hx.elim
theorem RepL.inj (h : Hyp W X n C Wx) (I : Inv X pins σ H s) (st : St0 W e μ H) : ∀ (xs ys : List D) (vs : List V), RepL W e xs vs → RepL W e ys vs → xs = ys
  | [], ys, vs, hx, hy => by
    have hx : vs = [] := hx
    subst hx
    cases ys with
    | nil => rfl
    | cons y ys => obtain ⟨v, r, z, _⟩ := hy; cases z
  | x :: xs, ys, vs, hx, hy => by
    obtain ⟨v, r, rfl, h1, h2⟩ := hx
    cases ys with
    | nil => cases (show v :: r = [] from hy)
    | cons y ys =>
      obtain ⟨v', r', z, g1, g2⟩ := hy
      cases z
      rw [Rep.inj h I st x y v h1 g1, RepL.inj h I st xs ys r h2 g2]
end
end
end Ev

set_option maxRecDepth 100000
set_option maxHeartbeats 2000000
namespace EvE
open PySem PySem.Spec PyProof.Rows PySem.W Ev
section
variable {prog : Program} {w : World} {A : Around} {E : Value → Shared → Prop} {s : Shared} {K : Frag}
def nmN (ne : Bool) : Str := if ne then "__ne__" else "__eq__"
abbrev Then2 (prog : Program) (w : World) (A : Around) (E : Value → Shared → Prop) (ne : Bool) (a b : Value) (Q : Value → Shared → Prop) : Option Value → Shared → Prop := fun r s1 => match r with
  | some v => Q v s1
  | none => wpAny (model prog w) A (tryCompare b (nmN ne) a) (fun r s2 => match r with
    | some v => Q v s2
    | none => wpAny (model prog w) A (isSame a b) (fun k s3 => Q (.bool (k != ne)) s3) E s2) E s1
theorem rc_any {ne : Bool} {a b ta tb : Value} {Q : Value → Shared → Prop} (h1 : oneThing? (Ev4.opN ne) a b = none) (hu : A.units < cLine) (ha : Looks (model prog w) s.heap (typeOf a) ta) (hb : Looks (model prog w) s.heap (typeOf b) tb)
    (hs : (ta != tb) = true → Looks (model prog w) s.heap (isSubtype tb ta) false) (h : wpAny (model prog w) A (tryCompare a (nmN ne) b) (Then2 prog w A E ne a b Q) E s) : wpAny (model prog w) A (richCompare (Ev4.opN ne) a b) Q E s := by
  cases ne
  all_goals
    unfold richCompare
    simp only [Ev4.opN, Bool.false_eq_true, if_false, if_true] at h1 ⊢
    rw [h1]
    refine wpAny_holding (wpAny_bind (wpAny_cRoomFor hu ?_))
    refine wpAny_bind (ha.here (wpAny_bind (hb.here ?_)))
    split
    · rename_i q
      refine wpAny_bind ((hs q).here ?_)
      simp only [Bool.false_eq_true, if_false, Bool.not_false, if_true]
      refine wpAny_bind (wpAny_mono h (fun r s1 q => ?_) fun _ _ z => z)
      cases r with
      | some v => exact wpAny_pure q
      | none =>
        refine wpAny_bind (wpAny_mono q (fun r s2 q => ?_) fun _ _ z => z)
        cases r with
        | some v => exact wpAny_pure q
        | none => exact wpAny_bind (wpAny_rule (wpAny_bind (wpAny_mono q (fun k s3 q => wpAny_pure (by cases k <;> exact q)) fun _ _ z => z)))
    · refine wpAny_bind (wpAny_pure ?_)
      simp only [Bool.false_eq_true, if_false, Bool.not_false, if_true]
      refine wpAny_bind (wpAny_mono h (fun r s1 q => ?_) fun _ _ z => z)
      cases r with
      | some v => exact wpAny_pure q
      | none =>
        refine wpAny_bind (wpAny_mono q (fun r s2 q => ?_) fun _ _ z => z)
        cases r with
        | some v => exact wpAny_pure q
        | none => exact wpAny_bind (wpAny_rule (wpAny_bind (wpAny_mono q (fun k s3 q => wpAny_pure (by cases k <;> exact q)) fun _ _ z => z)))
variable {ne : Bool} {b : Value} {Q : Option Value → Shared → Prop}
theorem gives_none (hb : (b == Value.none) = false) : Gives ((if ne then Builtin.«NoneType.__ne__» else Builtin.«NoneType.__eq__») ⟨[.none, b], []⟩) (.val (Value.notImplemented)) :=
  .of_wp fun M A E s Q h => by
    obtain ⟨hp, g, d, tk, os⟩ := s
    have e : (([b] : List Value).headD .none == Value.none) = false := hb
    cases ne
    all_goals
      simp only [Bool.false_eq_true, if_false, if_true]
      wp_walk
      simp only [hb, e, Bool.false_eq_true, if_false]
      exact ⟨_, rfl, h⟩
theorem dec_none (hb : (b == Value.none) = false) (h : Q none s) : wpAny (model prog w) A (tryCompare .none (nmN ne) b) Q E s := by
  have g := gives_none (ne := ne) hb
  cases ne
  · exact wpAny_tryCompare_declines (T := "NoneType") rfl F.slot_NoneType_eq (call_gives F.slot_NoneType_eq rfl F.entry_NoneType_eq (F.args_NoneType_eq_2 _ _) g ⟨rfl, h⟩)
  · exact wpAny_tryCompare_declines (T := "NoneType") rfl F.slot_NoneType_ne (call_gives F.slot_NoneType_ne rfl F.entry_NoneType_ne (F.args_NoneType_ne_2 _ _) g ⟨rfl, h⟩)
theorem dec_tup {a : Addr} (ha : s.TypeIs (.ref a) "tuple") (hb : Looks (model prog w) s.heap (isInstance b (.type "tuple")) false) (h : Q none s) : wpAny (model prog w) A (tryCompare (.ref a) (nmN ne) b) Q E s := by
  have g : wpAny (model prog w) A.in1 ((if ne then Builtin.«tuple.__ne__» else Builtin.«tuple.__eq__») ⟨[.ref a, b], []⟩) (Ev4.FinOf prog w A (wants (fun v s' => v = .notImplemented ∧ Q none s') E)) (fun e s' => wants (fun v s' => v = .notImplemented ∧ Q none s') E (.error e) s') s := by
    cases ne
    all_goals
      obtain ⟨hp, g, d, tk, os⟩ := s
      simp only [Bool.false_eq_true, if_false, if_true]
      wp_walk using hb.here
      exact ⟨rfl, h⟩
  cases ne
  · exact wpAny_tryCompare_declines ha F.slot_tuple_eq (Ev4.call_here F.slot_tuple_eq ha F.entry_tuple_eq (F.args_tuple_eq_2 _ _) g)
  · exact wpAny_tryCompare_declines ha F.slot_tuple_ne (Ev4.call_here F.slot_tuple_ne ha F.entry_tuple_ne (F.args_tuple_ne_2 _ _) g)
theorem dec_lst {a : Addr} (ha : s.TypeIs (.ref a) "list") (hb : Looks (model prog w) s.heap (isInstance b (.type "list")) false) (h : Q none s) : wpAny (model prog w) A (tryCompare (.ref a) (nmN ne) b) Q E s := by
  have g : wpAny (model prog w) A.in1 ((if ne then Builtin.«list.__ne__» else Builtin.«list.__eq__») ⟨[.ref a, b], []⟩) (Ev4.FinOf prog w A (wants (fun v s' => v = .notImplemented ∧ Q none s') E)) (fun e s' => wants (fun v s' => v = .notImplemented ∧ Q none s') E (.error e) s') s := by
    cases ne
    all_goals
      obtain ⟨hp, g, d, tk, os⟩ := s
      simp only [Bool.false_eq_true, if_false, if_true]
      wp_walk using hb.here
      exact ⟨rfl, h⟩
  cases ne
  · exact wpAny_tryCompare_declines ha F.slot_list_eq (Ev4.call_here F.slot_list_eq ha F.entry_list_eq (F.args_list_eq_2 _ _) g)
  · exact wpAny_tryCompare_declines ha F.slot_list_ne (Ev4.call_here F.slot_list_ne ha F.entry_list_ne (F.args_list_ne_2 _ _) g)
end
section
variable {prog : Program} {w : World} {A : Around} {E : Value → Shared → Prop} {s : Shared} {K : Frag} {x C L f : Addr} {h₀ : Heap} {m : Str → Option Value} {ox : Obj} {od : Option Obj} {b tb : Value} {ne : Bool} {Q : Option Value → Shared → Prop}
theorem eq_bind (self : Value) : bindSpecial (.builtin "object.__eq__") self = pure (.builtin "object.__eq__", [self]) :=
  (Slot.of (T := "object") (name := "__eq__") (owner := "object") (n := "__eq__") (by rw [typeLookup_type, builtinLookup_eq_fast]; kernel_rfl) (by decide +kernel) (by decide +kernel) (by decide +kernel)
    (.inl (by decide +kernel)) (by rw [isSubtype_type]; kernel_rfl)).bind self
theorem eq_plain : plainId "object.__eq__" = true := by decide +kernel
theorem bound_blt {id : String} {name : Str} {Q : Option Value → Shared → Prop} (X : K.In s.heap) (I : InstAt s.heap x ox C od) (hs : findIn K (.ref C) name = some (some (.builtin id))) (hb : bindSpecial (.builtin id) (.ref x) = pure (.builtin id, [.ref x]))
    (h : wpAny (model prog w) A (call (.builtin id) [.ref x, b]) (fun v s' => Q (some v) s') E s) : wpAny (model prog w) A (callSpecialIfBound? (.ref x) name [b]) Q E s := by
  simp only [callSpecialIfBound?, bindSpecialIfBound?]
  refine wpAny_holding (wpAny_bind (wpAny_bind (wpAny_bind (I.type.here ((looks_findIn X hs).here ?_)))))
  refine wpAny_bind (wpAny_askSetting (wpAny_ite ?_))
  have fin : wpAny (model prog w) A (call (.builtin id) ([.ref x] ++ [b]) >>= fun v => pure (some v)) Q E s := wpAny_bind (wpAny_mono h (fun v s' h' => wpAny_pure h') fun _ _ h' => h')
  split
  · exact wpAny_bind ((Looks.of_pure hb).here (wpAny_pure (by exact fin)))
  · exact wpAny_tryCatch (wpAny_bind ((Looks.of_pure hb).here (wpAny_pure (by exact fin))))
theorem obj_eq (X : K.In s.heap) (I : InstAt s.heap x ox C od) (ht : subIn K (.ref C) (.type "object") = some true) (hsame : Looks (model prog w) s.heap (isSame (.ref x) b) false) {Q : Value → Shared → Prop} (h : Q .notImplemented s) :
    wpAny (model prog w) A (call (.builtin "object.__eq__") [.ref x, b]) Q E s := by
  have t2 : Looks (model prog w) s.heap (isInstance (.ref x) (.type "object")) true := I.type.andThen (looks_subIn X ht)
  refine wpAny_call (codeAny_call_builtin eq_plain F.cmpEntry_eq (@check_slot (model prog w) _ _ _ "object.__eq__" "object" "__eq__" (.ref x) [b] [] _ F.cmpKind_eq F.cmpSplit_eq t2 (F.cmpArgs_eq _ _) ?_))
  unfold Builtin.«object.__eq__»
  obtain ⟨hp, g, d, tk, os⟩ := s
  wp_walk using hsame.here
  exact h
theorem dec_obj (hu : A.units + 1 < cLine) (X : K.In s.heap) (I : InstAt s.heap x ox C od) (he : findIn K (.ref C) "__eq__" = some (some (.builtin "object.__eq__"))) (hn : findIn K (.ref C) "__ne__" = some (some (.builtin "object.__ne__"))) (ht : subIn K (.ref C) (.type "object") = some true)
    (hsame : Looks (model prog w) s.heap (isSame (.ref x) b) false) (h : Q none s) : wpAny (model prog w) A (tryCompare (.ref x) (nmN ne) b) Q E s := by
  have t2 : Looks (model prog w) s.heap (isInstance (.ref x) (.type "object")) true := I.type.andThen (looks_subIn X ht)
  cases ne with
  | false =>
    unfold tryCompare
    exact wpAny_bind (bound_blt X I he (eq_bind _) (obj_eq X I ht hsame (wpAny_pure h)))
  | true =>
    unfold tryCompare
    refine wpAny_bind (bound_blt X I hn (one_bind _) ?_)
    refine wpAny_call (codeAny_call_builtin one_plain F.cmpEntry_ne (@check_slot (model prog w) _ _ _ "object.__ne__" "object" "__ne__" (.ref x) [b] [] _ F.cmpKind_ne F.cmpSplit_ne t2 (F.cmpArgs_ne _ _) ?_))
    unfold Builtin.«object.__ne__»
    have k := bound_blt (A := A.in1) (E := E) (Q := fun r s' => r = some .notImplemented ∧ s' = s) X I he (eq_bind _) (obj_eq X I ht hsame ⟨rfl, rfl⟩)
    obtain ⟨hp, g, d, tk, os⟩ := s
    repeat (first
      | with_reducible refine wpAny_cRoomFor (A := A.in1) hu ?_
      | (refine wpAny_bind (m := callSpecialIfBound? (.ref x) (Str.ofString "__eq__") [b]) (wpAny_mono k (fun r s' hr => by
            obtain ⟨rfl, rfl⟩ := hr
            exact wpAny_pure (wpAny_pure h)) fun _ _ e => e))
      | wp_step)
theorem obj_same (X : K.In s.heap) (I : InstAt s.heap x ox C od) (ht : subIn K (.ref C) (.type "object") = some true) {Q : Value → Shared → Prop} (h : Q (.bool true) s) :
    wpAny (model prog w) A (call (.builtin "object.__eq__") [.ref x, .ref x]) Q E s := by
  have t2 : Looks (model prog w) s.heap (isInstance (.ref x) (.type "object")) true := I.type.andThen (looks_subIn X ht)
  refine wpAny_call (codeAny_call_builtin eq_plain F.cmpEntry_eq (@check_slot (model prog w) _ _ _ "object.__eq__" "object" "__eq__" (.ref x) [.ref x] [] _ F.cmpKind_eq F.cmpSplit_eq t2 (F.cmpArgs_eq _ _) ?_))
  unfold Builtin.«object.__eq__»
  obtain ⟨hp, g, d, tk, os⟩ := s
  wp_walk using wpAny_isSame_ref_self
  exact h
theorem same_obj {Q : Value → Shared → Prop} (hu : A.units + 1 < cLine) (X : K.In s.heap) (I : InstAt s.heap x ox C od) (he : findIn K (.ref C) "__eq__" = some (some (.builtin "object.__eq__"))) (hn : findIn K (.ref C) "__ne__" = some (some (.builtin "object.__ne__"))) (ht : subIn K (.ref C) (.type "object") = some true)
    (h : Q (.bool (true != ne)) s) : wpAny (model prog w) A (tryCompare (.ref x) (nmN ne) (.ref x)) (Then2 prog w A E ne (.ref x) (.ref x) Q) E s := by
  have t2 : Looks (model prog w) s.heap (isInstance (.ref x) (.type "object")) true := I.type.andThen (looks_subIn X ht)
  cases ne with
  | false =>
    unfold tryCompare
    exact wpAny_bind (bound_blt X I he (eq_bind _) (obj_same X I ht (wpAny_pure h)))
  | true =>
    unfold tryCompare
    refine wpAny_bind (bound_blt X I hn (one_bind _) ?_)
    refine wpAny_call (codeAny_call_builtin one_plain F.cmpEntry_ne (@check_slot (model prog w) _ _ _ "object.__ne__" "object" "__ne__" (.ref x) [.ref x] [] _ F.cmpKind_ne F.cmpSplit_ne t2 (F.cmpArgs_ne _ _) ?_))
    unfold Builtin.«object.__ne__»
    have k := bound_blt (prog := prog) (w := w) (A := A.in1) (E := E) (b := .ref x) (Q := fun r s' => r = some (.bool true) ∧ s' = s) X I he (eq_bind _) (obj_same X I ht ⟨rfl, rfl⟩)
    obtain ⟨hp, g, d, tk, os⟩ := s
    repeat (first
      | with_reducible refine wpAny_cRoomFor (A := A.in1) hu ?_
      | (refine wpAny_bind (m := callSpecialIfBound? (.ref x) (Str.ofString "__eq__") [.ref x]) (wpAny_mono k (fun r s' hr => by
            obtain ⟨rfl, rfl⟩ := hr
            repeat (first | exact h | exact wpAny_pure h | (refine wpAny_bind (m := truthy (.bool _)) (wpAny_truthy_bool ?_)) | wp_step)) fun _ _ e => e))
      | wp_step)
theorem try_own (hu : A.units + 1 < cLine) (X : K.In s.heap) (I : InstAt s.heap x ox C od) (he : findIn K (.ref C) "__eq__" = some (some (.ref f))) (hn : findIn K (.ref C) "__ne__" = some (some (.builtin "object.__ne__"))) (hf : isFn K (.ref f) = true) (ht : subIn K (.ref C) (.type "object") = some true)
    (h : ∀ {A' : Around}, A' = A ∨ A' = A.in1 → wpAny (model prog w) A' (call (.ref f) [.ref x, b]) (fun v s' => ∃ r, v = .bool r ∧ Q (some (.bool (r != ne))) s') E s) : wpAny (model prog w) A (tryCompare (.ref x) (nmN ne) b) Q E s := by
  have t2 : Looks (model prog w) s.heap (isInstance (.ref x) (.type "object")) true := I.type.andThen (looks_subIn X ht)
  cases ne with
  | false =>
    unfold tryCompare
    refine wpAny_bind (ifBound_K X I he hf (wpAny_mono (h (.inl rfl)) (fun v s' hv => ?_) fun _ _ e => e))
    obtain ⟨r, rfl, q⟩ := hv
    exact wpAny_pure (by simpa using q)
  | true =>
    unfold tryCompare
    refine wpAny_bind (bound_blt X I hn (one_bind _) ?_)
    refine wpAny_call (codeAny_call_builtin one_plain F.cmpEntry_ne (@check_slot (model prog w) _ _ _ "object.__ne__" "object" "__ne__" (.ref x) [b] [] _ F.cmpKind_ne F.cmpSplit_ne t2 (F.cmpArgs_ne _ _) ?_))
    unfold Builtin.«object.__ne__»
    have h' := h (A' := A.in1) (.inr rfl)
    obtain ⟨hp, g, d, tk, os⟩ := s
    repeat (first
      | with_reducible refine wpAny_cRoomFor (A := A.in1) hu ?_
      | (refine wpAny_bind (m := callSpecialIfBound? (.ref x) (Str.ofString "__eq__") [b])
          (ifBound_K X I he hf (wpAny_mono h' (fun r s' hr => by
            obtain ⟨b, rfl, hq'⟩ := hr
            have hq' : Q (some (.bool (!b))) s' := by simpa using hq'
            repeat (first | exact hq' | exact wpAny_pure hq' | (refine wpAny_bind (m := truthy (.bool _)) (wpAny_truthy_bool ?_)) | wp_step)) fun _ _ e => e)))
      | wp_step)
end
end EvE

set_option maxRecDepth 100000
set_option maxHeartbeats 2000000
namespace Ev
open PySem PySem.Spec PyProof.Rows L2
structure SubU (X : Cx) (m j : Nat) (A : Around) : Prop where
  fr : A.frames = X.A.frames
  hd : A.handled = X.A.handled
  dp : A.depth + 3 * m + 5 < recursionLimit
  un : A.units + 16 * m + 200 + j < cLine
  gu : A.guards = X.A.guards
theorem SubU.in1 {X : Cx} {m j : Nat} {A : Around} (b : SubU X m (j + 1) A) : SubU X m j A.in1 := ⟨b.fr, b.hd, b.dp, by have := b.un; show A.units + 1 + 16 * m + 200 + j < cLine; omega, b.gu⟩
theorem SubU.mono {X : Cx} {m j k : Nat} {A : Around} (b : SubU X m j A) (h : k ≤ j) : SubU X m k A := ⟨b.fr, b.hd, b.dp, by have := b.un; omega, b.gu⟩
theorem SubU.room {X : Cx} {m j : Nat} {A : Around} (b : SubU X m j A) : L2H.RoomH m A := ⟨b.dp, by have := b.un; omega⟩
theorem SubU.hu {X : Cx} {m j : Nat} {A : Around} (b : SubU X m j A) : A.units + 1 < cLine := by have := b.un; omega
theorem SubU.hu0 {X : Cx} {m j : Nat} {A : Around} (b : SubU X m j A) : A.units < cLine := by have := b.un; omega
def Back (X : Cx) (pins : List (Addr × Obj)) (σ : L2.St) (W : Wd) (e : Em) (H : Hp) (μ : Mu) (s' : Shared) : Prop := ∃ e' H', Inv X pins σ H' s' ∧ Ex e H e' H' ∧ St0 W e' μ H'
theorem Back.trans {X : Cx} {pins : List (Addr × Obj)} {σ : L2.St} {W : Wd} {e e1 : Em} {H H1 : Hp} {μ : Mu} {s' : Shared} (x : Ex e H e1 H1) (b : Back X pins σ W e1 H1 μ s') : Back X pins σ W e H μ s' :=
  let ⟨e', H', a, y, c⟩ := b; ⟨e', H', a, x.trans y, c⟩
def rawD : D → Bool
  | .tup _ => true
  | .lst _ => true
  | .ins _ _ => true
  | _ => false
section
variable {W : Wd} {X : Cx} {n : Nat} {C : Cl} {Wx : WX} {pins : List (Addr × Obj)} {σ : L2.St} {H : Hp} {s : Shared} {e : Em} {μ : Mu}
theorem flat_V {x : D} {v : V} (f : flat x = true) (r : Rep W e x v) : flatV v = true := by
  cases x with
  | non => cases (show v = .non from r); rfl
  | bl b => cases (show v = .bl b from r); rfl
  | int b => cases (show v = .int b from r); rfl
  | str b => cases (show v = .str b from r); rfl
  | _ => cases f
theorem flat_eqV {x y : D} {v w : V} (f : flat x = true) (g : flat y = true) (m : mix x y = false) (r : Rep W e x v) (q : Rep W e y w) : eqV v w = true ↔ x = y := by
  cases x with
  | non =>
    cases (show v = .non from r)
    cases y with
    | non => cases (show w = .non from q); simp [eqV]
    | bl b => cases (show w = .bl b from q); simp [eqV]
    | int b => cases (show w = .int b from q); simp [eqV]
    | str b => cases (show w = .str b from q); simp [eqV]
    | _ => cases g
  | bl a =>
    cases (show v = .bl a from r)
    cases y with
    | non => cases (show w = .non from q); simp [eqV]
    | bl b => cases (show w = .bl b from q); simp [eqV]
    | int b => cases m
    | str b => cases (show w = .str b from q); simp [eqV]
    | _ => cases g
  | int a =>
    cases (show v = .int a from r)
    cases y with
    | non => cases (show w = .non from q); simp [eqV]
    | bl b => cases m
    | int b => cases (show w = .int b from q); simp [eqV]
    | str b => cases (show w = .str b from q); simp [eqV]
    | _ => cases g
  | str a =>
    cases (show v = .str a from r)
    cases y with
    | non => cases (show w = .non from q); simp [eqV]
    | bl b => cases (show w = .bl b from q); simp [eqV]
    | int b => cases (show w = .int b from q); simp [eqV]
    | str b => cases (show w = .str b from q); simp [eqV]
    | _ => cases g
  | _ => cases f
theorem item_turn {m j k : Nat} {xs ys : List D} (I0 : Ex e H e H)
    (ih : ∀ (A : Around) (s : Shared) (H : Hp) (e : Em) (x y : D) (v w : V) (u t : Value), SubU X m j A → Inv X pins σ H s → St0 W e μ H → Rep W e x v → Rep W e y w → RelV v u → RelV w t → eqOk C μ k x y →
      wpAny (model X.prog X.w) A (eqBool u t) (fun r s' => (r = true ↔ x = y) ∧ Back X pins σ W e H μ s') X.xe s)
    (ok : ∀ (i : Nat) (a b : D), xs[i]? = some a → ys[i]? = some b → eqOk C μ k a b) {A : Around} (sb : SubU X m j A) {e1 : Em} {H1 : Hp} {s1 : Shared} (I : Inv X pins σ H1 s1) (x1 : Ex e H e1 H1) (st : St0 W e1 μ H1)
    {vs ws : List V} (rx : RepL W e xs vs) (ry : RepL W e ys ws) {its its2 : List Value} (v1 : Vals vs its) (v2 : Vals ws its2) {i : Nat} {u t : Value} (h1 : its[i]? = some u) (h2 : its2[i]? = some t) :
    wpAny (model X.prog X.w) A (eqBool u t) (fun r s' => (r = true ↔ xs[i]? = ys[i]?) ∧ Back X pins σ W e H μ s') X.xe s1 := by
  have k1 : i < vs.length := by rw [v1.length]; exact (List.getElem?_eq_some_iff.mp h1).1
  have k2 : i < ws.length := by rw [v2.length]; exact (List.getElem?_eq_some_iff.mp h2).1
  obtain ⟨u', hu, ru⟩ := v1.get (List.getElem?_eq_getElem k1)
  obtain ⟨t', ht, rt⟩ := v2.get (List.getElem?_eq_getElem k2)
  rw [h1] at hu; cases hu
  rw [h2] at ht; cases ht
  obtain ⟨a, ha, ra⟩ := rx.getV (List.getElem?_eq_getElem k1)
  obtain ⟨b, hb, rb⟩ := ry.getV (List.getElem?_eq_getElem k2)
  refine wpAny_mono (ih A s1 H1 e1 a b _ _ u t sb I st (ra.ex x1) (rb.ex x1) ru rt (ok i a b ha hb)) (fun r s' q => ?_) fun _ _ z => z
  rw [ha, hb]
  exact ⟨by rw [q.1]; simp, q.2.trans x1⟩
theorem own_asks (h : Hyp W X n C Wx) {m : Nat} (hl : (∀ f ds μ, C.low f ds μ = .stuck) ∨ ∃ k, k + 34 ≤ m ∧ FnPs W k C.hot C.low) {A : Around} {j : Nat} (sb : SubU X m (j + 1) A) (I : Inv X pins σ H s) (st : St0 W e μ H) {c : Nat} {fs : List D} {y : D} {v w : V} {u t : Value} (hx : Rep W e (.ins c fs) v) (hy : Rep W e y w) (rv : RelV v u) (rw_ : RelV w t)
    {f : Nat} {r : Bool} (hm : mthd C.T c 6 = some f) (ho : C.low f [D.ins c fs, y] μ = .ok (.bl r) μ) (ne : Bool) : wpAny (model X.prog X.w) A (tryCompare u (EvE.nmN ne) t) (fun o s' => o = some (.bool (r != ne)) ∧ Back X pins σ W e H μ s') X.xe s := by
  rcases hl with hl | ⟨k0, hk0, hl⟩
  · rw [hl] at ho; cases ho
  rcases hl f [D.ins c fs, y] μ with hl | ⟨i2, hj, hok, fp⟩
  · rw [hl] at ho; cases ho
  obtain ⟨a, dx, fs', vs, i, rfl, h1, h2, h3, h4, h5⟩ := id hx
  have cf := h.txt.cls c i h2 h3
  have hm' : i.meths.lookup 6 = some f := by
    unfold mthd at hm
    rw [h.T, h2] at hm
    exact hm
  obtain ⟨j', hj', hM, hne⟩ := cf.meth 6 f hm'
  rw [hj] at hj'; cases hj'
  rw [h.txt.dun 6 "__eq__" rfl] at hM
  obtain ⟨mm, od, F, KX, J⟩ := inst_rule I (st.sub _ _ h1)
  have hM' : Meth X.K (W.ca c) "__eq__" (fadr W.K W.T i2.loc) := by rw [h.K]; exact hM
  cases rv
  refine EvE.try_own sb.hu (KX.keeps F.keep) J hM'.at_ (by rw [h.K]; exact cf.ne (by rw [hm']; simp)) hM'.fn (by rw [h.K]; exact cf.top) fun {A'} hA => ?_
  have sb' : SubU X m 0 A' := by
    rcases hA with rfl | rfl
    · exact sb.mono (Nat.zero_le _)
    · exact sb.in1.mono (Nat.zero_le _)
  refine wpAny_mono (run_fnW h (sb'.room.mono hk0) sb'.fr sb'.gu sb'.hd fp I (Paired.cons (show RelV (V.ref a) (Value.ref a) from rfl) (Paired.cons rw_ .nil)) st (.cons hx (.cons hy .nil)) (Q := fun z H' => z = .bl r ∧ ∃ e', Ex e H e' H' ∧ St0 W e' μ H') ?_) (fun z s' q => ?_) fun _ _ z => z
  · rw [ho]
    intro e' H' x' st' z hz
    exact ⟨hz, e', x', st'⟩
  · obtain ⟨v', H', I', r', e', e'', x', st'⟩ := q
    subst e'
    cases r'
    exact ⟨r, rfl, rfl, e'', H', I', x', st'⟩
theorem kind_at (h : Hyp W X n C Wx) (I : Inv X pins σ H s) (st : St0 W e μ H) {x : D} {v : V} {u : Value} {i : Nat} (hx : Rep W e x v) (rv : RelV v u) (hk : eqK C.T μ x = some i) :
    (i = 0 ∧ x = .non ∧ u = .none) ∨ (i = 1 ∧ (∃ xs, x = .tup xs) ∧ ∃ a, u = .ref a ∧ s.TypeIs (.ref a) "tuple") ∨ (i = 2 ∧ (∃ xs, x = .lst xs) ∧ ∃ a, u = .ref a ∧ s.TypeIs (.ref a) "list") ∨
    (i = 3 ∧ ∃ o a c ci ox od, x = .obj o ∧ u = .ref a ∧ W.T.cls[c]? = some ci ∧ ci.isexc = false ∧ ci.meths.lookup 6 = none ∧ PySem.W.InstAt s.heap a ox (W.ca c) od ∧ ox.cls = .ref (W.ca c) ∧ e.r o = some a ∧ ∃ fs, μ[o]? = some (.ins c fs)) := by
  cases x with
  | non => cases (show v = .non from hx); cases rv; cases hk; exact .inl ⟨rfl, rfl, rfl⟩
  | tup xs =>
    obtain ⟨a, vs, rfl, h1, h2⟩ := hx
    cases rv
    cases hk
    obtain ⟨_, _, ⟨o, q, hc, _⟩, _⟩ := I.tuple (show SqT X.K H a vs by rw [h.K]; exact sqT_sub h1 st.sub)
    exact .inr (.inl ⟨rfl, ⟨xs, rfl⟩, a, rfl, o, q, hc⟩)
  | lst xs =>
    obtain ⟨a, vs, rfl, h1, h2⟩ := hx
    cases rv
    cases hk
    obtain ⟨its, m, q, _⟩ := sq_exact h I st h1
    exact .inr (.inr (.inl ⟨rfl, ⟨xs, rfl⟩, a, rfl, _, q, rfl⟩))
  | obj o =>
    obtain ⟨a, rfl, h1⟩ := hx
    cases rv
    have hk : (match μ[o]? with
      | some (.ins c _) => if (mthd C.T c 6).isSome then none else some 3
      | _ => none) = some i := hk
    split at hk
    · rename_i c fs hc
      split at hk
      · cases hk
      · rename_i hn
        cases hk
        obtain ⟨b, hb, hr⟩ := st.cell o _ hc
        rw [h1] at hb; cases hb
        obtain ⟨dx, gs, ci, hH, hci, hex, _⟩ := hr
        obtain ⟨mm, od, F, KX, J⟩ := inst_rule I hH
        refine .inr (.inr (.inr ⟨rfl, o, a, c, ci, _, _, rfl, rfl, hci, hex, ?_, J, rfl, h1, fs, hc⟩))
        unfold mthd at hn
        rw [h.T, hci] at hn
        have hn : ¬ (ci.meths.lookup 6).isSome = true := hn
        cases z : ci.meths.lookup 6 with
        | none => rfl
        | some q => rw [z] at hn; exact absurd rfl hn
    · cases hk
  | _ => cases hk
theorem type_look {M : Model} {h : Heap} {a : Addr} {T : String} {s : Shared} (t : s.TypeIs (.ref a) T) (hs : s.heap = h) : PySem.W.Looks M h (typeOf (.ref a)) (.type T) := by
  subst hs
  intro A Q E s' k q
  obtain ⟨o, ho, hc⟩ := t
  exact wpAny_typeOf ⟨o, k _ _ ho, hc⟩ q
def TyD (W : Wd) (μ : Mu) : D → Value → Prop
  | .non, tb => tb = .type "NoneType"
  | .bl _, tb => tb = .type "bool"
  | .int _, tb => tb = .type "int"
  | .str _, tb => tb = .type "str"
  | .tup _, tb => tb = .type "tuple"
  | .lst _, tb => tb = .type "list"
  | .ins c _, tb => tb = .ref (W.ca c) ∧ ∃ i, W.T.cls[c]? = some i ∧ i.isexc = false
  | .obj o, tb => (∃ xs, μ[o]? = some (.lst xs)) ∧ tb = .type "list" ∨ ∃ c fs i, μ[o]? = some (.ins c fs) ∧ tb = .ref (W.ca c) ∧ W.T.cls[c]? = some i ∧ i.isexc = false
  | .bor _ _, _ => False
theorem typ_at (h : Hyp W X n C Wx) (I : Inv X pins σ H s) (st : St0 W e μ H) {x : D} {v : V} {u : Value} (hx : Rep W e x v) (rv : RelV v u) : ∃ tb, PySem.W.Looks (model X.prog X.w) s.heap (typeOf u) tb ∧ TyD W μ x tb := by
  cases x with
  | non => cases (show v = .non from hx); cases rv; exact ⟨_, .of_pure rfl, rfl⟩
  | bl b => cases (show v = .bl b from hx); cases rv; exact ⟨_, .of_pure rfl, rfl⟩
  | int b => cases (show v = .int b from hx); obtain ⟨t, rfl⟩ := rv; exact ⟨_, .of_pure rfl, rfl⟩
  | str b => cases (show v = .str b from hx); obtain ⟨t, rfl⟩ := rv; exact ⟨_, .of_pure rfl, rfl⟩
  | tup xs =>
    obtain ⟨a, vs, rfl, h1, h2⟩ := hx
    cases rv
    obtain ⟨_, _, ⟨o, q, hc, _⟩, _⟩ := I.tuple (show SqT X.K H a vs by rw [h.K]; exact sqT_sub h1 st.sub)
    exact ⟨_, type_look ⟨o, q, hc⟩ rfl, rfl⟩
  | lst xs =>
    obtain ⟨a, vs, rfl, h1, h2⟩ := hx
    cases rv
    obtain ⟨its, m, q, _⟩ := sq_exact h I st h1
    exact ⟨_, type_look ⟨_, q, rfl⟩ rfl, rfl⟩
  | ins c fs =>
    obtain ⟨a, dx, gs, vs, i, rfl, h1, h2, h3, _⟩ := hx
    cases rv
    obtain ⟨m, od, F, KX, J⟩ := inst_rule I (st.sub _ _ h1)
    exact ⟨_, J.type, rfl, i, h2, h3⟩
  | obj o =>
    obtain ⟨a, rfl, h1⟩ := hx
    cases rv
    obtain ⟨b, hb, hr⟩ := st.cell o (μ[o]'(st.rn h1)) (by rw [List.getElem?_eq_getElem (st.rn h1)])
    rw [h1] at hb; cases hb
    cases q : μ[o]'(st.rn h1) with
    | lst zs =>
      rw [q] at hr
      obtain ⟨us, k1, _⟩ := hr
      obtain ⟨_, its, _, m, q2⟩ := I.hok a _ k1
      exact ⟨_, type_look ⟨_, q2, rfl⟩ rfl, .inl ⟨⟨zs, by rw [List.getElem?_eq_getElem (st.rn h1), q]⟩, rfl⟩⟩
    | ins c zs =>
      rw [q] at hr
      obtain ⟨dx, gs, i, k1, k2, k3, _⟩ := hr
      obtain ⟨m, od, F, KX, J⟩ := inst_rule I k1
      exact ⟨_, J.type, .inr ⟨c, zs, i, by rw [List.getElem?_eq_getElem (st.rn h1), q], rfl, k2, k3⟩⟩
  | bor _ _ => exact hx.elim
theorem sub_tc (K : PySem.W.Frag) (a : Addr) : ∀ T ∈ FLATT, PySem.W.subIn K (.type T) (.ref a) = some false := by
  intro T h
  simp only [List.mem_cons, List.not_mem_nil, or_false] at h
  rcases h with rfl | rfl | rfl | rfl | rfl | rfl <;> kernel_rfl
theorem sub_tt (K : PySem.W.Frag) : ∀ T ∈ (["NoneType", "tuple", "list"] : List String), ∀ T' ∈ FLATT, T ≠ T' → PySem.W.subIn K (.type T') (.type T) = some false := by
  intro T h T' h' hn
  simp only [List.mem_cons, List.not_mem_nil, or_false] at h h'
  rcases h with rfl | rfl | rfl <;> rcases h' with rfl | rfl | rfl | rfl | rfl | rfl <;> first | exact absurd rfl hn | kernel_rfl
theorem ty_cases {x : D} {tb : Value} (t : TyD W μ x tb) : (∃ T ∈ FLATT, tb = .type T) ∨ ∃ c i, tb = .ref (W.ca c) ∧ W.T.cls[c]? = some i ∧ i.isexc = false := by
  cases x with
  | non => exact .inl ⟨_, by simp, t⟩
  | bl b => exact .inl ⟨_, by simp, t⟩
  | int b => exact .inl ⟨_, by simp, t⟩
  | str b => exact .inl ⟨_, by simp, t⟩
  | tup b => exact .inl ⟨_, by simp, t⟩
  | lst b => exact .inl ⟨_, by simp, t⟩
  | ins c b => obtain ⟨rfl, i, h1, h2⟩ := t; exact .inr ⟨c, i, rfl, h1, h2⟩
  | obj o =>
    rcases t with ⟨_, rfl⟩ | ⟨c, fs, i, _, rfl, h1, h2⟩
    · exact .inl ⟨_, by simp, rfl⟩
    · exact .inr ⟨c, i, rfl, h1, h2⟩
  | bor _ _ => exact t.elim
theorem sub_cc (h : Hyp W X n C Wx) {c c' : Nat} {i i' : ClI} (hi : W.T.cls[c]? = some i) (hx : i.isexc = false) (hi' : W.T.cls[c']? = some i') (hx' : i'.isexc = false) (hs : c' = c ∨ isSubc W.T c' c = false) (hne : (Value.ref (W.ca c) != Value.ref (W.ca c')) = true) :
    PySem.W.subIn W.K (.ref (W.ca c')) (.ref (W.ca c)) = some false := by
  rcases hs with rfl | hs
  · simp at hne
  · unfold isSubc at hs
    rw [hi'] at hs
    have hs2 : i'.mro.contains c = false := hs
    have z := (h.txt.cls c' i' hi' hx').subs c i hi hx
    rw [hs2] at z
    exact z
theorem sub_look (h : Hyp W X n C Wx) (I : Inv X pins σ H s) {ta tb : Value} (hs : PySem.W.subIn W.K tb ta = some false) : PySem.W.Looks (model X.prog X.w) s.heap (isSubtype tb ta) false := PySem.W.looks_subIn I.kIn (by rw [h.K]; exact hs)
theorem sub_ins (h : Hyp W X n C Wx) {c : Nat} {i : ClI} {y : D} {tb : Value} (hi : W.T.cls[c]? = some i) (hx : i.isexc = false) (t : TyD W μ y tb) (r : eqR W.T μ c y) (hne : (Value.ref (W.ca c) != tb) = true) : PySem.W.subIn W.K tb (.ref (W.ca c)) = some false := by
  rcases ty_cases t with ⟨T, hT, rfl⟩ | ⟨c', i', rfl, h1, h2⟩
  · exact sub_tc _ _ T hT
  · cases y with
    | ins c2 b =>
      obtain ⟨z, _⟩ := t
      have r : c2 = c := r
      subst r
      rw [z] at hne
      simp at hne
    | obj o =>
      obtain ⟨c2, fs, r1, r2⟩ := r
      rcases t with ⟨⟨xs, z⟩, _⟩ | ⟨c3, fs3, i3, z, z2, z3, z4⟩
      · rw [r1] at z; cases z
      · rw [r1] at z; cases z
        rw [z2] at hne ⊢
        exact sub_cc h hi hx z3 z4 (.inr r2) hne
    | non => cases t
    | bl _ => cases t
    | int _ => cases t
    | str _ => cases t
    | tup _ => cases t
    | lst _ => cases t
    | bor _ _ => exact t.elim
theorem sub_kind (h : Hyp W X n C Wx) {x y : D} {ta tb : Value} {i : Nat} (hk : eqK W.T μ x = some i) (tx : TyD W μ x ta) (ty : TyD W μ y tb) (hs : eqS W.T μ x y) (hins : ∀ c fs, y = .ins c fs → ∀ o c' fs', x = .obj o → μ[o]? = some (.ins c' fs') → isSubc W.T c c' = false) (hne : (ta != tb) = true) : PySem.W.subIn W.K tb ta = some false := by
  have flatC : ∀ T ∈ (["NoneType", "tuple", "list"] : List String), ta = .type T → PySem.W.subIn W.K tb ta = some false := by
    rintro T hT rfl
    rcases ty_cases ty with ⟨T', hT', rfl⟩ | ⟨c', i', rfl, h1, h2⟩
    · exact sub_tt _ T hT T' hT' (fun z => by subst z; simp at hne)
    · have z := (h.txt.cls c' i' h1 h2).mroT T (by simp at hT ⊢; rcases hT with rfl | rfl | rfl <;> simp)
      exact z
  cases x with
  | non => exact flatC "NoneType" (by simp) tx
  | tup _ => exact flatC "tuple" (by simp) tx
  | lst _ => exact flatC "list" (by simp) tx
  | obj o =>
    rcases tx with ⟨_, rfl⟩ | ⟨c, fs, i, z, rfl, z3, z4⟩
    · exact flatC "list" (by simp) rfl
    · rcases ty_cases ty with ⟨T', hT', rfl⟩ | ⟨c', i', rfl, h1, h2⟩
      · exact sub_tc _ _ T' hT'
      · refine sub_cc h z3 z4 h1 h2 ?_ hne
        cases y with
        | ins c2 b =>
          obtain ⟨q, _⟩ := ty
          have e1 := hins c2 b rfl o c fs rfl z
          obtain ⟨i2, q3, q4⟩ := ‹∃ i, W.T.cls[c2]? = some i ∧ i.isexc = false›
          have e2 : c' = c2 := h.txt.inj c' c2 i' i2 h1 q3 (by injection q)
          rw [e2]; exact .inr e1
        | obj o2 =>
          rcases ty with ⟨_, q⟩ | ⟨c3, fs3, i3, w, w2, w3, w4⟩
          · cases q
          · have e2 : c' = c3 := h.txt.inj c' c3 i' i3 h1 w3 (by injection w2)
            rw [e2]; exact hs c fs c3 fs3 z w
        | non => cases ty
        | bl _ => cases ty
        | int _ => cases ty
        | str _ => cases ty
        | tup _ => cases ty
        | lst _ => cases ty
        | bor _ _ => exact ty.elim
  | _ => cases hk
abbrev Two (X : Cx) (pins : List (Addr × Obj)) (σ : L2.St) (W : Wd) (e : Em) (H : Hp) (μ : Mu) (x y : D) (ne : Bool) (r : Value) (s' : Shared) : Prop := ∃ b, r = .bool (b != ne) ∧ (b = true ↔ x = y) ∧ Back X pins σ W e H μ s'
theorem mix_ins (h : Hyp W X n C Wx) {m : Nat} (hl : (∀ f ds μ, C.low f ds μ = .stuck) ∨ ∃ k, k + 34 ≤ m ∧ FnPs W k C.hot C.low) {A : Around} {j : Nat} (sb : SubU X m (j + 1) A) (I : Inv X pins σ H s) (st : St0 W e μ H) {c : Nat} {fs : List D} {y : D} {v w : V} {u t : Value} (hx : Rep W e (.ins c fs) v) (hy : Rep W e y w) (rv : RelV v u) (rw_ : RelV w t)
    {f : Nat} {r : Bool} (hr : eqR C.T μ c y) (hm : mthd C.T c 6 = some f) (he : r = true ↔ D.ins c fs = y) (ho : C.low f [D.ins c fs, y] μ = .ok (.bl r) μ) (ne : Bool) : wpAny (model X.prog X.w) A (richCompare (Ev4.opN ne) u t) (Two X pins σ W e H μ (.ins c fs) y ne) X.xe s := by
  obtain ⟨ta, la, tx⟩ := typ_at h I st hx rv
  obtain ⟨tb, lb, ty⟩ := typ_at h I st hy rw_
  obtain ⟨a, dx, gs, vs, i, rfl, h1, h2, h3, _⟩ := id hx
  cases rv
  rw [h.T] at hr
  obtain ⟨rfl, _⟩ := tx
  refine EvE.rc_any (oneThing_ref ..) sb.hu0 la lb (fun hne => sub_look h I (sub_ins h h2 h3 ty hr hne)) ?_
  refine wpAny_mono (own_asks h hl sb I st hx hy rfl rw_ hm ho ne) (fun o s' q => ?_) fun _ _ z => z
  obtain ⟨rfl, q⟩ := q
  exact ⟨r, rfl, he, q⟩
theorem kind_dec (h : Hyp W X n C Wx) {A : Around} (hu : A.units + 1 < cLine) (I : Inv X pins σ H s) (st : St0 W e μ H) {x y : D} {v w : V} {u t : Value} (hx : Rep W e x v) (hy : Rep W e y w) (rv : RelV v u) (rw_ : RelV w t) {i : Nat} (hk : eqK C.T μ x = some i)
    {tb : Value} (lb : PySem.W.Looks (model X.prog X.w) s.heap (typeOf t) tb) (ty : TyD W μ y tb) (hd : (∃ c fs, y = .ins c fs) ∨ ∃ j, eqK C.T μ y = some j ∧ (i ≠ j ∨ i = 3 ∧ x ≠ y)) (ne : Bool) : wpAny (model X.prog X.w) A (tryCompare u (EvE.nmN ne) t) (fun o s' => o = none ∧ s' = s) X.xe s := by
  have inst : ∀ T ∈ (["NoneType", "tuple", "list"] : List String), tb ≠ .type T → PySem.W.Looks (model X.prog X.w) s.heap (isInstance t (.type T)) false := fun T hT hn => by
    refine lb.andThen (PySem.W.looks_subIn I.kIn ?_)
    rw [h.K]
    rcases ty_cases ty with ⟨T', hT', rfl⟩ | ⟨c', i', rfl, h1, h2⟩
    · exact sub_tt _ T hT T' hT' (fun z => hn (by rw [z]))
    · exact (h.txt.cls c' i' h1 h2).mroT T (by simp at hT ⊢; rcases hT with rfl | rfl | rfl <;> simp)
  have kt : ∀ j, eqK C.T μ y = some j → (j = 0 → tb = .type "NoneType") ∧ (j = 1 → tb = .type "tuple") ∧ (j = 2 → tb = .type "list") ∧ (j = 3 → ∃ c, tb = .ref (W.ca c)) := fun j hj => by
    cases y with
    | non => cases hj; exact ⟨fun _ => ty, nofun, nofun, nofun⟩
    | tup _ => cases hj; exact ⟨nofun, fun _ => ty, nofun, nofun⟩
    | lst _ => cases hj; exact ⟨nofun, nofun, fun _ => ty, nofun⟩
    | obj o =>
      have hj : (match μ[o]? with
        | some (.ins c _) => if (mthd C.T c 6).isSome then none else some 3
        | _ => none) = some j := hj
      split at hj
      · rename_i c fs hc
        split at hj
        · cases hj
        · cases hj
          refine ⟨nofun, nofun, nofun, fun _ => ?_⟩
          rcases ty with ⟨⟨xs, z⟩, _⟩ | ⟨c', fs', i', _, z, _⟩
          · rw [hc] at z; cases z
          · exact ⟨c', z⟩
      · cases hj
    | _ => cases hj
  have tbne : ∀ T, (i = 0 ∧ T = "NoneType" ∨ i = 1 ∧ T = "tuple" ∨ i = 2 ∧ T = "list") → tb ≠ .type T := by
    intro T hi z
    rcases hd with ⟨c, fs, rfl⟩ | ⟨j, hj, hne⟩
    · obtain ⟨q, _⟩ := ty
      rw [q] at z; cases z
    · obtain ⟨k0, k1, k2, k3⟩ := kt j hj
      have hj4 : j = 0 ∨ j = 1 ∨ j = 2 ∨ j = 3 := by
        rcases kind_at h I st hy rw_ hj with ⟨q, _⟩ | ⟨q, _⟩ | ⟨q, _⟩ | ⟨q, _⟩ <;> omega
      rcases hi with ⟨q, rfl⟩ | ⟨q, rfl⟩ | ⟨q, rfl⟩ <;> rcases hj4 with rfl | rfl | rfl | rfl
      all_goals first
        | (exfalso; omega)
        | (rw [k0 rfl] at z; exact absurd z (by decide))
        | (rw [k1 rfl] at z; exact absurd z (by decide))
        | (rw [k2 rfl] at z; exact absurd z (by decide))
        | (obtain ⟨c, z'⟩ := k3 rfl; rw [z'] at z; cases z)
  rcases kind_at h I st hx rv hk with ⟨rfl, rfl, rfl⟩ | ⟨rfl, _, a, rfl, ht⟩ | ⟨rfl, _, a, rfl, ht⟩ | ⟨rfl, o, a, c, ci, ox, od, rfl, rfl, hci, hex, hno, J, hoc, hr, _⟩
  · refine EvE.dec_none ?_ ⟨rfl, rfl⟩
    cases t with
    | none =>
      exfalso
      have z := tbne "NoneType" (.inl ⟨rfl, rfl⟩)
      cases y with
      | non => exact z ty
      | bl b => cases (show w = .bl b from hy); cases rw_
      | int b => cases (show w = .int b from hy); obtain ⟨_, q⟩ := rw_; cases q
      | str b => cases (show w = .str b from hy); obtain ⟨_, q⟩ := rw_; cases q
      | tup b => obtain ⟨_, _, q, _⟩ := hy; subst q; cases rw_
      | lst b => obtain ⟨_, _, q, _⟩ := hy; subst q; cases rw_
      | ins c b => obtain ⟨_, _, _, _, _, q, _⟩ := hy; subst q; cases rw_
      | obj b => obtain ⟨_, q, _⟩ := hy; subst q; cases rw_
      | bor _ _ => exact hy.elim
    | _ => rfl
  · exact EvE.dec_tup ht (inst "tuple" (by simp) (tbne _ (.inr (.inl ⟨rfl, rfl⟩)))) ⟨rfl, rfl⟩
  · exact EvE.dec_lst ht (inst "list" (by simp) (tbne _ (.inr (.inr ⟨rfl, rfl⟩)))) ⟨rfl, rfl⟩
  · have cf := h.txt.cls c ci hci hex
    obtain ⟨e1, e2⟩ := cf.eqo hno
    refine EvE.dec_obj hu I.kIn J (by rw [h.K]; exact e1) (by rw [h.K]; exact e2) (by rw [h.K]; exact cf.top) ?_ ⟨rfl, rfl⟩
    have nt : ox.cls ≠ .type "tuple" := by rw [hoc]; exact nofun
    have nref : (∀ b, t ≠ .ref b) → PySem.W.Looks (model X.prog X.w) s.heap (isSame (.ref a) t) false := fun hb => by
      cases y with
      | non => cases (show w = .non from hy); cases rw_; exact .of_pure rfl
      | tup b => obtain ⟨b, _, q, _⟩ := hy; subst q; cases rw_; exact absurd rfl (hb b)
      | lst b => obtain ⟨b, _, q, _⟩ := hy; subst q; cases rw_; exact absurd rfl (hb b)
      | ins c b => obtain ⟨b, _, _, _, _, q, _⟩ := hy; subst q; cases rw_; exact absurd rfl (hb b)
      | obj b => obtain ⟨b, q, _⟩ := hy; subst q; cases rw_; exact absurd rfl (hb b)
      | bl _ => rcases hd with ⟨_, _, q⟩ | ⟨_, q, _⟩ <;> cases q
      | int _ => rcases hd with ⟨_, _, q⟩ | ⟨_, q, _⟩ <;> cases q
      | str _ => rcases hd with ⟨_, _, q⟩ | ⟨_, q, _⟩ <;> cases q
      | bor _ _ => exact hy.elim
    cases t with
    | ref b =>
      have hab : a ≠ b := fun z => by
        subst z
        cases w with
        | ref b' =>
          cases rw_
          have q := Rep.inj h I st (.obj o) y (.ref a) ⟨a, rfl, hr⟩ hy
          rcases hd with ⟨c2, fs2, q2⟩ | ⟨j, hj, hne⟩
          · rw [q2] at q; cases q
          · rcases hne with hne | hne
            · rw [← q, hk] at hj; cases hj; exact hne rfl
            · exact hne.2 q
        | int _ => obtain ⟨_, q⟩ := rw_; cases q
        | str _ => obtain ⟨_, q⟩ := rw_; cases q
        | byt _ => obtain ⟨_, q⟩ := rw_; cases q
        | flt _ => obtain ⟨_, q⟩ := rw_; cases q
        | _ => cases rw_
      obtain ⟨ob, hob⟩ : ∃ ob, s.heap.get? b = some ob := by
        cases y with
        | non => cases (show w = .non from hy); cases rw_
        | bl _ => cases (show w = .bl _ from hy); cases rw_
        | int _ => cases (show w = .int _ from hy); obtain ⟨_, q⟩ := rw_; cases q
        | str _ => cases (show w = .str _ from hy); obtain ⟨_, q⟩ := rw_; cases q
        | tup xs =>
          obtain ⟨b', vs, q, q1, _⟩ := hy
          subst q; cases rw_
          obtain ⟨_, _, ⟨o, q, _⟩, _⟩ := I.tuple (show SqT X.K H b vs by rw [h.K]; exact sqT_sub q1 st.sub)
          exact ⟨_, q⟩
        | lst xs =>
          obtain ⟨b', vs, q, q1, _⟩ := hy
          subst q; cases rw_
          obtain ⟨its, m, q, _⟩ := sq_exact h I st q1
          exact ⟨_, q⟩
        | ins c xs =>
          obtain ⟨b', dx, gs, vs, i, q, q1, _⟩ := hy
          subst q; cases rw_
          obtain ⟨_, od, _, _, J2⟩ := inst_rule I (st.sub _ _ q1)
          obtain ⟨_, _, _, q, _⟩ := I.hok b _ (st.sub _ _ q1)
          exact ⟨_, q⟩
        | obj o2 =>
          obtain ⟨b', q, q1⟩ := hy
          subst q; cases rw_
          rcases hd with ⟨_, _, q⟩ | ⟨j, hj, _⟩
          · cases q
          · have kk := kind_at h I st (x := .obj o2) ⟨b, rfl, q1⟩ rfl hj
            rcases kk with ⟨_, q, _⟩ | ⟨_, ⟨_, q⟩, _⟩ | ⟨_, ⟨_, q⟩, _⟩ | ⟨_, o3, b3, c3, ci3, ox3, od3, q, q2, _, _, _, J3, _⟩
            · cases q
            · cases q
            · cases q
            · cases q2
              exact ⟨_, J3.at_⟩
        | bor _ _ => exact hy.elim
      exact fun A Q E s' k q => wpAny_isSame_ref_other hab (k _ _ J.at_) (k _ _ hob) nt q
    | none => exact nref nofun
    | bool _ => exact nref nofun
    | int _ _ => exact nref nofun
    | _ => exact nref nofun
theorem eq_run (h : Hyp W X n C Wx) {m : Nat} (hl : (∀ f ds μ, C.low f ds μ = .stuck) ∨ ∃ k, k + 34 ≤ m ∧ FnPs W k C.hot C.low) : ∀ (k : Nat) (A : Around) (s : Shared) (H : Hp) (e : Em) (x y : D) (v w : V) (u t : Value),
    SubU X m k A → Inv X pins σ H s → St0 W e μ H → Rep W e x v → Rep W e y w → RelV v u → RelV w t → eqOk C μ k x y →
    wpAny (model X.prog X.w) A (eqBool u t) (fun r s' => (r = true ↔ x = y) ∧ Back X pins σ W e H μ s') X.xe s ∧
    (¬ (flat x = true ∧ flat y = true) → ∀ ne, wpAny (model X.prog X.w) A (richCompare (Ev4.opN ne) u t) (Two X pins σ W e H μ x y ne) X.xe s) := by
  intro k
  induction k with
  | zero => intro A s H e x y v w u t _ _ _ _ _ _ _ ok; exact ok.elim
  | succ k ih =>
    intro A s H e x y v w u t sb I st hx hy rv rw_ ok
    have up : ∀ {a b : Addr}, v = .ref a → w = .ref b → (∀ ne, wpAny (model X.prog X.w) A (richCompare (Ev4.opN ne) u t) (fun r s' => ∃ b, r = .bool (b != ne) ∧ (b = true ↔ x = y) ∧ Back X pins σ W e H μ s') X.xe s) →
        wpAny (model X.prog X.w) A (eqBool u t) (fun r s' => (r = true ↔ x = y) ∧ Back X pins σ W e H μ s') X.xe s := by
      rintro a b rfl rfl rc
      cases rv
      cases rw_
      by_cases hab : a = b
      · subst hab
        exact SeqAt.EqAt.same (A := A) (s := s) (.ref a) X.prog X.w X.xe _ ⟨by simp [Rep.inj h I st x y _ hx hy], e, H, I, Ex.refl e H, st⟩
      · refine GQ.eqBool_refG hab (wpAny_mono (rc false) (fun r s' q => ?_) fun _ _ z => z)
        obtain ⟨b, hb, q1, q2⟩ := q
        exact ⟨b, by rw [hb]; simp, q1, q2⟩
    have flatC : flat x = true → flat y = true → mix x y = false → wpAny (model X.prog X.w) A (eqBool u t) (fun r s' => (r = true ↔ x = y) ∧ Back X pins σ W e H μ s') X.xe s := fun f g mx =>
      eqAt_V (A := A) (s := s) rv rw_ (flat_V f hx) (flat_V g hy) X.prog X.w X.xe _ ⟨flat_eqV f g mx hx hy, e, H, I, Ex.refl e H, st⟩
    have upN : (u == t) = false → (∀ ne, wpAny (model X.prog X.w) A (richCompare (Ev4.opN ne) u t) (Two X pins σ W e H μ x y ne) X.xe s) → (∀ a b c d, (u, t) ≠ (Value.float a b, Value.float c d)) →
        wpAny (model X.prog X.w) A (eqBool u t) (fun r s' => (r = true ↔ x = y) ∧ Back X pins σ W e H μ s') X.xe s := by
      intro hut rc hf
      unfold eqBool
      refine wpAny_holding ?_
      refine wpAny_ite_split (fun hab => by rw [hut] at hab; cases hab) (fun _ => ?_)
      have fin : wpAny (model X.prog X.w) A (richCompare .Eq u t >>= fun v => truthOfDropped v) (fun r s' => (r = true ↔ x = y) ∧ Back X pins σ W e H μ s') X.xe s := by
        refine wpAny_bind (wpAny_mono (rc false) (fun v s' hv => ?_) fun _ _ x => x)
        obtain ⟨r, rfl, q1, q2⟩ := hv
        exact wpAny_truthy_bool ⟨by simpa using q1, q2⟩
      split
      · rename_i a b c d hh
        exact absurd hh (hf a b c d)
      · exact fin
    have ih' : ∀ (A : Around) (s : Shared) (H : Hp) (e : Em) (x y : D) (v w : V) (u t : Value), SubU X m k A → Inv X pins σ H s → St0 W e μ H → Rep W e x v → Rep W e y w → RelV v u → RelV w t → eqOk C μ k x y →
      wpAny (model X.prog X.w) A (eqBool u t) (fun r s' => (r = true ↔ x = y) ∧ Back X pins σ W e H μ s') X.xe s := fun A s H e x y v w u t a b c d f g i j => (ih A s H e x y v w u t a b c d f g i j).1
    have both : ∀ {i j : Nat}, eqK C.T μ x = some i → eqK C.T μ y = some j → (i ≠ j ∨ i = 3) → eqS C.T μ x y → x ≠ y → ∀ ne, wpAny (model X.prog X.w) A (richCompare (Ev4.opN ne) u t) (Two X pins σ W e H μ x y ne) X.xe s := by
      intro i j hi hj hij hs hxy ne
      obtain ⟨ta, la, tx⟩ := typ_at h I st hx rv
      obtain ⟨tb, lb, ty⟩ := typ_at h I st hy rw_
      have kx := kind_at h I st hx rv hi
      have ky := kind_at h I st hy rw_ hj
      have hij2 : i ≠ j ∨ (i = 3 ∧ j = 3) := by
        rcases hij with q | q
        · exact .inl q
        · by_cases z : i = j
          · exact .inr ⟨q, by omega⟩
          · exact .inl z
      have one : oneThing? (Ev4.opN ne) u t = none := by
        rcases kx with ⟨_, _, rfl⟩ | ⟨_, _, a, rfl, _⟩ | ⟨_, _, a, rfl, _⟩ | ⟨_, o, a, _, _, _, _, _, rfl, _⟩ <;> rfl
      have hsame : PySem.W.Looks (model X.prog X.w) s.heap (isSame u t) false := by
        have refs : ∀ (a b : Addr) (oa ob : Obj), u = .ref a → t = .ref b → s.heap.get? a = some oa → s.heap.get? b = some ob → oa.cls ≠ .type "tuple" ∨ ob.cls ≠ .type "tuple" → a ≠ b → PySem.W.Looks (model X.prog X.w) s.heap (isSame u t) false := by
          rintro a b oa ob rfl rfl ha hb hn hab A Q E s' k q
          rcases hn with hn | hn
          · exact wpAny_isSame_ref_other hab (k _ _ ha) (k _ _ hb) hn q
          · exact SeqAt.wpAny_isSame_ref_other' hab (k _ _ ha) (k _ _ hb) hn q
        rcases kx with ⟨i0, rfl, rfl⟩ | ⟨i0, ⟨xs, rfl⟩, a, rfl, oa, ha, ca⟩ | ⟨i0, ⟨xs, rfl⟩, a, rfl, oa, ha, ca⟩ | ⟨i0, o, a, c, ci, ox, od, rfl, rfl, _, _, _, J, hoc, hr, _⟩
        · rcases ky with ⟨j0, rfl, rfl⟩ | ⟨j0, _, b, rfl, _⟩ | ⟨j0, _, b, rfl, _⟩ | ⟨j0, o2, b, c2, ci2, ox2, od2, rfl, rfl, _⟩
          · exact absurd rfl hxy
          · exact .of_pure rfl
          · exact .of_pure rfl
          · exact .of_pure rfl
        all_goals
          rcases ky with ⟨j0, rfl, rfl⟩ | ⟨j0, ⟨ys, rfl⟩, b, rfl, ob, hb, cb⟩ | ⟨j0, ⟨ys, rfl⟩, b, rfl, ob, hb, cb⟩ | ⟨j0, o2, b, c2, ci2, ox2, od2, rfl, rfl, _, _, _, J2, hoc2, hr2, _⟩
        · exact .of_pure rfl
        · exfalso; omega
        · refine refs a b oa ob rfl rfl ha hb (.inr (by rw [cb]; decide)) fun z => ?_
          subst z; rw [ha] at hb; cases hb; rw [ca] at cb; exact absurd cb (by decide)
        · refine refs a b oa ox2 rfl rfl ha J2.at_ (.inr (by rw [hoc2]; exact nofun)) fun z => ?_
          subst z; have q := J2.at_; cases Option.some.inj (ha.symm.trans q); rw [ca] at hoc2; cases hoc2
        · exact .of_pure rfl
        · refine refs a b oa ob rfl rfl ha hb (.inl (by rw [ca]; decide)) fun z => ?_
          subst z; rw [ha] at hb; cases hb; rw [ca] at cb; exact absurd cb (by decide)
        · exfalso; omega
        · refine refs a b oa ox2 rfl rfl ha J2.at_ (.inr (by rw [hoc2]; exact nofun)) fun z => ?_
          subst z; have q := J2.at_; cases Option.some.inj (ha.symm.trans q); rw [ca] at hoc2; cases hoc2
        · exact .of_pure rfl
        · refine refs a b ox ob rfl rfl J.at_ hb (.inl (by rw [hoc]; exact nofun)) fun z => ?_
          subst z; have q := J.at_; cases Option.some.inj (hb.symm.trans q); rw [cb] at hoc; cases hoc
        · refine refs a b ox ob rfl rfl J.at_ hb (.inl (by rw [hoc]; exact nofun)) fun z => ?_
          subst z; have q := J.at_; cases Option.some.inj (hb.symm.trans q); rw [cb] at hoc; cases hoc
        · refine refs a b ox ox2 rfl rfl J.at_ J2.at_ (.inl (by rw [hoc]; exact nofun)) fun z => ?_
          subst z; exact hxy (by rw [st.inj o o2 a hr hr2])
      refine EvE.rc_any one sb.hu0 la lb (fun hne => sub_look h I (sub_kind h (by rw [← h.T]; exact hi) tx ty (by rw [← h.T]; exact hs) (fun c fs z => by subst z; cases hj) hne)) ?_
      refine wpAny_mono (kind_dec h sb.hu I st hx hy rv rw_ hi lb ty (.inr ⟨j, hj, hij2.imp id fun z => ⟨z.1, hxy⟩⟩) ne) (fun o s' q => ?_) fun _ _ z => z
      obtain ⟨rfl, rfl⟩ := q
      refine wpAny_mono (kind_dec h sb.hu I st hy hx rw_ rv hj la tx (.inr ⟨i, hi, hij2.imp (fun z => Ne.symm z) fun z => ⟨z.2, Ne.symm hxy⟩⟩) ne) (fun o s' q => ?_) fun _ _ z => z
      obtain ⟨rfl, rfl⟩ := q
      exact hsame.here ⟨false, rfl, by simp [hxy], e, H, I, Ex.refl e H, st⟩
    have refOf : ∀ {x : D} {v : V} {u : Value}, flat x = false → Rep W e x v → RelV v u → ∃ a, v = .ref a ∧ u = .ref a := by
      intro x v u hf hx rv
      cases x with
      | tup b => obtain ⟨b, _, q, _⟩ := hx; subst q; cases rv; exact ⟨b, rfl, rfl⟩
      | lst b => obtain ⟨b, _, q, _⟩ := hx; subst q; cases rv; exact ⟨b, rfl, rfl⟩
      | ins c b => obtain ⟨b, _, _, _, _, q, _⟩ := hx; subst q; cases rv; exact ⟨b, rfl, rfl⟩
      | obj b => obtain ⟨b, q, _⟩ := hx; subst q; cases rv; exact ⟨b, rfl, rfl⟩
      | bor _ _ => exact hx.elim
      | _ => cases hf
    have flatOf : ∀ {x : D} {v : V} {u : Value}, flat x = true → Rep W e x v → RelV v u → (∀ a, (Value.ref a == u) = false ∧ (u == Value.ref a) = false) := by
      intro x v u hf hx rv a
      cases x with
      | non => cases (show v = .non from hx); cases rv; exact ⟨rfl, rfl⟩
      | bl b => cases (show v = .bl b from hx); cases rv; exact ⟨rfl, rfl⟩
      | int b => cases (show v = .int b from hx); obtain ⟨_, rfl⟩ := rv; exact ⟨rfl, rfl⟩
      | str b => cases (show v = .str b from hx); obtain ⟨_, rfl⟩ := rv; exact ⟨rfl, rfl⟩
      | _ => cases hf
    have eqb : ¬ (flat x = true ∧ flat y = true) → (∀ ne, wpAny (model X.prog X.w) A (richCompare (Ev4.opN ne) u t) (Two X pins σ W e H μ x y ne) X.xe s) → wpAny (model X.prog X.w) A (eqBool u t) (fun r s' => (r = true ↔ x = y) ∧ Back X pins σ W e H μ s') X.xe s := by
      intro hnf rc
      cases fx : flat x with
      | true =>
        cases fy : flat y with
        | true => exact absurd ⟨fx, fy⟩ hnf
        | false =>
          obtain ⟨b, hb, rfl⟩ := refOf fy hy rw_
          refine upN ((flatOf fx hx rv b).2) rc fun p q r z => by simp
      | false =>
        obtain ⟨a, ha, rfl⟩ := refOf fx hx rv
        cases fy : flat y with
        | true => exact upN ((flatOf fy hy rw_ a).1) rc fun p q r z => by simp
        | false =>
          obtain ⟨b, hb, rfl⟩ := refOf fy hy rw_
          exact up ha hb rc
    have two : ¬ (flat x = true ∧ flat y = true) → (∀ ne, wpAny (model X.prog X.w) A (richCompare (Ev4.opN ne) u t) (Two X pins σ W e H μ x y ne) X.xe s) → (wpAny (model X.prog X.w) A (eqBool u t) (fun r s' => (r = true ↔ x = y) ∧ Back X pins σ W e H μ s') X.xe s ∧
        (¬ (flat x = true ∧ flat y = true) → ∀ ne, wpAny (model X.prog X.w) A (richCompare (Ev4.opN ne) u t) (Two X pins σ W e H μ x y ne) X.xe s)) := fun hnf rc => ⟨eqb hnf rc, fun _ => rc⟩
    have onR : ∀ {c : Nat} {gs : List D}, y = .ins c gs → (eqK C.T μ x).isSome = true ∧ (∀ o c' fs', x = .obj o → μ[o]? = some (.ins c' fs') → isSubc C.T c c' = false) ∧ (∃ f : Nat, mthd C.T c 6 = some f ∧ C.low f [D.ins c gs, x] μ = .ok (.bl false) μ) → x ≠ y → ∀ ne, wpAny (model X.prog X.w) A (richCompare (Ev4.opN ne) u t) (Two X pins σ W e H μ x y ne) X.xe s := by
      rintro c gs rfl ⟨hk, hsb, f, hm, ho⟩ hxy ne
      obtain ⟨i, hi⟩ := Option.isSome_iff_exists.mp hk
      obtain ⟨ta, la, tx⟩ := typ_at h I st hx rv
      obtain ⟨tb, lb, ty⟩ := typ_at h I st hy rw_
      obtain ⟨b, _, rfl⟩ := refOf rfl hy rw_
      have one : oneThing? (Ev4.opN ne) u (.ref b) = none := by
        rcases kind_at h I st hx rv hi with ⟨_, _, rfl⟩ | ⟨_, _, a, rfl, _⟩ | ⟨_, _, a, rfl, _⟩ | ⟨_, o, a, _, _, _, _, _, rfl, _⟩ <;> rfl
      refine EvE.rc_any one sb.hu0 la lb (fun hne => sub_look h I (sub_kind h (by rw [← h.T]; exact hi) tx ty (by rw [← h.T]; cases x <;> trivial) (fun c2 fs2 z o c' fs' z2 z3 => by injection z with z4 z5; rw [← z4, ← h.T]; exact hsb o c' fs' z2 z3) hne)) ?_
      refine wpAny_mono (kind_dec h sb.hu I st hx hy rv rw_ hi lb ty (.inl ⟨c, gs, rfl⟩) ne) (fun o s' q => ?_) fun _ _ z => z
      obtain ⟨rfl, rfl⟩ := q
      refine wpAny_mono (own_asks h hl sb I st hy hx rw_ rv hm ho ne) (fun o s' q => ?_) fun _ _ z => z
      obtain ⟨rfl, q⟩ := q
      exact ⟨false, rfl, by simp [hxy], q⟩
    have main : ∀ (ok : (flat x = true ∧ flat y = true ∧ mix x y = false) ∨ (∃ i j, eqK C.T μ x = some i ∧ eqK C.T μ y = some j ∧ (i ≠ j ∨ i = 3) ∧ eqS C.T μ x y)), (wpAny (model X.prog X.w) A (eqBool u t) (fun r s' => (r = true ↔ x = y) ∧ Back X pins σ W e H μ s') X.xe s ∧
        (¬ (flat x = true ∧ flat y = true) → ∀ ne, wpAny (model X.prog X.w) A (richCompare (Ev4.opN ne) u t) (Two X pins σ W e H μ x y ne) X.xe s)) := by
      rintro (⟨f, g, mx⟩ | ⟨i, j, hi, hj, hij, hs⟩)
      · exact ⟨flatC f g mx, fun hn => absurd ⟨f, g⟩ hn⟩
      · by_cases hxy : x = y
        · subst hxy
          rw [hi] at hj; cases hj
          rcases hij with q | rfl
          · exact absurd rfl q
          · refine two (fun z => ?_) fun ne => ?_
            · rcases kind_at h I st hx rv hi with ⟨q, _⟩ | ⟨q, _⟩ | ⟨q, _⟩ | ⟨_, o, a, _, _, _, _, rfl, _⟩
              · cases q
              · cases q
              · cases q
              · exact Bool.noConfusion z.1
            · rcases kind_at h I st hx rv hi with ⟨q, _⟩ | ⟨q, _⟩ | ⟨q, _⟩ | ⟨_, o, a, c, ci, ox, od, rfl, rfl, hci, hex, hno, J, hoc, hr, _⟩
              · cases q
              · cases q
              · cases q
              · obtain ⟨a', rfl, hr'⟩ := hy
                rw [hr] at hr'; cases hr'
                cases rw_
                have cf := h.txt.cls c ci hci hex
                obtain ⟨e1, e2⟩ := cf.eqo hno
                refine EvE.rc_any (oneThing_ref ..) sb.hu0 J.type J.type (fun q => by simp at q) (EvE.same_obj sb.hu I.kIn J (by rw [h.K]; exact e1) (by rw [h.K]; exact e2) (by rw [h.K]; exact cf.top) ⟨true, rfl, by simp, e, H, I, Ex.refl e H, st⟩)
        · refine two (fun z => ?_) (both hi hj hij hs hxy)
          rcases kind_at h I st hx rv hi with ⟨q, rfl, _⟩ | ⟨q, ⟨_, rfl⟩, _⟩ | ⟨q, ⟨_, rfl⟩, _⟩ | ⟨_, o, a, _, _, _, _, rfl, _⟩
          · rcases kind_at h I st hy rw_ hj with ⟨q, rfl, _⟩ | ⟨q, ⟨_, rfl⟩, _⟩ | ⟨q, ⟨_, rfl⟩, _⟩ | ⟨_, o, a, _, _, _, _, rfl, _⟩
            · exact hxy rfl
            · exact Bool.noConfusion z.2
            · exact Bool.noConfusion z.2
            · exact Bool.noConfusion z.2
          · exact Bool.noConfusion z.1
          · exact Bool.noConfusion z.1
          · exact Bool.noConfusion z.1
    cases x with
    | bor _ _ => exact hx.elim
    | ins c fs =>
      have ok : eqR C.T μ c y ∧ ∃ (f : Nat) (r : Bool), mthd C.T c 6 = some f ∧ (r = true ↔ D.ins c fs = y) ∧ C.low f [D.ins c fs, y] μ = .ok (.bl r) μ := ok
      obtain ⟨hr, f, r, hm, he, ho⟩ := ok
      exact two (fun z => Bool.noConfusion z.1) fun ne => mix_ins h hl sb I st hx hy rv rw_ hr hm he ho ne
    | tup xs =>
      cases y with
      | tup ys =>
        have ok : ∀ (i : Nat) (a b : D), xs[i]? = some a → ys[i]? = some b → eqOk C μ k a b := ok
        obtain ⟨a, vs, rfl, h1, h2⟩ := hx
        obtain ⟨b, ws, rfl, g1, g2⟩ := hy
        have rc : ∀ ne, wpAny (model X.prog X.w) A (richCompare (Ev4.opN ne) u t) (fun r s' => ∃ b, r = .bool (b != ne) ∧ (b = true ↔ D.tup xs = D.tup ys) ∧ Back X pins σ W e H μ s') X.xe s := by
          intro ne
          have rv' := rv
          have rw' := rw_
          cases rv'
          cases rw'
          obtain ⟨its, r1, t1, z1⟩ := I.tuple (show SqT X.K H a vs by rw [h.K]; exact sqT_sub h1 st.sub)
          obtain ⟨its2, r2, t2, z2⟩ := I.tuple (show SqT X.K H b ws by rw [h.K]; exact sqT_sub g1 st.sub)
          have l1 : its.length = xs.length := by rw [← r1.length, h2.length]
          have l2 : its2.length = ys.length := by rw [← r2.length, g2.length]
          refine Ev4.rc_tup (ne := ne) (items := its.toArray) (items2 := its2.toArray) sb.hu0 (fun i s' => Back X pins σ W e H μ s' ∧ ∀ j, j < i → xs[j]? = ys[j]?) (fun s' => Back X pins σ W e H μ s' ∧ xs ≠ ys) t1 t2 (fun i k1 k2 s' q => ?_) (fun s' q => ?_) (fun s' q => ?_) ⟨⟨e, H, I, Ex.refl e H, st⟩, fun j hj => absurd hj (Nat.not_lt_zero j)⟩
          · obtain ⟨⟨e1, H1, I1, x1, st1⟩, q2⟩ := q
            refine wpAny_mono (item_turn (i := i) (Ex.refl e H) ih' ok sb.in1 I1 x1 st1 h2 g2 r1 r2 (by simp at k1; simp [k1]) (by simp at k2; simp [k2])) (fun r s2 z => ?_) fun _ _ z => z
            cases r with
            | true => exact ⟨z.2, fun j hj => (Nat.lt_succ_iff_lt_or_eq.mp hj).elim (q2 j) fun hj => by rw [hj]; exact z.1.mp rfl⟩
            | false => exact ⟨z.2, fun hh => absurd (z.1.mpr (by rw [hh])) (by simp)⟩
          · refine ⟨its.length == its2.length, by simp, ?_, q.1⟩
            rw [beq_iff_eq, l1, l2]
            constructor
            · intro hh
              congr 1
              apply List.ext_getElem?
              intro j
              by_cases hj : j < xs.length
              · exact q.2 j (by simp [l1, l2]; omega)
              · rw [List.getElem?_eq_none (by omega), List.getElem?_eq_none (by omega)]
            · intro hh
              cases hh; rfl
          · exact ⟨false, by simp, by simp [q.2], q.1⟩
        exact ⟨up rfl rfl rc, fun _ => rc⟩
      | ins c gs => exact two (fun z => Bool.noConfusion z.1) (onR rfl ok nofun)
      | bor _ _ => exact hy.elim
      | _ => exact main ok
    | lst xs =>
      cases y with
      | lst ys =>
        have ok : ∀ (i : Nat) (a b : D), xs[i]? = some a → ys[i]? = some b → eqOk C μ k a b := ok
        obtain ⟨a, vs, rfl, h1, h2⟩ := hx
        obtain ⟨b, ws, rfl, g1, g2⟩ := hy
        have rc : ∀ ne, wpAny (model X.prog X.w) A (richCompare (Ev4.opN ne) u t) (fun r s' => ∃ b, r = .bool (b != ne) ∧ (b = true ↔ D.lst xs = D.lst ys) ∧ Back X pins σ W e H μ s') X.xe s := by
          intro ne
          have rv' := rv
          have rw' := rw_
          cases rv'
          cases rw'
          by_cases hlen : xs.length = ys.length
          · have here : ∀ s', Back X pins σ W e H μ s' → ∃ its its2 n1 n2, s'.heap.get? a = some { cls := .type "list", data := .seq its.toArray n1 } ∧ s'.heap.get? b = some { cls := .type "list", data := .seq its2.toArray n2 } ∧ Vals vs its ∧ Vals ws its2 ∧ its.length = xs.length ∧ its2.length = xs.length := by
              rintro s' ⟨e1, H1, I1, x1, st1⟩
              obtain ⟨its, n1, q1, r1, _⟩ := sq_exact h I1 st1 (h1.mono x1.g)
              obtain ⟨its2, n2, q2, r2, _⟩ := sq_exact h I1 st1 (g1.mono x1.g)
              exact ⟨its, its2, n1, n2, q1, q2, r1, r2, by rw [← r1.length, h2.length], by rw [← r2.length, g2.length, hlen]⟩
            refine Ev4.rc_list (ne := ne) (N := xs.length) sb.hu0 (fun i s' => Back X pins σ W e H μ s' ∧ ∀ j, j < i → xs[j]? = ys[j]?) (fun s' => Back X pins σ W e H μ s' ∧ xs ≠ ys) ⟨fun i s' q => ?_, fun s' q => ?_, fun i s' items items2 n1 n2 q p1 p2 k1 k2 => ?_⟩ (fun s' q => ?_) (fun s' q => ?_) ⟨⟨e, H, I, Ex.refl e H, st⟩, fun j hj => absurd hj (Nat.not_lt_zero j)⟩
            · obtain ⟨its, its2, n1, n2, q1, q2, _, _, l1, l2⟩ := here s' q.1
              exact ⟨_, _, n1, n2, q1, q2, by simp [l1], by simp [l2]⟩
            · obtain ⟨its, its2, n1, n2, q1, q2, _, _, l1, l2⟩ := here s' q.1
              exact ⟨_, _, n1, n2, q1, q2, by simp [l1], by simp [l2]⟩
            · obtain ⟨its, its2, n3, n4, q1, q2, r1, r2, l1, l2⟩ := here s' q.1
              rw [q1] at p1; rw [q2] at p2
              cases p1; cases p2
              obtain ⟨⟨e1, H1, I1, x1, st1⟩, q3⟩ := q
              refine wpAny_mono (item_turn (i := i) (Ex.refl e H) ih' ok sb.in1 I1 x1 st1 h2 g2 r1 r2 (by simp at k1; simp [k1]) (by simp at k2; simp [k2])) (fun r s2 z => ?_) fun _ _ z => z
              cases r with
              | true => exact ⟨z.2, fun j hj => (Nat.lt_succ_iff_lt_or_eq.mp hj).elim (q3 j) fun hj => by rw [hj]; exact z.1.mp rfl⟩
              | false => exact ⟨by simp at k1; omega, z.2, fun hh => absurd (z.1.mpr (by rw [hh])) (by simp)⟩
            · refine ⟨true, by simp, ?_, q.1⟩
              refine ⟨fun _ => ?_, fun _ => rfl⟩
              congr 1
              apply List.ext_getElem?
              intro j
              by_cases hj : j < xs.length
              · exact q.2 j hj
              · rw [List.getElem?_eq_none (by omega), List.getElem?_eq_none (by omega)]
            · exact ⟨false, by simp, by simp [q.2], q.1⟩
          · obtain ⟨its, n1, q1, r1, _⟩ := sq_exact h I st h1
            obtain ⟨its2, n2, q2, r2, _⟩ := sq_exact h I st g1
            refine Ev4.rc_listL (ne := ne) sb.hu0 q1 q2 (by simp; rw [← r1.length, ← r2.length, h2.length, g2.length]; exact hlen) ?_
            refine ⟨false, by simp, ?_, e, H, I, Ex.refl e H, st⟩
            simp
            intro hh; exact hlen (by rw [hh])
        exact ⟨up rfl rfl rc, fun _ => rc⟩
      | ins c gs => exact two (fun z => Bool.noConfusion z.1) (onR rfl ok nofun)
      | bor _ _ => exact hy.elim
      | _ => exact main ok
    | obj o =>
      cases y with
      | ins c gs => exact two (fun z => Bool.noConfusion z.1) (onR rfl ok nofun)
      | bor _ _ => exact hy.elim
      | _ => exact main ok
    | _ =>
      cases y with
      | ins c gs => exact two (fun z => Bool.noConfusion z.2) (onR rfl ok nofun)
      | bor _ _ => exact hy.elim
      | _ => exact main ok
end
end Ev

set_option maxRecDepth 100000
set_option maxHeartbeats 2000000
namespace Ev
open PySem PySem.Spec PyProof.Rows L2
def opC : Cm → CmpOp
  | .eq => .Eq
  | .ne => .NotEq
  | .lt => .Lt
  | .le => .LtE
  | .gt => .Gt
  | .ge => .GtE
  | .isd => .Is
  | .isn => .IsNot
  | .inn => .In
  | .nin => .NotIn
def CmM : Cm → Nat
  | .lt => 7
  | .le => 8
  | .gt => 9
  | _ => 10
def ordC : Cm → Bool
  | .lt | .le | .gt | .ge => true
  | _ => false
section
variable {W : Wd} {X : Cx} {n : Nat} {C : Cl} {Wx : WX} {pins : List (Addr × Obj)} {σ : L2.St} {H : Hp} {s : Shared} {e : Em} {μ : Mu}
theorem sub_here (h : Hyp W X n C Wx) : ∃ m, SubU X m 7 X.A ∧ ((∀ f ds μ, C.low f ds μ = .stuck) ∨ ∃ k, k + 34 ≤ m ∧ FnPs W k C.hot C.low) := by
  have r := h.room
  rcases h.low with hs | ⟨k, hk, hF⟩
  · exact ⟨n, ⟨rfl, rfl, by have := r.dp; omega, by have := r.un; omega, rfl⟩, .inl hs⟩
  · exact ⟨k + 34, ⟨rfl, rfl, by have := r.dp; omega, by have := r.un; omega, rfl⟩, .inr ⟨k, Nat.le_refl _, hF⟩⟩
theorem of_eqD {K : Bool → Mu → Em → Hp → Prop} {E : XK} {x y : D} (q : Aft W e H (eqD C x y μ) K E) : eqOk C μ 7 x y ∧ ∀ b, (b = true ↔ x = y) → Aft W e H (.ok b μ) K E := by
  unfold eqD at q
  split at q
  · rename_i z
    refine ⟨z, fun b hb => ?_⟩
    have : b = @decide (x = y) (Classical.propDecidable _) := by
      rw [Bool.eq_iff_iff, hb]; simp
    rw [this]; exact q
  · exact q.elim
theorem eqOk_nb {k : Nat} {x y : D} (ok : eqOk C μ (k + 1) x y) : nbD x = true ∧ nbD y = true := by
  cases x <;> cases y <;> first
    | exact ⟨rfl, rfl⟩
    | exact absurd ok.1 (by simp [eqR, eqK])
    | (rcases ok with ⟨q, q2, _⟩ | ⟨i, j, q, q2, _⟩ <;> first | (cases q; done) | (cases q2; done))
theorem eqOk_mix {k : Nat} {x y : D} (f : flat x = true) (g : flat y = true) (ok : eqOk C μ (k + 1) x y) : mix x y = false := by
  cases x <;> first | exact Bool.noConfusion f | skip
  all_goals cases y <;> first | exact Bool.noConfusion g | rfl | skip
  all_goals
    rcases ok with ⟨_, _, q⟩ | ⟨i, j, q, q2, _⟩
    · exact q
    · cases q
theorem eqNe (h : Hyp W X n C Wx) (ne : Bool) {dx dy : D} {x y : V} {u t : Value} {Q : VK} (I : Inv X pins σ H s) (st : St0 W e μ H) (hx : RepH W e H dx x) (hy : RepH W e H dy y) (rx : RelV x u) (ry : RelV y t)
    (q : Got W e H (resB ((eqD C dx dy μ).bind fun b m => .ok (b != ne) m)) Q (xkA Wx σ)) : wpAny (model X.prog X.w) X.A (compareOp (Ev4.opN ne) u t) (EP X pins σ Q) X.xe s := by
  have q1 := of_eqD (Aft.bind (Aft.bind q))
  obtain ⟨ok, fin⟩ := q1
  have done : ∀ b, (b = true ↔ dx = dy) → ∀ e' H', Ex e H e' H' → St0 W e' μ H' → Q (.bl (b != ne)) H' := by
    intro b hb e' H' x' st'
    have z := fin b hb e' H' x' st'
    have z := z e' H' (Ex.refl e' H') st'
    exact z e' H' (Ex.refl e' H') st' _ rfl
  obtain ⟨m, sb, hl⟩ := sub_here h
  obtain ⟨nx, ny⟩ := eqOk_nb ok
  have hx' : Rep W e dx x := RepH.of nx hx
  have hy' : Rep W e dy y := RepH.of ny hy
  obtain ⟨r1, r2⟩ := eq_run (pins := pins) (σ := σ) (μ := μ) h hl 7 X.A s H e dx dy x y u t sb I st hx' hy' rx ry ok
  by_cases hr : flat dx = true ∧ flat dy = true
  · have mx : mix dx dy = false := eqOk_mix hr.1 hr.2 ok
    have sc : scal x y = true ∧ (decide (x = y) = true ↔ dx = dy) := by
      obtain ⟨f, g⟩ := hr
      have m := mx
      cases dx with
      | non => cases (show x = .non from hx'); cases dy with
        | non => cases (show y = .non from hy'); simp [scal]
        | bl b => cases (show y = .bl b from hy'); simp [scal]
        | int b => cases (show y = .int b from hy'); simp [scal]
        | str b => cases (show y = .str b from hy'); simp [scal]
        | _ => cases g
      | bl a => cases (show x = .bl a from hx'); cases dy with
        | non => cases (show y = .non from hy'); simp [scal]
        | bl b => cases (show y = .bl b from hy'); simp [scal]
        | int b => cases m
        | str b => cases (show y = .str b from hy'); simp [scal]
        | _ => cases g
      | int a => cases (show x = .int a from hx'); cases dy with
        | non => cases (show y = .non from hy'); simp [scal]
        | bl b => cases m
        | int b => cases (show y = .int b from hy'); simp [scal]
        | str b => cases (show y = .str b from hy'); simp [scal]
        | _ => cases g
      | str a => cases (show x = .str a from hx'); cases dy with
        | non => cases (show y = .non from hy'); simp [scal]
        | bl b => cases (show y = .bl b from hy'); simp [scal]
        | int b => cases (show y = .int b from hy'); simp [scal]
        | str b => cases (show y = .str b from hy'); simp [scal]
        | _ => cases g
      | _ => cases f
    cases ne with
    | false => exact op_eq pins s σ H x y u t Q I rx ry ⟨sc.1, by simpa using done (decide (x = y)) sc.2 e H (Ex.refl e H) st⟩
    | true => exact op_ne pins s σ H x y u t Q I rx ry ⟨sc.1, by simpa using done (decide (x = y)) sc.2 e H (Ex.refl e H) st⟩
  · have rc := r2 hr ne
    have : compareOp (Ev4.opN ne) u t = richCompare (Ev4.opN ne) u t := by cases ne <;> rfl
    rw [this]
    refine wpAny_mono rc (fun r s' z => ?_) fun _ _ z => z
    obtain ⟨b, rfl, hb, e', H', I', x', st'⟩ := z
    exact ⟨.bl (b != ne), H', I', rfl, done b hb e' H' x' st'⟩
theorem cm_inst (h : Hyp W X n C Wx) (k : Cm) (hk : ordC k = true) {c : Nat} {xs ys : List D} {v w : V} {u t : Value} {Q : VK} (I : Inv X pins σ H s) (st : St0 W e μ H) (hx : Rep W e (.ins c xs) v) (hy : Rep W e (.ins c ys) w) (rv : RelV v u) (rw_ : RelV w t)
    (q : Got W e H (dcall C (CmM k) (.ins c xs) [.ins c ys] μ) Q (xkA Wx σ)) : wpAny (model X.prog X.w) X.A (compareOp (opC k) u t) (EP X pins σ Q) X.xe s := by
  obtain ⟨c', a, dx, gs, i, fa, rfl, rfl, hH, hcx, hi, cf, M, _, run⟩ := dcall_ok h I st hx (.cons hy .nil) rv (.cons rw_ .nil) q
  cases hcx
  obtain ⟨m, od, F, KX, J⟩ := inst_rule I hH
  obtain ⟨b, dy, gs', i', rfl, hH', _⟩ := inst_at st hy rfl
  cases rw_
  obtain ⟨m', od', F', KX', J'⟩ := inst_rule I hH'
  have ec : compareOp (opC k) (.ref a) (.ref b) = richCompare (opC k) (.ref a) (.ref b) := by cases k <;> first | rfl | cases hk
  have ed : an W.T (CmM k) = (cmpInfo (opC k)).2.1 := by cases k <;> first | exact h.txt.dun _ _ rfl | cases hk
  rw [ec]
  refine PySem.W.cmp_K (op := opC k) (tb := .ref (W.ca c)) (by have := h.room.un; omega) F KX J J'.type (by simp [PySem.W.notFirst]) (by rw [← ed]; exact M.at_) M.fn ?_
  refine wpAny_mono run (fun r s' z => ?_) fun _ _ z => z
  obtain ⟨v', H', I', r', q'⟩ := z
  have fin : EP X pins σ Q r s' := ⟨v', H', I', r', q'⟩
  cases v' with
  | non => cases r'; exact fin
  | bl b => cases r'; exact fin
  | int i => obtain ⟨t, rfl⟩ := r'; exact fin
  | str i => obtain ⟨t, rfl⟩ := r'; exact fin
  | byt i => obtain ⟨t, rfl⟩ := r'; exact fin
  | flt i => obtain ⟨t, rfl⟩ := r'; exact fin
  | ref a => cases r'; exact fin
  | ty a => cases r'; exact fin
theorem non_iff {dx : D} {x : V} (hx : RepH W e H dx x) : decide (x = .non) = isNon dx := by
  cases dx with
  | non => cases (show x = .non from hx); rfl
  | bl a => cases (show x = .bl a from hx); rfl
  | int a => cases (show x = .int a from hx); rfl
  | str a => cases (show x = .str a from hx); rfl
  | tup a => obtain ⟨_, _, rfl, _⟩ := hx; rfl
  | lst a => obtain ⟨_, _, rfl, _⟩ := hx; rfl
  | ins c a => obtain ⟨_, _, _, _, _, rfl, _⟩ := hx; rfl
  | obj a => obtain ⟨_, rfl, _⟩ := hx; rfl
  | bor _ _ => obtain ⟨_, _, rfl, _⟩ := hx; rfl
theorem cell_obj (st : St0 W e μ H) {o : Nat} {a : Addr} (g : e.r o = some a) : ∃ ob, H a = some ob ∧ isObj ob = true := by
  obtain ⟨b, hb, hr⟩ := st.cell o (μ[o]'(st.rn g)) (by rw [List.getElem?_eq_getElem (st.rn g)])
  rw [g] at hb; cases hb
  cases q : μ[o]'(st.rn g) with
  | lst zs => rw [q] at hr; obtain ⟨us, k1, _⟩ := hr; exact ⟨_, k1, rfl⟩
  | ins c zs => rw [q] at hr; obtain ⟨dx, gs, i, k1, _⟩ := hr; exact ⟨_, k1, rfl⟩
theorem cm_ok (h : Hyp W X n C Wx) (k : Cm) {dx dy : D} {x y : V} {u t : Value} {Q : VK} (I : Inv X pins σ H s) (st : St0 W e μ H) (hx : RepH W e H dx x) (hy : RepH W e H dy y) (rx : RelV x u) (ry : RelV y t)
    (q : Got W e H (evCm C k dx dy μ) Q (xkA Wx σ)) : wpAny (model X.prog X.w) X.A (compareOp (opC k) u t) (EP X pins σ Q) X.xe s := by
  have inst : ∀ {c c' : Nat} {xs ys : List D}, ordC k = true → dx = .ins c xs → dy = .ins c' ys → Got W e H (if c' = c then dcall C (CmM k) (.ins c xs) [.ins c' ys] μ else .stuck) Q (xkA Wx σ) → wpAny (model X.prog X.w) X.A (compareOp (opC k) u t) (EP X pins σ Q) X.xe s := by
    rintro c c' xs ys hk rfl rfl q
    by_cases z : c' = c
    · subst z
      rw [if_pos rfl] at q
      exact cm_inst h k hk I st hx hy rx ry q
    · rw [if_neg z] at q; exact q.elim
  cases k with
  | eq => exact eqNe h false I st hx hy rx ry (by
      have q : Got W e H (resB (eqD C dx dy μ)) Q (xkA Wx σ) := q
      have : (eqD C dx dy μ).bind (fun b m => Res.ok (b != false) m) = eqD C dx dy μ := by
        cases eqD C dx dy μ <;> simp [Res.bind]
      rw [this]; exact q)
  | ne => exact eqNe h true I st hx hy rx ry (by
      have q : Got W e H (resB ((eqD C dx dy μ).bind fun b m => .ok (!b) m)) Q (xkA Wx σ) := q
      have : (eqD C dx dy μ).bind (fun b m => Res.ok (b != true) m) = (eqD C dx dy μ).bind fun b m => .ok (!b) m := by
        cases eqD C dx dy μ <;> simp [Res.bind]
      rw [this]; exact q)
  | isd =>
    cases dy with
    | non =>
      refine op_isN pins s σ H x y u t Q I rx ry ⟨hy, ?_⟩
      rw [non_iff hx]
      exact Got.val (d := .bl (isNon dx)) (v := .bl (isNon dx)) (by cases dx <;> exact q) st rfl
    | bl b =>
      cases dx with
      | bl a =>
        cases (show x = .bl a from hx)
        cases (show y = .bl b from hy)
        cases rx; cases ry
        exact EvB.is_bool ⟨.bl (decide (a = b)), H, I, rfl, Got.val (d := .bl (decide (a = b))) q st rfl⟩
      | _ => exact q.elim
    | obj b =>
      cases dx with
      | obj a =>
        obtain ⟨p, rfl, hp⟩ := hx
        obtain ⟨r, rfl, hr⟩ := hy
        obtain ⟨oa, h1, h2⟩ := cell_obj st hp
        obtain ⟨ob, h3, h4⟩ := cell_obj st hr
        refine op_is_ref pins s σ H _ _ u t Q I rx ry ⟨p, r, oa, ob, rfl, rfl, h1, h2, h3, h4, ?_⟩
        have e1 : decide (p = r) = decide (a = b) := by
          rw [Bool.eq_iff_iff]; simp only [decide_eq_true_eq]
          exact ⟨fun z => st.inj a b p hp (by rw [z]; exact hr), fun z => by subst z; rw [hp] at hr; cases hr; rfl⟩
        rw [e1]; exact Got.val (d := .bl (decide (a = b))) q st rfl
      | _ => exact q.elim
    | _ => cases dx <;> exact q.elim
  | isn =>
    cases dy with
    | non =>
      refine op_notN pins s σ H x y u t Q I rx ry ⟨hy, ?_⟩
      rw [non_iff hx]
      exact Got.val (d := .bl (!isNon dx)) (v := .bl (!isNon dx)) (by cases dx <;> exact q) st rfl
    | bl b =>
      cases dx with
      | bl a =>
        cases (show x = .bl a from hx)
        cases (show y = .bl b from hy)
        cases rx; cases ry
        exact EvB.isnot_bool ⟨.bl (!decide (a = b)), H, I, rfl, Got.val (d := .bl (!decide (a = b))) q st rfl⟩
      | _ => exact q.elim
    | obj b =>
      cases dx with
      | obj a =>
        obtain ⟨p, rfl, hp⟩ := hx
        obtain ⟨r, rfl, hr⟩ := hy
        obtain ⟨oa, h1, h2⟩ := cell_obj st hp
        obtain ⟨ob, h3, h4⟩ := cell_obj st hr
        refine op_isnot_ref pins s σ H _ _ u t Q I rx ry ⟨p, r, oa, ob, rfl, rfl, h1, h2, h3, h4, ?_⟩
        have e1 : decide (p = r) = decide (a = b) := by
          rw [Bool.eq_iff_iff]; simp only [decide_eq_true_eq]
          exact ⟨fun z => st.inj a b p hp (by rw [z]; exact hr), fun z => by subst z; rw [hp] at hr; cases hr; rfl⟩
        rw [e1]; exact Got.val (d := .bl (!decide (a = b))) q st rfl
      | _ => exact q.elim
    | _ => cases dx <;> exact q.elim
  | lt =>
    cases dx with
    | int i => cases dy with
      | int j => exact op_lt pins s σ H x y u t Q I rx ry ⟨i, j, hx, hy, q.val st rfl⟩
      | _ => exact q.elim
    | ins c xs => cases dy with
      | ins c' ys => exact inst rfl rfl rfl q
      | _ => exact q.elim
    | _ => cases dy <;> exact q.elim
  | le =>
    cases dx with
    | int i => cases dy with
      | int j => exact op_le pins s σ H x y u t Q I rx ry ⟨i, j, hx, hy, q.val st rfl⟩
      | _ => exact q.elim
    | ins c xs => cases dy with
      | ins c' ys => exact inst rfl rfl rfl q
      | _ => exact q.elim
    | _ => cases dy <;> exact q.elim
  | gt =>
    cases dx with
    | int i => cases dy with
      | int j => exact op_gt pins s σ H x y u t Q I rx ry ⟨i, j, hx, hy, q.val st rfl⟩
      | _ => exact q.elim
    | ins c xs => cases dy with
      | ins c' ys => exact inst rfl rfl rfl q
      | _ => exact q.elim
    | _ => cases dy <;> exact q.elim
  | ge =>
    cases dx with
    | int i => cases dy with
      | int j => exact op_ge pins s σ H x y u t Q I rx ry ⟨i, j, hx, hy, q.val st rfl⟩
      | _ => exact q.elim
    | ins c xs => cases dy with
      | ins c' ys => exact inst rfl rfl rfl q
      | _ => exact q.elim
    | _ => cases dy <;> exact q.elim
  | inn => cases dx <;> cases dy <;> exact q.elim
  | nin => cases dx <;> cases dy <;> exact q.elim

theorem truth_ok (h : Hyp W X n C Wx) {dx : D} {x : V} {u : Value} {Q : Bool → Hp → Prop} (I : Inv X pins σ H s) (st : St0 W e μ H) (hx : RepH W e H dx x) (rx : RelV x u)
    (q : Aft W e H (truth C dx μ) (fun b _ _ H' => Q b H') (xkA Wx σ)) : wpAny (model X.prog X.w) X.A (truthy u) (TP X pins σ Q) X.xe s := by
  have base : ∀ b, TruV X.K x H b → Q b H → wpAny (model X.prog X.w) X.A (truthy u) (TP X pins σ Q) X.xe s := fun b h1 h2 => tru_ok pins s σ H x u Q I rx ⟨b, h1, h2⟩
  cases dx with
  | non => cases (show x = .non from hx); exact base false rfl (Aft.now q st)
  | bl a => cases (show x = .bl a from hx); exact base a rfl (Aft.now q st)
  | int a => cases (show x = .int a from hx); exact base (a != 0) rfl (by have := Aft.now q st; rw [show (a != 0) = decide (a ≠ 0) by simp [bne, Bool.beq_eq_decide_eq]]; exact this)
  | str a => exact q.elim
  | tup xs =>
    obtain ⟨a, vs, rfl, h1, h2⟩ := hx
    exact base (!vs.isEmpty) (.inr (.inl ⟨vs, by rw [h.K]; exact sqT_sub h1 st.sub, rfl⟩)) (by
      have := Aft.now q st
      have e1 : vs.isEmpty = xs.isEmpty := by rw [Bool.eq_iff_iff]; simp [List.isEmpty_iff, ← List.length_eq_zero_iff, h2.length]
      rw [e1]; exact this)
  | lst xs =>
    obtain ⟨a, vs, rfl, h1, h2⟩ := hx
    exact base (!vs.isEmpty) (.inl ⟨vs, by rw [h.K]; exact h1.sq st.sub, rfl⟩) (by
      have := Aft.now q st
      have e1 : vs.isEmpty = xs.isEmpty := by rw [Bool.eq_iff_iff]; simp [List.isEmpty_iff, ← List.length_eq_zero_iff, h2.length]
      rw [e1]; exact this)
  | bor _ xs =>
    obtain ⟨a, vs, rfl, h1, h2, _⟩ := hx
    exact base (!vs.isEmpty) (.inl ⟨vs, .of h1, rfl⟩) (by
      have := Aft.now q st
      have e1 : vs.isEmpty = xs.isEmpty := by rw [Bool.eq_iff_iff]; simp [List.isEmpty_iff, ← List.length_eq_zero_iff, h2.length]
      rw [e1]; exact this)
  | obj _ => exact q.elim
  | ins c fs =>
    have q : Aft W e H ((dcall C 11 (.ins c fs) [] μ).bind fun r m => (match r with | .bl b => .ok b m | _ => .stuck)) (fun b _ _ H' => Q b H') (xkA Wx σ) := q
    have q1 := Aft.bind q
    have q2 : Got W e H (dcall C 11 (.ins c fs) [] μ) (fun v H' => ∃ b, v = .bl b ∧ Q b H') (xkA Wx σ) := by
      refine Aft.imp q1 fun d m e' H' x' st' z v hv => ?_
      cases d with
      | bl b => exact ⟨b, hv, Aft.now z st'⟩
      | _ => exact z.elim
    obtain ⟨c', a, dx, gs, i, fa, rfl, rfl, hH, hcx, hi, cf, M, _, run⟩ := dcall_ok h I st hx .nil rx .nil q2
    obtain ⟨m, od, F, KX, J⟩ := inst_rule I hH
    refine PySem.W.truthy_K F KX J (by rw [← h.txt.dun 11 "__bool__" rfl]; exact M.at_) M.fn (wpAny_mono run (fun r s' z => ?_) fun _ _ z => z)
    obtain ⟨v', H', I', r', b, rfl, q'⟩ := z
    cases r'
    exact ⟨H', I', q'⟩

theorem neg_ok (h : Hyp W X n C Wx) {dx : D} {x : V} {u : Value} {Q : VK} (I : Inv X pins σ H s) (st : St0 W e μ H) (hx : RepH W e H dx x) (rx : RelV x u)
    (q : Got W e H (evNeg C dx μ) Q (xkA Wx σ)) : wpAny (model X.prog X.w) X.A (unaryOp .USub u) (EP X pins σ Q) X.xe s := by
  cases dx with
  | int i => exact un_neg pins s σ H x u Q I rx ⟨i, hx, q.val st rfl⟩
  | ins c fs =>
    obtain ⟨c', a, dx, gs, i, fa, rfl, rfl, hH, hcx, hi, cf, M, _, run⟩ := dcall_ok h I st hx .nil rx .nil q
    obtain ⟨m, od, F, KX, J⟩ := inst_rule I hH
    exact PySem.W.ksp_neg F KX J (by rw [← h.txt.dun 4 "__neg__" rfl]; exact M.at_) M.fn run
  | _ => exact q.elim
end
section
variable {prog : Program} {w : World} {A : Around} {E : Value → Shared → Prop} {s : Shared} {K : PySem.W.Frag} {x C L f : Addr} {h₀ : Heap} {m : Str → Option Value} {ox : Obj} {od : Option Obj}
theorem own_abs {Q : Value → Shared → Prop} (FR : Fr h₀ L s.heap m) (X₀ : K.In h₀) (I : PySem.W.InstAt s.heap x ox C od) (hs : PySem.W.findIn K (.ref C) "__abs__" = some (some (.ref f))) (hf : PySem.W.isFn K (.ref f) = true)
    (h : wpAny (model prog w) A.in1 (call (.ref f) [.ref x]) Q E s) : wpAny (model prog w) A (call (.builtin "abs") [.ref x]) Q E s := by
  refine Calls.call_function_entry kind_abs plain_abs entry_abs (args_abs _) ?_
  unfold Builtin.«abs»
  refine wpAny_bind (m := oneArg "abs" _) (wpAny_pure ?_)
  refine wpAny_bind (m := callSpecial? (.ref x) (Str.ofString "__abs__")) (PySem.W.special_fn (X₀.keeps FR.keep) I hs (beq_iff_eq.mp hf) (wpAny_mono h (fun r s' hr => ?_) fun _ _ y => y))
  exact wpAny_pure ⟨_, rfl, hr⟩
end
end Ev

set_option maxRecDepth 100000
set_option maxHeartbeats 2000000
namespace Ev
open PySem PySem.Spec PyProof.Rows L2
def rE (W : Wd) (C : Cl) (Wx : WX) (H0 : En) (a : E) : TE := fun σ H Q => ∃ e μ σd, St0 W e μ H ∧ Lo W e H0 σd σ H ∧ Aft W e H (evE C a σd μ) (fun d _ e' H' => ∀ v, RepH W e' H' d v → Q v H') (xkA Wx σ)
def rT (W : Wd) (C : Cl) (Wx : WX) (H0 : En) (a : T) : TT := fun σ H Q => ∃ e μ σd, St0 W e μ H ∧ Lo W e H0 σd σ H ∧ Aft W e H (evT C a σd μ) (fun b _ _ H' => Q b H') (xkA Wx σ)
def rA (W : Wd) (C : Cl) (Wx : WX) (H0 : En) (a : Es) : TA := fun σ H Q => ∃ e μ σd, St0 W e μ H ∧ Lo W e H0 σd σ H ∧ Aft W e H (evEs C a σd μ) (fun ds _ e' H' => ∀ vs, RepHL W e' H' ds vs → Q vs H') (xkA Wx σ)
section
variable {W : Wd} {X : Cx} {n : Nat} {C : Cl} {Wx : WX} {H0 : En} {pins : List (Addr × Obj)} {σ : L2.St} {H : Hp} {s : Shared} {e : Em} {μ : Mu} {a b c : Expr} {A B D' : E} {pos : Pos}
theorem rE.at {Q : VK} (st : St0 W e μ H) {σd : Sg} (lo : Lo W e H0 σd σ H) {R : D → Mu → Em → Hp → Prop} (q : Aft W e H (evE C A σd μ) R (xkA Wx σ))
    (k : ∀ d m e' H' v, Ex e H e' H' → St0 W e' m H' → Lo W e' H0 σd σ H' → R d m e' H' → RepH W e' H' d v → Q v H') : rE W C Wx H0 A σ H Q :=
  ⟨e, μ, σd, st, lo, q.imp fun d m e' H' x st' r v hv => k d m e' H' v x st' (lo.ex x) r hv⟩
theorem Got.of {r : Res D} {Q : VK} {E : XK} (q : Aft W e H r (fun d _ e' H' => ∀ v, RepH W e' H' d v → Q v H') E) : Got W e H r Q E := q.imp fun _ _ _ _ _ _ z v hv => z v (.to hv)
theorem snd_var {i : Nat} {x : Str} (hN : X.N[i]? = some x) (hv : Vis X.env.scope x) (hd : (x == ("__debug__" : Str)) = false) (hcd : (x == ("__classdict__" : Str)) = false) : PE X (.Name x pos) (rE W C Wx H0 (.var i)) := by
  refine ⟨fun pins s σ H Q I h => ?_⟩
  obtain ⟨e, μ, σd, st, lo, q⟩ := h
  refine (pe_var hN hv hd hcd).run pins s σ H Q I ?_
  have q : Aft W e H (getVar σd i μ) _ _ := q
  unfold getVar at q
  split at q
  · rename_i d hd
    obtain ⟨v, h1, h2⟩ := lo.at_ i _ hd
    exact ⟨v, h1, q.now st v (.to h2)⟩
  · rename_i xs hd
    obtain ⟨v, h1, a, vs, rfl, h2, h3, h4⟩ := lo.at_ i _ hd
    exact ⟨_, h1, q.now st _ ⟨a, vs, rfl, h2, h3, h4.2.1⟩⟩
  · exact q.elim
theorem snd_int {i : Int} {j} : PE X (.Constant (.int i) j pos) (rE W C Wx H0 (.lit (.int i))) :=
  ⟨fun pins s σ H Q I ⟨e, μ, σd, st, lo, q⟩ => pe_int.run pins s σ H Q I (q.now st _ rfl)⟩
theorem snd_bl {i : Bool} {j} : PE X (.Constant (.bool i) j pos) (rE W C Wx H0 (.lit (.bl i))) :=
  ⟨fun pins s σ H Q I ⟨e, μ, σd, st, lo, q⟩ => pe_bl.run pins s σ H Q I (q.now st _ rfl)⟩
theorem snd_non {j} : PE X (.Constant .none j pos) (rE W C Wx H0 (.lit .non)) :=
  ⟨fun pins s σ H Q I ⟨e, μ, σd, st, lo, q⟩ => pe_non.run pins s σ H Q I (q.now st _ rfl)⟩
theorem snd_str {i : Str} {j} : PE X (.Constant (.str i) j pos) (rE W C Wx H0 (.lit (.str i))) :=
  ⟨fun pins s σ H Q I ⟨e, μ, σd, st, lo, q⟩ => pe_str.run pins s σ H Q I (q.now st _ rfl)⟩
theorem snd_neg (h : Hyp W X n C Wx) (ha : PE X a (rE W C Wx H0 A)) : PE X (.UnaryOp .USub a pos) (rE W C Wx H0 (.neg A)) := by
  refine ⟨fun pins s σ H Q I ⟨e, μ, σd, st, lo, q⟩ => ?_⟩
  refine UnaryOp_ (thn (ha.run pins s σ H (fun x H1 => ∃ e1 μ1 dx, St0 W e1 μ1 H1 ∧ RepH W e1 H1 dx x ∧ Got W e1 H1 (evNeg C dx μ1) Q (xkA Wx σ)) I (rE.at st lo (Aft.bind q) fun d m e' H' v _ st' _ r hv => ⟨e', m, d, st', hv, .of r⟩)) fun v s1 ⟨x, H1, I1, r1, e1, μ1, dx, st1, hx, q1⟩ => ?_)
  exact neg_ok h I1 st1 hx r1 q1
theorem snd_two (f : D → D → Mu → Res D) (ha : PE X a (rE W C Wx H0 A)) (hb : PE X b (rE W C Wx H0 B)) {σd : Sg} {Q : VK} (I : Inv X pins σ H s) (st : St0 W e μ H) (lo : Lo W e H0 σd σ H)
    (q : Aft W e H ((evE C A σd μ).bind fun x m => (evE C B σd m).bind fun y m => f x y m) (fun d _ e' H' => ∀ v, RepH W e' H' d v → Q v H') (xkA Wx σ)) {α : Type} {Qf : α → Shared → Prop} {g : Value → Value → Sem α}
    (hf : ∀ v u s2 x y H2 e2 μ2 dx dy, Inv X pins σ H2 s2 → RelV x v → RelV y u → St0 W e2 μ2 H2 → Lo W e2 H0 σd σ H2 → RepH W e2 H2 dx x → RepH W e2 H2 dy y → Aft W e2 H2 (f dx dy μ2) (fun d _ e' H' => ∀ v, RepH W e' H' d v → Q v H') (xkA Wx σ) → wpAny (model X.prog X.w) X.A (g v u) Qf X.xe s2) :
    wpAny (model X.prog X.w) X.A (eval a X.env) (fun v s₁ => wpAny (model X.prog X.w) X.A (eval b X.env) (fun u s₂ => wpAny (model X.prog X.w) X.A (g v u) Qf X.xe s₂) X.xe s₁) X.xe s := by
  refine bin ha hb (R := fun x y H2 => ∃ e2 μ2 dx dy, St0 W e2 μ2 H2 ∧ Lo W e2 H0 σd σ H2 ∧ RepH W e2 H2 dx x ∧ RepH W e2 H2 dy y ∧ Aft W e2 H2 (f dx dy μ2) (fun d _ e' H' => ∀ v, RepH W e' H' d v → Q v H') (xkA Wx σ)) I ?_ fun v u s2 x y H2 I2 r1 r2 ⟨e2, μ2, dx, dy, st2, lo2, h1, h2, q2⟩ => hf v u s2 x y H2 e2 μ2 dx dy I2 r1 r2 st2 lo2 h1 h2 q2
  exact rE.at st lo (Aft.bind q) fun d m e' H' v _ st' lo' r hv => rE.at st' lo' (Aft.bind r) fun d2 m2 e2 H2 v2 x2 st2 lo2 r2 hv2 => ⟨e2, m2, d, d2, st2, lo2, hv.ex x2, hv2, r2⟩
theorem snd_bin (h : Hyp W X n C Wx) (k : B2) (ha : PE X a (rE W C Wx H0 A)) (hb : PE X b (rE W C Wx H0 B)) : PE X (.BinOp a (opB2 k) b pos) (rE W C Wx H0 (.bin k A B)) := by
  refine ⟨fun pins s σ H Q I ⟨e, μ, σd, st, lo, q⟩ => ?_⟩
  exact wpAny_BinOp (snd_two (evB2 C k) ha hb I st lo q fun v u s2 x y H2 e2 μ2 dx dy I2 r1 r2 st2 lo2 h1 h2 q2 => op_ok h k I2 st2 h1 h2 r1 r2 (.of q2))
theorem snd_cmp (h : Hyp W X n C Wx) (k : Cm) (ha : PE X a (rE W C Wx H0 A)) (hb : PE X b (rE W C Wx H0 B)) (hm : behindInMarks (opC k) b = false) : PE X (.Compare a [opC k] [b] pos) (rE W C Wx H0 (.cmp k A B)) := by
  refine ⟨fun pins s σ H Q I ⟨e, μ, σd, st, lo, q⟩ => ?_⟩
  exact wpAny_Compare1 (snd_two (evCm C k) ha hb I st lo q fun v u s2 x y H2 e2 μ2 dx dy I2 r1 r2 st2 lo2 h1 h2 q2 => cm_ok h k I2 st2 h1 h2 r1 r2 (.of q2)) hm
theorem sndT_cmp (h : Hyp W X n C Wx) (k : Cm) (ha : PE X a (rE W C Wx H0 A)) (hb : PE X b (rE W C Wx H0 B)) (hm : behindInMarks (opC k) b = false) : PT X (.Compare a [opC k] [b] pos) (rT W C Wx H0 (.e (.cmp k A B))) := by
  refine ⟨fun pins s σ H Q I ⟨e, μ, σd, st, lo, q⟩ => ?_⟩
  have q' : Aft W e H ((evE C A σd μ).bind fun x m => (evE C B σd m).bind fun y m => evCm C k x y m) (fun d m e' H' => Aft W e' H' (truth C d m) (fun b _ _ H' => Q b H') (xkA Wx σ)) (xkA Wx σ) := Aft.bind q
  refine wpAny_isTrue_Compare1 (snd_two (Q := fun v H' => ∃ e' m d, St0 W e' m H' ∧ RepH W e' H' d v ∧ Aft W e' H' (truth C d m) (fun b _ _ H' => Q b H') (xkA Wx σ)) (evCm C k) ha hb I st lo (q'.imp fun d m e' H' x st' z v hv => ⟨e', m, d, st', hv, z⟩) fun v u s2 x y H2 e2 μ2 dx dy I2 r1 r2 st2 lo2 h1 h2 q2 => ?_) hm
  refine thn (cm_ok h k I2 st2 h1 h2 r1 r2 (.of q2)) fun c s3 ⟨z, H3, I3, r3, e3, m3, d3, st3, h3, q3⟩ => ?_
  exact truth_ok h I3 st3 h3 r3 q3
theorem sndT_val (h : Hyp W X n C Wx) (ha : PE X a (rE W C Wx H0 A)) (he : ∀ whole, isTrue a X.env whole = (do let v ← whole; standAt a.pos; holding [v] (truthy v))) : PT X a (rT W C Wx H0 (.e A)) := by
  refine ⟨fun pins s σ H Q I ⟨e, μ, σd, st, lo, q⟩ => ?_⟩
  refine isTrue_plain (thn (ha.run pins s σ H (fun v H' => ∃ e' m d, St0 W e' m H' ∧ RepH W e' H' d v ∧ Aft W e' H' (truth C d m) (fun b _ _ H' => Q b H') (xkA Wx σ)) I (rE.at st lo (Aft.bind q) fun d m e' H' v _ st' _ r hv => ⟨e', m, d, st', hv, r⟩)) fun v s1 ⟨x, H1, I1, r1, e1, m1, d1, st1, h1, q1⟩ => ?_) (he _)
  exact truth_ok h I1 st1 h1 r1 q1
theorem sndT_not {t : T} (ha : PT X a (rT W C Wx H0 t)) : PT X (.UnaryOp .Not a pos) (rT W C Wx H0 (.not t)) := by
  refine ⟨fun pins s σ H Q I ⟨e, μ, σd, st, lo, q⟩ => ?_⟩
  refine isTrue_not (ha.run pins s σ H (fun c H1 => Q (!c) H1) I ⟨e, μ, σd, st, lo, (Aft.bind q).imp fun d m e' H' x st' z => z.now st'⟩)
theorem sndW_one {op : BoolOp} {t : T} (ha : PT X a (rT W C Wx H0 t)) : PW X (.BoolOp op [a] pos) (rT W C Wx H0 t) := by
  cases op
  · exact pw_and1 ha
  · exact pw_or1 ha
theorem sndW_and {t u : T} {rest : List Expr} (ha : PT X a (rT W C Wx H0 t)) (hb : PW X (.BoolOp .And (b :: rest) pos) (rT W C Wx H0 u)) : PW X (.BoolOp .And (a :: b :: rest) pos) (rT W C Wx H0 (.bop true t u)) := by
  refine ⟨fun wh pins s σ H Q I ⟨e, μ, σd, st, lo, q⟩ => ?_⟩
  refine (pw_and ha hb).run wh pins s σ H Q I ⟨e, μ, σd, st, lo, (Aft.bind q).imp fun d m e' H' x st' z => ?_⟩
  cases d with
  | true => exact ⟨e', m, σd, st', lo.ex x, z⟩
  | false => exact z.now st'
theorem sndW_or {t u : T} {rest : List Expr} (ha : PT X a (rT W C Wx H0 t)) (hb : PW X (.BoolOp .Or (b :: rest) pos) (rT W C Wx H0 u)) : PW X (.BoolOp .Or (a :: b :: rest) pos) (rT W C Wx H0 (.bop false t u)) := by
  refine ⟨fun wh pins s σ H Q I ⟨e, μ, σd, st, lo, q⟩ => ?_⟩
  refine (pw_or ha hb).run wh pins s σ H Q I ⟨e, μ, σd, st, lo, (Aft.bind q).imp fun d m e' H' x st' z => ?_⟩
  cases d with
  | true => exact z.now st'
  | false => exact ⟨e', m, σd, st', lo.ex x, z⟩
theorem snd_ite {t : T} (hc : PT X c (rT W C Wx H0 t)) (ha : PE X a (rE W C Wx H0 A)) (hb : PE X b (rE W C Wx H0 B)) : PE X (.IfExp c a b pos) (rE W C Wx H0 (.ite t A B)) := by
  refine ⟨fun pins s σ H Q I ⟨e, μ, σd, st, lo, q⟩ => ?_⟩
  refine (pe_ifExp hc ha hb).run pins s σ H Q I ⟨e, μ, σd, st, lo, (Aft.bind q).imp fun d m e' H' x st' z => ?_⟩
  cases d with
  | true => exact ⟨e', m, σd, st', lo.ex x, z⟩
  | false => exact ⟨e', m, σd, st', lo.ex x, z⟩
theorem snd_one {op : BoolOp} (ha : PE X a (rE W C Wx H0 A)) : PE X (.BoolOp op [a] pos) (rE W C Wx H0 A) := pe_one ha
theorem truth2 (h : Hyp W X n C Wx) {dx : D} {x : V} {u : Value} {R : Bool → Mu → Em → Hp → Prop} (I : Inv X pins σ H s) (st : St0 W e μ H) (hx : RepH W e H dx x) (rx : RelV x u)
    (q : Aft W e H (truth C dx μ) R (xkA Wx σ)) (k : ∀ b s', (∃ H' e' m, Inv X pins σ H' s' ∧ Ex e H e' H' ∧ St0 W e' m H' ∧ R b m e' H') → True) :
    wpAny (model X.prog X.w) X.A (truthy u) (fun b s' => ∃ H' e' m, Inv X pins σ H' s' ∧ Ex e H e' H' ∧ St0 W e' m H' ∧ R b m e' H') X.xe s := by
  refine thn (truth_ok (Q := fun b H' => ∃ e' m, Ex e H e' H' ∧ St0 W e' m H' ∧ R b m e' H') h I st hx rx (q.imp fun b m e' H' x st' z => ⟨e', m, x, st', z⟩)) fun b s' ⟨H', I', e', m, z⟩ => ⟨H', e', m, I', z⟩
theorem snd_and (h : Hyp W X n C Wx) {rest : List Expr} (ha : PE X a (rE W C Wx H0 A)) (hb : PE X (.BoolOp .And (b :: rest) pos) (rE W C Wx H0 B)) : PE X (.BoolOp .And (a :: b :: rest) pos) (rE W C Wx H0 (.bop true A B)) := by
  refine ⟨fun pins s σ H Q I ⟨e, μ, σd, st, lo, q⟩ => ?_⟩
  refine BoolOp_and (thn (ha.run pins s σ H (fun v H' => ∃ e' m d, St0 W e' m H' ∧ Lo W e' H0 σd σ H' ∧ RepH W e' H' d v ∧ Aft W e' H' ((truth C d m).bind fun t m => if t = true then evE C B σd m else .ok d m) (fun d _ e' H' => ∀ v, RepH W e' H' d v → Q v H') (xkA Wx σ)) I (rE.at st lo (Aft.bind q) fun d m e' H' v _ st' lo' r hv => ⟨e', m, d, st', lo', hv, r⟩)) fun v s1 ⟨x, H1, I1, r1, e1, m1, d1, st1, lo1, h1, q1⟩ => ?_)
  refine thn (truth2 h I1 st1 h1 r1 (Aft.bind q1) fun _ _ _ => trivial) fun b s2 ⟨H2, e2, m2, I2, x2, st2, q2⟩ => ?_
  cases b with
  | true => exact hb.run pins s2 σ H2 Q I2 ⟨e2, m2, σd, st2, lo1.ex x2, q2⟩
  | false => exact ⟨x, H2, I2, r1, q2.now st2 x (h1.ex x2)⟩
theorem snd_or (h : Hyp W X n C Wx) {rest : List Expr} (ha : PE X a (rE W C Wx H0 A)) (hb : PE X (.BoolOp .Or (b :: rest) pos) (rE W C Wx H0 B)) : PE X (.BoolOp .Or (a :: b :: rest) pos) (rE W C Wx H0 (.bop false A B)) := by
  refine ⟨fun pins s σ H Q I ⟨e, μ, σd, st, lo, q⟩ => ?_⟩
  refine BoolOp_or (thn (ha.run pins s σ H (fun v H' => ∃ e' m d, St0 W e' m H' ∧ Lo W e' H0 σd σ H' ∧ RepH W e' H' d v ∧ Aft W e' H' ((truth C d m).bind fun t m => if t = false then evE C B σd m else .ok d m) (fun d _ e' H' => ∀ v, RepH W e' H' d v → Q v H') (xkA Wx σ)) I (rE.at st lo (Aft.bind q) fun d m e' H' v _ st' lo' r hv => ⟨e', m, d, st', lo', hv, r⟩)) fun v s1 ⟨x, H1, I1, r1, e1, m1, d1, st1, lo1, h1, q1⟩ => ?_)
  refine thn (truth2 h I1 st1 h1 r1 (Aft.bind q1) fun _ _ _ => trivial) fun b s2 ⟨H2, e2, m2, I2, x2, st2, q2⟩ => ?_
  cases b with
  | true => exact ⟨x, H2, I2, r1, q2.now st2 x (h1.ex x2)⟩
  | false => exact hb.run pins s2 σ H2 Q I2 ⟨e2, m2, σd, st2, lo1.ex x2, q2⟩
theorem snd_not (h : Hyp W X n C Wx) (ha : PE X a (rE W C Wx H0 A)) : PE X (.UnaryOp .Not a pos) (rE W C Wx H0 (.not A)) := by
  refine ⟨fun pins s σ H Q I ⟨e, μ, σd, st, lo, q⟩ => ?_⟩
  refine UnaryOp_ (thn (ha.run pins s σ H (fun v H' => ∃ e' m d, St0 W e' m H' ∧ RepH W e' H' d v ∧ Aft W e' H' ((truth C d m).bind fun t m => .ok (.bl (!t)) m) (fun d _ e' H' => ∀ v, RepH W e' H' d v → Q v H') (xkA Wx σ)) I (rE.at st lo (Aft.bind q) fun d m e' H' v _ st' lo' r hv => ⟨e', m, d, st', hv, r⟩)) fun v s1 ⟨x, H1, I1, r1, e1, m1, d1, st1, h1, q1⟩ => ?_)
  refine not_of (thn (truth2 h I1 st1 h1 r1 (Aft.bind q1) fun _ _ _ => trivial) fun b s2 ⟨H2, e2, m2, I2, x2, st2, q2⟩ => ?_)
  exact ⟨.bl (!b), H2, I2, rfl, q2.now st2 _ rfl⟩
theorem snd_chain (h : Hyp W X n C Wx) (k k' : Cm) (ha : PE X a (rE W C Wx H0 A)) (hb : PE X b (rE W C Wx H0 B)) (hc : PE X c (rE W C Wx H0 D')) (hm : lastMarks [opC k, opC k'] [b, c] = false) :
    PE X (.Compare a [opC k, opC k'] [b, c] pos) (rE W C Wx H0 (.chain k k' A B D')) := by
  refine ⟨fun pins s σ H Q I ⟨e, μ, σd, st, lo, q⟩ => ?_⟩
  refine Compare_chain (thn (ha.run pins s σ H (fun v H' => ∃ e' m d, St0 W e' m H' ∧ Lo W e' H0 σd σ H' ∧ RepH W e' H' d v ∧ Aft W e' H' _ _ (xkA Wx σ)) I (rE.at st lo (Aft.bind q) fun d m e' H' v _ st' lo' r hv => ⟨e', m, d, st', lo', hv, r⟩)) fun v s1 ⟨x, H1, I1, r1, e1, m1, d1, st1, lo1, h1, q1⟩ => chain_link ?_) hm
  refine thn (hb.run pins s1 σ H1 (fun v H' => ∃ e' m d, St0 W e' m H' ∧ Lo W e' H0 σd σ H' ∧ RepH W e' H' d1 x ∧ RepH W e' H' d v ∧ Aft W e' H' _ _ (xkA Wx σ)) I1 (rE.at st1 lo1 (Aft.bind q1) fun d m e' H' v x' st' lo' r hv => ⟨e', m, d, st', lo', h1.ex x', hv, r⟩)) fun u s2 ⟨y, H2, I2, r2, e2, m2, d2, st2, lo2, h1', h2, q2⟩ => ?_
  refine thn (cm_ok (Q := fun z H' => ∃ e' m b, z = .bl b ∧ Ex e2 H2 e' H' ∧ St0 W e' m H' ∧ Aft W e' H' (if b = true then (evE C D' σd m).bind fun z m => evCm C k' d2 z m else .ok (.bl false) m) (fun d _ e' H' => ∀ v, RepH W e' H' d v → Q v H') (xkA Wx σ)) h k I2 st2 h1' h2 r1 r2 ((Aft.bind q2).imp fun d m e' H' x st' z v hv => ?_)) fun d s3 ⟨z, H3, I3, r3, e3, m3, b, eb, x3, st3, q3⟩ => ?_
  · cases d with
    | bl b =>
      cases b with
      | true => exact ⟨e', m, true, hv, x, st', z⟩
      | false => exact ⟨e', m, false, hv, x, st', z⟩
    | _ => exact z.elim
  · subst eb
    cases r3
    refine wpAny_truthy_bool ?_
    cases b with
    | false => exact ite_ff ⟨.bl false, H3, I3, rfl, q3.now st3 _ rfl⟩
    | true =>
      refine ite_tt (chain_last (thn (hc.run pins s3 σ H3 (fun v H' => ∃ e' m d, St0 W e' m H' ∧ RepH W e' H' d2 y ∧ RepH W e' H' d v ∧ Aft W e' H' _ _ (xkA Wx σ)) I3 (rE.at st3 (lo2.ex x3) (Aft.bind q3) fun d m e' H' v x' st' lo' r hv => ⟨e', m, d, st', (h2.ex x3).ex x', hv, r⟩)) fun w' s4 ⟨z', H4, I4, r4, e4, m4, d4, st4, h2', h4, q4⟩ => ?_))
      exact cm_ok h k' I4 st4 h2' h4 r2 r4 (.of q4)
end
end Ev

set_option maxRecDepth 100000
set_option maxHeartbeats 2000000
namespace Ev
open PySem PySem.Spec PyProof.Rows L2
section
variable {W : Wd} {X : Cx} {n : Nat} {C : Cl} {Wx : WX} {H0 : En} {pins : List (Addr × Obj)} {σ : L2.St} {H : Hp} {s : Shared} {e : Em} {μ : Mu} {a b c : Expr} {A B D' : E} {pos : Pos}
def noStar : Expr → Bool
  | .Starred _ _ => false
  | _ => true
theorem star_no {x : Expr} {es : List Expr} {env : Env} (h : noStar x = true) : starEach (x :: es) env = (false, eval x env) :: starEach es env := by
  cases x <;> first | rfl | cases h
theorem any_no {es : List Expr} {env : Env} {pos : Pos} (h : es.all noStar = true) : (backTo pos (starEach es env)).any (·.1) = false := by
  induction es with
  | nil => rfl
  | cons x es ih =>
    rw [List.all_cons, Bool.and_eq_true] at h
    rw [star_no h.1]
    show (false || (backTo pos (starEach es env)).any (·.1)) = false
    rw [ih h.2]; rfl
theorem items_at (h : Hyp W X n C Wx) (st : St0 W e μ H) {d : D} {v : V} {xs : List D} (hd : RepH W e H d v) (hi : items μ d = some xs) : ∃ p vs, v = .ref p ∧ (SqT X.K H p vs ∨ SqL X.K H p vs) ∧ RepL W e xs vs := by
  cases d with
  | tup ys =>
    cases hi
    obtain ⟨p, vs, rfl, h1, h2⟩ := hd
    exact ⟨p, vs, rfl, .inl (by rw [h.K]; exact sqT_sub h1 st.sub), h2⟩
  | lst ys =>
    cases hi
    obtain ⟨p, vs, rfl, h1, h2⟩ := hd
    exact ⟨p, vs, rfl, .inr (by rw [h.K]; exact h1.sq st.sub), h2⟩
  | bor k ys =>
    cases hi
    obtain ⟨p, vs, rfl, h1, h2, _⟩ := hd
    exact ⟨p, vs, rfl, .inr (.of h1), h2⟩
  | obj o =>
    obtain ⟨p, rfl, hp⟩ := hd
    have hi : (match μ[o]? with | some (.lst xs) => some xs | _ => none) = some xs := hi
    cases q : μ[o]? with
    | none => rw [q] at hi; cases hi
    | some so =>
      rw [q] at hi
      cases so with
      | ins _ _ => cases hi
      | lst ys =>
        cases hi
        obtain ⟨p', hp', vs, h1, h2⟩ := st.cell o _ q
        rw [hp] at hp'; cases hp'
        exact ⟨p, vs, rfl, .inr (.of h1), h2⟩
  | _ => cases hi
theorem snd_nil : PA X [] (rA W C Wx H0 .nil) := ⟨fun pos pins s σ H Q I ⟨e, μ, σd, st, lo, q⟩ => pa_nil.run pos pins s σ H Q I (q.now st [] rfl)⟩
theorem snd_cons {x : Expr} {es : List Expr} {ys : Es} (hs : noStar x = true) (ha : PE X x (rE W C Wx H0 A)) (hr : PA X es (rA W C Wx H0 ys)) : PA X (x :: es) (rA W C Wx H0 (.cons false A ys)) := by
  refine ⟨fun pos pins s σ H Q I ⟨e, μ, σd, st, lo, q⟩ => ?_⟩
  refine (pa_cons ha hr (star_no hs)).run pos pins s σ H Q I (rE.at st lo (Aft.bind q) fun d m e' H' v x st' lo' r hv => ?_)
  exact ⟨e', m, σd, st', lo', (Aft.bind r).imp fun ds m2 e2 H2 x2 st2 r2 vs hvs => r2.now st2 _ ⟨v, vs, rfl, hv.ex x2, hvs⟩⟩
theorem snd_star (h : Hyp W X n C Wx) {x : Expr} {es : List Expr} {ys : Es} {p : Pos} (ha : PE X x (rE W C Wx H0 A)) (hr : PA X es (rA W C Wx H0 ys)) : PA X (.Starred x p :: es) (rA W C Wx H0 (.cons true A ys)) := by
  refine ⟨fun pos pins s σ H Q I ⟨e, μ, σd, st, lo, q⟩ => ?_⟩
  refine (StX.pa_star ha hr).run pos pins s σ H Q I (rE.at st lo (Aft.bind q) fun d m e' H' v x st' lo' r hv => ?_)
  have r : Aft W e' H' (match items m d with | some xs => (evEs C ys σd m).bind fun ys m => .ok (xs ++ ys) m | none => .stuck) (fun ds _ e' H' => ∀ vs, RepHL W e' H' ds vs → Q vs H') (xkA Wx σ) := r
  cases hi : items m d with
  | none => rw [hi] at r; exact r.elim
  | some xs =>
    rw [hi] at r
    obtain ⟨p, vs, rfl, h1, h2⟩ := items_at h st' hv hi
    exact ⟨p, vs, rfl, h1, e', m, σd, st', lo', (Aft.bind r).imp fun ds m2 e2 H2 x2 st2 r2 ws hws => r2.now st2 _ (RepHL.append (RepHL.to (h2.ex x2)) hws)⟩
theorem rA.at {Q : List V → Hp → Prop} {ys : Es} (st : St0 W e μ H) {σd : Sg} (lo : Lo W e H0 σd σ H) {R : List D → Mu → Em → Hp → Prop} (q : Aft W e H (evEs C ys σd μ) R (xkA Wx σ))
    (k : ∀ d m e' H' v, Ex e H e' H' → St0 W e' m H' → Lo W e' H0 σd σ H' → R d m e' H' → RepHL W e' H' d v → Q v H') : rA W C Wx H0 ys σ H Q :=
  ⟨e, μ, σd, st, lo, q.imp fun d m e' H' x st' r v hv => k d m e' H' v x st' (lo.ex x) r hv⟩
theorem lim_le {k : Nat} (h : lim k = true) : k ≤ sizeLine := by
  have := of_decide_eq_true h
  rw [sizeLine_eq]; exact this
theorem snd_tup {x1} {es : List Expr} {ys : Es} (ha : PA X es (rA W C Wx H0 ys)) : PE X (.Tuple es x1 pos) (rE W C Wx H0 (.tup ys)) := by
  refine ⟨fun pins s σ H Q I ⟨e, μ, σd, st, lo, q⟩ => ?_⟩
  refine (pe_tup ha).run pins s σ H Q I (rA.at st lo (Aft.bind q) fun d m e' H' v x st' lo' r hv => ?_)
  have r : Aft W e' H' (if (lim d.length && d.all nbD) = true then .ok (.tup d) m else .stuck) (fun d _ e' H' => ∀ v, RepH W e' H' d v → Q v H') (xkA Wx σ) := r
  split at r
  · rename_i z
    rw [Bool.and_eq_true] at z
    have hr := RepHL.of z.2 hv
    exact ⟨by rw [hr.length]; exact lim_le z.1, Got.newT (Got.of r) st' hr⟩
  · exact r.elim
theorem snd_lst {es : List Expr} {ys : Es} (ha : PA X es (rA W C Wx H0 ys)) : PE X (.List es pos) (rE W C Wx H0 (.lst ys)) := by
  refine ⟨fun pins s σ H Q I ⟨e, μ, σd, st, lo, q⟩ => ?_⟩
  refine (pe_lst ha).run pins s σ H Q I (rA.at st lo (Aft.bind q) fun d m e' H' v x st' lo' r hv => ?_)
  have r : Aft W e' H' (if (lim d.length && d.all nbD) = true then .ok (.lst d) m else .stuck) (fun d _ e' H' => ∀ v, RepH W e' H' d v → Q v H') (xkA Wx σ) := r
  split at r
  · rename_i z
    rw [Bool.and_eq_true] at z
    have hr := RepHL.of z.2 hv
    exact ⟨by rw [hr.length]; exact lim_le z.1, Got.newL (Got.of r) st' hr⟩
  · exact r.elim
theorem snd_cell {es : List Expr} {ys : Es} (ha : PA X es (rA W C Wx H0 ys)) : PE X (.List es pos) (rE W C Wx H0 (.cell ys)) := by
  refine ⟨fun pins s σ H Q I ⟨e, μ, σd, st, lo, q⟩ => ?_⟩
  refine (pe_lst ha).run pins s σ H Q I (rA.at st lo (Aft.bind q) fun d m e' H' v x st' lo' r hv => ?_)
  have r : Aft W e' H' (if (lim d.length && d.all nbD) = true then .ok (.obj m.length) (m ++ [.lst d]) else .stuck) (fun d _ e' H' => ∀ v, RepH W e' H' d v → Q v H') (xkA Wx σ) := r
  split at r
  · rename_i z
    rw [Bool.and_eq_true] at z
    have hr := RepHL.of z.2 hv
    refine ⟨by rw [hr.length]; exact lim_le z.1, fun p hp => ?_⟩
    obtain ⟨e2, x2, st2, h1, h2⟩ := st'.celled (so := .lst d) (H' := upd H' p (.lst v)) (o := .lst v) hp upd_same (fun b u q => by rw [upd_ne (ne_of_none q hp)]; exact q) fun e2 x2 => ⟨v, upd_same, hr.ex x2⟩
    exact r e2 _ x2 st2 _ ⟨p, rfl, h1⟩
  · exact r.elim

def baseOk : Expr → Bool
  | .Call (.Name _ _) [] [] _ => false
  | _ => true
theorem base_ok {o : Expr} {f : Str} {env : Env} (h : baseOk o = true) : attributeBase o f env (eval o env) = eval o env := by
  unfold attributeBase
  split
  · cases h
  · rfl
theorem find_flds {ks : List Nat} {k j : Nat} (h : ks.findIdx? (· == k) = some j) : ks[j]? = some k := by
  rw [List.findIdx?_eq_some_iff_getElem] at h
  obtain ⟨h1, h2, _⟩ := h
  rw [List.getElem?_eq_getElem h1]
  simp at h2
  rw [h2]
theorem noExc_aft {α : Type} {r : Res α} {K : α → Mu → Em → Hp → Prop} {E E' : XK} (q : Aft W e H (noExc r) K E) : Aft W e H r K E' := by
  cases r with
  | ok a m => exact q
  | exc c fs m => exact q.elim
  | stuck => exact q.elim
theorem prop_run (h : Hyp W X n C Wx) {cc g p : Addr} {fl : Str} {dx : Addr} {gs : List (Str × V)} {a : Addr} {bb : Bool} {fd : FuncData} {ps : List Str} {sp : Sp} {k : Nat} {vs : List V} {us : List Value} {Q : VK} {E' : Value → Shared → Prop} (I : Inv X pins σ H s) (hH : H a = some (.ins cc dx gs)) (cl : Cls X.K cc) (hP : PropOf X.K cc fl p g)
    (F : FnG C.hot X.prog X.w X.K X.mg X.base (L2N.CX X.prog X.w) k g fd ps sp) (hr : L2H.RoomH (k + 1) X.A) (hb : Binds X.K fd ps us) (hv : Vals vs us) (hsp : sp (.ref a :: vs) H Q fun _ _ _ => False) :
    wpAny (model X.prog X.w) X.A (getAttr (.ref a) fl bb) (EP X pins σ Q) E' s := by
  obtain ⟨_, O, _⟩ := ins_get I.hok hH
  obtain ⟨_, J, _⟩ := O.look
  obtain ⟨_, hrec⟩ := hP.rec_
  have I1 := I.tok (s.toks + 1)
  have lens : ([Value.ref a] ++ us).length = ps.length := by
    have e1 := F.len _ _ _ _ hsp
    have e2 := hv.length
    rw [← e1]
    simp [e2]
  have some_ : (PySem.W.clsIn X.K cc).isSome = true := by
    obtain ⟨_, hc, _⟩ := PySem.W.any_some cl.hd
    rw [hc]; rfl
  have pg := PySem.W.plainGet_of (cl.get fl)
  refine PySem.W.get_bind I.kIn J pg.1 (PySem.W.findObj_data some_ hP.at_ hP.get hP.tak) pg.2 ?_
  refine wpAny_call (PySem.W.prop_get (s := { s with toks := s.toks + 1 }) I.kIn hrec ?_)
  have run := F.run X.A.in1 X.stack { s with toks := s.toks + 1 } H ⟨[.ref a], []⟩ (.ref a :: us) (.ref a :: vs) Q _ h.guards (RoomH.in1 hr) (h.lull rfl I1) I1.env0.in1 (hb _ [.ref a] I1.kIn lens) (.cons rfl hv) hsp
  refine codeAny_mono run fun r s' hq => ?_
  cases r with
  | error er =>
    obtain ⟨_, _, _, _, _, _, _, _, _, _, _, _, z⟩ := hq
    exact z.elim
  | ok fl2 =>
    cases fl2 with
    | ret u =>
      obtain ⟨v, H', I3, rv, q3⟩ := I1.after hq
      have e := PySem.W.handedOut_of (handed_of rv)
      show wpAny (model X.prog X.w) _ (handedOut u) _ E' s'
      rw [e]
      exact wpAny_pure ⟨v, H', I3, rv, q3⟩
    | next => exact hq.elim
    | brk => exact hq.elim
    | cont => exact hq.elim
theorem prop_ok (h : Hyp W X n C Wx) {c k f : Nat} {i : ClI} {d : D} {a dx : Addr} {gs : List (Str × V)} {bb : Bool} {Q : VK} (I : Inv X pins σ H s) (st : St0 W e μ H) (hd : Rep W e d (.ref a)) (hH : H a = some (.ins (W.ca c) dx gs)) (hi : W.T.cls[c]? = some i) (hx : i.isexc = false)
    (hp : i.props.lookup k = some f) (q : Got W e H (noExc (C.low f [d] μ)) Q (xkA Wx σ)) : wpAny (model X.prog X.w) X.A (getAttr (.ref a) (an W.T k) bb) (EP X pins σ Q) X.xe s := by
  have cf := h.txt.cls c i hi hx
  obtain ⟨j, p, hj, hP⟩ := cf.prop k f hp
  rcases h.low with hs | ⟨k0, hk0, hF⟩
  · rw [hs] at q; exact q.elim
  · rcases hF f [d] μ with z | ⟨j', hj', ho, fp⟩
    · rw [z] at q; exact q.elim
    · rw [hj] at hj'; cases hj'
      have q2 : Got W e H (C.low f [d] μ) Q (fun _ _ _ => False) := noExc_aft q
      have ha : ∃ a, argsOf j [d] = some a := by
        cases z : argsOf j [d] with
        | some a => exact ⟨a, rfl⟩
        | none => rw [fp.miss _ μ z] at q2; exact q2.elim
      obtain ⟨us, ha⟩ := ha
      obtain ⟨l1, l2, ea, la⟩ := argsOf_full ha
      obtain ⟨fd, ok, bi⟩ := fp.ok
      obtain ⟨dd, dvs, rv, rl, bd⟩ := bi ([d].length + j.dfl.length - j.np) (by omega)
      have F' : FnG C.hot X.prog X.w X.K X.mg X.base (L2N.CX X.prog X.w) (k0 + 34) (fadr W.K W.T j.loc) fd (j.names.take j.np) (spF W j.np (C.low f)) := by rw [h.prog, h.w, h.K, h.mg, h.base]; exact ok
      refine prop_run h I hH (by rw [h.K]; exact cf.cls) (by rw [h.K]; exact hP) F' (h.room.mono (by omega)) (by rw [h.K]; exact bd) rv ⟨e, μ, us, ?_, st, ?_, ?_⟩
      · have := (rl e).length
        rw [List.length_drop] at this
        simp only [List.length_cons, List.length_nil] at this l1 l2 ⊢
        omega
      · rw [ea]; exact RepL.append (.cons hd .nil) (rl e)
      · rw [fp.fill _ μ us ha] at q2; exact q2
theorem getAt_ok (h : Hyp W X n C Wx) {k : Nat} {d : D} {v : V} {u : Value} {bb : Bool} {Q : VK} (I : Inv X pins σ H s) (st : St0 W e μ H) (hd : RepH W e H d v) (rv : RelV v u) (q : Got W e H (getAt C d k μ) Q (xkA Wx σ)) :
    wpAny (model X.prog X.w) X.A (getAttr u (an W.T k) bb) (EP X pins σ Q) X.xe s := by
  cases d with
  | ins c fs =>
    obtain ⟨a, dx, gs, vs, i, rfl, h1, h2, h3, h4, h5⟩ := id hd
    cases rv
    have cf := h.txt.cls c i h2 h3
    have q : Got W e H (match prp C.T c k with | some f => noExc (C.low f [.ins c fs] μ) | none => (match (fix C.T c k).bind fun j => fs[j]? with | some v => .ok v μ | none => .stuck)) Q (xkA Wx σ) := q
    have ep : prp C.T c k = i.props.lookup k := by unfold prp; rw [h.T, h2]; rfl
    rw [ep] at q
    cases hp : i.props.lookup k with
    | some f => rw [hp] at q; exact prop_ok h I st hd (st.sub _ _ h1) h2 h3 hp q
    | none =>
      rw [hp] at q
      have ef : fix C.T c k = i.flds.findIdx? (· == k) := by unfold fix; rw [h.T, h2]; rfl
      rw [ef] at q
      have q : Got W e H (match (i.flds.findIdx? (· == k)).bind fun j => fs[j]? with | some v => .ok v μ | none => .stuck) Q (xkA Wx σ) := q
      cases hj : i.flds.findIdx? (· == k) with
      | none => rw [hj] at q; exact q.elim
      | some j =>
        rw [hj] at q
        have q : Got W e H (match fs[j]? with | some v => .ok v μ | none => .stuck) Q (xkA Wx σ) := q
        cases hv : fs[j]? with
        | none => rw [hv] at q; exact q.elim
        | some d' =>
          rw [hv] at q
          have hk := find_flds hj
          obtain ⟨w, hw1, hw2⟩ := h4.at_ j k hk
          obtain ⟨w', hw3, hw4⟩ := h5.get hv
          rw [hw1] at hw3; cases hw3
          refine getattr_ok I (st.sub _ _ h1) (by rw [h.K]; exact cf.cls) (by rw [h.K]; exact cf.no k (List.mem_of_getElem? hk)) hw2 fun u' s2 I2 ru => ?_
          exact ⟨w, H, I2, ru, Got.val q st hw4⟩
  | obj o =>
    obtain ⟨a, rfl, ha⟩ := id hd
    cases rv
    have q : Got W e H (match μ[o]? with | some (.ins c fs) => (match prp C.T c k with | some f => noExc (C.low f [.obj o] μ) | none => (match fs.lookup k with | some v => .ok v μ | none => .stuck)) | _ => .stuck) Q (xkA Wx σ) := q
    cases hc : μ[o]? with
    | none => rw [hc] at q; exact q.elim
    | some so =>
      rw [hc] at q
      cases so with
      | lst _ => exact q.elim
      | ins c fs =>
        have q : Got W e H (match prp C.T c k with | some f => noExc (C.low f [.obj o] μ) | none => (match fs.lookup k with | some v => .ok v μ | none => .stuck)) Q (xkA Wx σ) := q
        obtain ⟨a', ha', dx, gs, i, h1, h2, h3, h4, h5⟩ := st.cell o _ hc
        rw [ha] at ha'; cases ha'
        have cf := h.txt.cls c i h2 h3
        have ep : prp C.T c k = i.props.lookup k := by unfold prp; rw [h.T, h2]; rfl
        rw [ep] at q
        cases hp : i.props.lookup k with
        | some f => rw [hp] at q; exact prop_ok h I st hd h1 h2 h3 hp q
        | none =>
          rw [hp] at q
          have q : Got W e H (match fs.lookup k with | some v => .ok v μ | none => .stuck) Q (xkA Wx σ) := q
          cases hv : fs.lookup k with
          | none => rw [hv] at q; exact q.elim
          | some d' =>
            rw [hv] at q
            obtain ⟨hk, w, hw1, hw2⟩ := h4.at_ k d' hv
            refine getattr_ok I h1 (by rw [h.K]; exact cf.cls) (by rw [h.K]; exact cf.no k hk) hw1 fun u' s2 I2 ru => ?_
            exact ⟨w, H, I2, ru, Got.val q st hw2⟩
  | _ => exact q.elim
theorem snd_attr (h : Hyp W X n C Wx) (pn : Pn W X C H0) {k : Nat} {f : Str} (hf : an W.T k = f) (hb : baseOk a = true) (ha : PE X a (rE W C Wx H0 A)) (hv : ∀ i, A.isVar = some i → ∃ x p, a = .Name x p ∧ X.N[i]? = some x ∧ Vis X.env.scope x ∧ (x == ("__debug__" : Str)) = false ∧ (x == ("__classdict__" : Str)) = false) :
    PE X (.Attribute a f pos) (rE W C Wx H0 (.attr A k)) := by
  subst hf
  refine ⟨fun pins s σ H Q I ⟨e, μ, σd, st, lo, q⟩ => ?_⟩
  have q : Aft W e H (match A.isVar.bind fun i => getSelf σd i with | some fs => (match fs.lookup k with | some v => .ok v μ | none => .stuck) | none => (evE C A σd μ).bind fun x m => getAt C x k m) (fun d _ e' H' => ∀ v, RepH W e' H' d v → Q v H') (xkA Wx σ) := q
  cases hs : A.isVar.bind fun i => getSelf σd i with
  | none =>
    rw [hs] at q
    refine attr_of (base_ok hb) (thn (ha.run pins s σ H (fun v H' => ∃ e' m d, St0 W e' m H' ∧ RepH W e' H' d v ∧ Got W e' H' (getAt C d k m) Q (xkA Wx σ)) I (rE.at st lo (Aft.bind q) fun d m e' H' v _ st' lo' r hv => ⟨e', m, d, st', hv, .of r⟩)) fun v s1 ⟨x, H1, I1, r1, e1, m1, d1, st1, h1, q1⟩ => ?_)
    exact getAt_ok h I1 st1 h1 r1 q1
  | some fs =>
    rw [hs] at q
    have q : Aft W e H (match fs.lookup k with | some v => .ok v μ | none => .stuck) (fun d _ e' H' => ∀ v, RepH W e' H' d v → Q v H') (xkA Wx σ) := q
    cases hvar : A.isVar with
    | none => rw [hvar] at hs; cases hs
    | some i =>
      rw [hvar] at hs
      have hs : getSelf σd i = some fs := hs
      obtain ⟨x, p, rfl, hN, hvis, hd1, hd2⟩ := hv i hvar
      unfold getSelf at hs
      split at hs
      · rename_i c fs' hat
        cases hs
        obtain ⟨v, hv1, a', dx, gs, i', ⟨rfl, _, _⟩, h1, h2, h2x, h3, _⟩ := lo.at_ i _ hat
        have cf := h.txt.cls c i' h2 h2x
        cases hl : fs.lookup k with
        | none => rw [hl] at q; exact q.elim
        | some d' =>
          rw [hl] at q
          obtain ⟨hk, w, hw1, hw2⟩ := h3.at_ k d' hl
          refine attr_of (base_ok hb) (thn ((pe_var hN hvis hd1 hd2).run pins s σ H (fun v H' => v = .ref a' ∧ H' = H) I ⟨_, hv1, rfl, rfl⟩) fun v s1 ⟨x, H1, I1, r1, e1, e2⟩ => ?_)
          subst e1 e2
          cases r1
          refine getattr_ok I1 h1 (by rw [h.K]; exact cf.cls) (by rw [h.K]; exact cf.no k hk) hw1 fun u' s2 I2 ru => ?_
          exact ⟨w, H1, I2, ru, q.now st w (.to hw2)⟩
      · rename_i c fs' hat
        cases hs
        obtain ⟨v, hv1, a', dx, gs, i', rfl, hx0, h1, h2, h2x, h3, _⟩ := lo.at_ i _ hat
        have ef := h.txt.exc c i' h2 h2x
        obtain ⟨oe, hp, o1, o2, o3⟩ := pn.pin _ _ _ hx0
        cases hl : fs.lookup k with
        | none => rw [hl] at q; exact q.elim
        | some d' =>
          rw [hl] at q
          obtain ⟨hk, w, hw1, hw2⟩ := h3.at_ k d' hl
          refine attr_of (base_ok hb) (thn ((pe_var hN hvis hd1 hd2).run pins s σ H (fun v H' => v = .ref a' ∧ H' = H) I ⟨_, hv1, rfl, rfl⟩) fun v s1 ⟨x, H1, I1, r1, e1, e2⟩ => ?_)
          subst e1 e2
          cases r1
          obtain ⟨b0, k0, _, _, _, _, hfl, hno, _⟩ := ef.made (List.ne_nil_of_mem hk)
          rw [hfl] at hk
          obtain rfl : k = k0 := by simpa using hk
          rw [← h.K] at hno
          have xf := ef.xf
          rw [← h.K] at xf
          obtain ⟨ha0, _⟩ := I1.pin (a', oe) (List.mem_append_left _ hp)
          obtain ⟨vs, hd0⟩ := o3
          have hx : ObjOk X.prog X.w H1 s1.heap dx (.xd gs) := I1.hok dx _ h1
          obtain ⟨mA, hns, hr⟩ := hx
          obtain ⟨od, ho, hlk⟩ := lookIn_ns hns
          obtain ⟨u, hu, ru⟩ := RelO.some_of (v := w) (o := mA (an W.T k)) (by rw [← hw1]; exact hr _)
          have J : PySem.W.InstAt s1.heap a' oe (W.ca c) (some od) := ⟨ha0, o1, by unfold PySem.W.notCls; rw [hd0] <;> rfl, by rw [o2]; exact ho⟩
          exact HandSPX.exc_get I1.kIn J xf.ga xf.gg xf.exC (PySem.W.findObj_own xf.hdC hno rfl (by rw [hlk, hu])) (handed_of ru) ⟨w, H1, I1.tok _, ru, q.now st w (.to hw2)⟩
      · cases hs

def notSl : Expr → Bool
  | .Slice _ _ _ _ => false
  | _ => true
theorem plain_ix {b : Expr} (h : notSl b = true) : PlainIx b := fun o i => by
  cases b <;> first | rfl | cases h
theorem atI_len {α β : Type} {xs : List α} {ys : List β} {i : Int} {v : α} (hl : ys.length = xs.length) (h : L2.atI xs i = some v) : ∃ (j : Nat), xs[j]? = some v ∧ ∀ (w : β), ys[j]? = some w → L2.atI ys i = some w := by
  unfold L2.atI at h ⊢
  rw [hl]
  cases q : ixN xs.length i with
  | none => rw [q] at h; cases h
  | some j => rw [q] at h; exact ⟨j, h, fun w hw => hw⟩
theorem snd_idx (h : Hyp W X n C Wx) (ha : PE X a (rE W C Wx H0 A)) (hb : PE X b (rE W C Wx H0 B)) (hs : notSl b = true) : PE X (.Subscript a b pos) (rE W C Wx H0 (.idx A B)) := by
  refine ⟨fun pins s σ H Q I ⟨e, μ, σd, st, lo, q⟩ => ?_⟩
  refine (pe_ix (ix_list.or ix_tup) ha hb (plain_ix hs)).run pins s σ H Q I (rE.at st lo (Aft.bind q) fun d m e' H' v _ st' lo' r hv => rE.at st' lo' (Aft.bind r) fun d2 m2 e2 H2 v2 x2 st2 lo2 r2 hv2 => ?_)
  have r2 : Aft W e2 H2 (match items m2 d, d2 with | some xs, .int i => (match nth xs i with | some v => .ok v m2 | none => .stuck) | _, _ => .stuck) (fun d _ e' H' => ∀ v, RepH W e' H' d v → Q v H') (xkA Wx σ) := r2
  cases hi : items m2 d with
  | none => rw [hi] at r2; exact r2.elim
  | some xs =>
    rw [hi] at r2
    cases d2 with
    | int i =>
      have r2 : Aft W e2 H2 (match nth xs i with | some v => .ok v m2 | none => .stuck) (fun d _ e' H' => ∀ v, RepH W e' H' d v → Q v H') (xkA Wx σ) := r2
      cases hn : nth xs i with
      | none => rw [hn] at r2; exact r2.elim
      | some d3 =>
        rw [hn] at r2
        obtain ⟨p, vs, rfl, h1, h2⟩ := items_at h st2 (hv.ex x2) hi
        obtain ⟨j, hj, hall⟩ := atI_len (ys := vs) h2.length hn
        obtain ⟨w, hw1, hw2⟩ := h2.get hj
        have fin := r2.now st2 w (.to hw2)
        rcases h1 with h1 | h1
        · exact .inr ⟨p, vs, i, w, rfl, hv2, h1, hall w hw1, fin⟩
        · exact .inl ⟨p, vs, i, w, rfl, hv2, h1, hall w hw1, fin⟩
    | _ => exact r2.elim
end
end Ev

set_option maxRecDepth 100000
set_option maxHeartbeats 2000000
namespace Ev
open PySem PySem.Spec PyProof.Rows L2
section
variable {W : Wd} {X : Cx} {n : Nat} {C : Cl} {Wx : WX} {H0 : En} {pins : List (Addr × Obj)} {σ : L2.St} {H H1 : Hp} {s : Shared} {e e1 : Em} {μ : Mu} {a b c : Expr} {A B D' : E} {pos p : Pos} {es : List Expr} {ys : Es}
theorem Aft.later {α : Type} {r : Res α} {K : α → Mu → Em → Hp → Prop} {E : XK} (x : Ex e H e1 H1) (q : Aft W e H r K E) : Aft W e1 H1 r K E := by
  cases r with
  | ok a m => exact fun e' H' y st => q e' H' (x.trans y) st
  | exc c fs m => exact fun e' H' cls d y st z => q e' H' cls d (x.trans y) st z
  | stuck => exact q.elim
theorem St0.grown (st : St0 W e μ H) (k : ∀ b u, H b = some u → H1 b = some u) : Ex e H e H1 ∧ St0 W e μ H1 := by
  have x : Ex e H e H1 := ⟨fun _ _ q => q, fun _ _ q => q, fun _ _ q => .inl q, fun _ _ q => .inl q, fun b u q _ => k b u q, fun b u q => ⟨u, k b u q⟩⟩
  refine ⟨x, ⟨fun b u q => k b u (st.sub b u q), fun i u q => ?_, st.out, st.inj, st.free⟩⟩
  obtain ⟨b, hb, hr⟩ := st.cell i u q
  obtain ⟨w, hw⟩ := st.rH hb
  exact ⟨b, hb, hr.ex x (by rw [k b w hw, hw])⟩
theorem St0.frozenAt (st : St0 W e μ H) {a : Addr} (o : HO) (hg : e.G a = none) (hr : ∀ i, e.r i ≠ some a) : St0 W ⟨upd e.G a o, e.r⟩ μ (upd H a o) := by
  have mono : ∀ b u, e.G b = some u → upd e.G a o b = some u := fun b u q => by rw [upd_ne (ne_of_none q hg)]; exact q
  refine ⟨fun b u q => ?_, fun i u q => ?_, st.out, st.inj, fun i b q => ?_⟩
  · by_cases hb : b = a
    · subst hb
      have q : upd e.G b o b = some u := q
      rw [upd_same] at q ⊢; exact q
    · have q : upd e.G a o b = some u := q
      rw [upd_ne hb] at q ⊢; exact st.sub b u q
  · obtain ⟨b, hb, hz⟩ := st.cell i u q
    have hba : b ≠ a := fun z => hr i (by rw [← z]; exact hb)
    refine ⟨b, hb, ?_⟩
    cases u with
    | lst xs =>
      obtain ⟨vs, h1, h2⟩ := hz
      exact ⟨vs, by rw [upd_ne hba]; exact h1, RepL.mono (e := e) (e' := ⟨upd e.G a o, e.r⟩) mono (fun _ _ q => q) _ _ h2⟩
    | ins c fs =>
      obtain ⟨dx, gs, j, h1, h2, hx, h3, h4⟩ := hz
      exact ⟨dx, gs, j, by rw [upd_ne hba]; exact h1, h2, hx, ⟨fun k d h => let ⟨a, v, b, c⟩ := h3.at_ k d h; ⟨a, v, b, Rep.mono (e := e) (e' := ⟨upd e.G _ o, e.r⟩) mono (fun _ _ q => q) _ _ c⟩, h3.no⟩, h4⟩
  · show upd e.G a o b = none
    rw [upd_ne (fun z => hr i (by rw [← z]; exact q))]; exact st.free i b q

theorem args_call {f : Value} {first : List Value} {Q : VK} (hk : PySem.W.keepIn X.K f = true) (hns : es.all noStar = true) (hnil : es = [] → ys = .nil) (ha : PA X es (rA W C Wx H0 ys)) {σd : Sg} (I : Inv X pins σ H s) (st : St0 W e μ H) (lo : Lo W e H0 σd σ H) {R : List D → Mu → Em → Hp → Prop}
    (q : Aft W e H (evEs C ys σd μ) R (xkA Wx σ))
    (k : ∀ ds m e' H' vs us s1, Ex e H e' H' → St0 W e' m H' → RepHL W e' H' ds vs → Inv X pins σ H' s1 → Vals vs us → R ds m e' H' → wpAny (model X.prog X.w) X.A (call f (first ++ us)) (EP X pins σ Q) X.xe s1) :
    wpAny (model X.prog X.w) X.A (callWith pos f first (backTo pos (starEach es X.env)) []) (EP X pins σ Q) X.xe s := by
  cases es with
  | nil =>
    cases hnil rfl
    exact PySem.W.callWith_K0 I.kIn hk (k [] μ e H [] [] s (Ex.refl e H) st rfl I .nil (q.now st))
  | cons x xs =>
    rw [List.all_cons, Bool.and_eq_true] at hns
    refine PySem.W.callWith_K (h₀ := X.base) I.ok.mod.kin hk (thn (ha.run pos pins s σ H (fun vs H' => ∃ ds m e', Ex e H e' H' ∧ St0 W e' m H' ∧ RepHL W e' H' ds vs ∧ R ds m e' H') I (rA.at st lo q fun d m e' H' v x st' _ r hv => ⟨d, m, e', x, st', hv, r⟩)) fun us s1 ⟨vs, H1, I1, r, ds, m, e', x, st', hv, rr⟩ => ⟨I1.kIn, ?_⟩) (star_no hns.1) (any_no hns.2)
    exact k ds m e' H1 vs us s1 x st' hv I1 r rr
theorem snd_call (h : Hyp W X n C Wx) {f : Nat} {x : Str} (hg : Gl X x) (hl : (W.T.fns[f]?).map (·.loc) = some (x, none)) (hd : (x == ("__debug__" : Str)) = false) (hns : es.all noStar = true) (hnil : es = [] → ys = .nil) (ha : PA X es (rA W C Wx H0 ys)) :
    PE X (.Call (.Name x p) es [] pos) (rE W C Wx H0 (.call f ys)) := by
  refine ⟨fun pins s σ H Q I ⟨e, μ, σd, st, lo, q⟩ => ?_⟩
  cases hi : W.T.fns[f]? with
  | none => rw [hi] at hl; cases hl
  | some i =>
    rw [hi] at hl
    have hl : i.loc = (x, none) := by simpa using hl
    obtain ⟨h1, h2⟩ := h.txt.glob f i x hi hl
    refine wpAny_Call_Name_kw (ld_glob (u := .ref (fadr W.K W.T i.loc)) I hg (by rw [h.mg]; exact h1) ?_ hd)
    refine args_call (first := []) (by rw [h.K]; exact h2) hns hnil ha I st lo (Aft.bind q) fun ds m e' H' vs us s1 x' st' hv I' r z => ?_
    split at z
    · rename_i hnb
      rcases h.call f ds m with hs | ⟨i', hi', _, fp⟩
      · rw [hs] at z; exact z.elim
      · rw [hi] at hi'; cases hi'
        exact run_fnW h h.room rfl rfl rfl fp I' r st' (RepHL.of hnb hv) (.of z)
    · exact z.elim
theorem meth_eval {o : Expr} {m : Str} {apos : Pos} {env : Env} (hb : baseOk o = true) (hl : (apos.endLine == pos.line) = true) (hn : es.all noStar = true) (h30 : decide (es.length < 30) = true) :
    eval (.Call (.Attribute o m apos) es [] pos) env = (do
      let ov ← eval o env
      standAt apos.atName
      let (f, first) ← holding [ov] (getMethod ov m (do return (← importBound o env).getD true))
      callWith pos f first (backTo pos (starEach es env)) (backToKw pos (keywordEach [] env))) := by
  have e0 : eval (.Call (.Attribute o m apos) es [] pos) env = (do
      let ov ← attributeBase o m env (eval o env)
      standAt apos.atName
      methodCall o m apos pos env ov (es.length + 0) (backTo pos (starEach es env)) (backToKw pos (keywordEach [] env))) := by rfl
  have e1 : methodCallForm (es.length + 0) (backTo pos (starEach es env)) (backToKw pos (keywordEach [] env)) = true := by
    have a1 : (backTo pos (starEach es env)).all (fun p => !p.1) = true := by
      have z := any_no (env := env) (pos := pos) hn
      rw [List.any_eq_false] at z
      rw [List.all_eq_true]
      intro q hq
      have := z q hq
      simpa using this
    unfold methodCallForm
    rw [a1]
    simp [keywordEach, backToKw]
    exact of_decide_eq_true h30
  rw [e0, base_ok hb]
  unfold methodCall
  rw [e1]
  unfold calleeOf methodCallPos
  simp only [if_true, hl, Bool.not_true, Bool.false_or]
  rfl
theorem snd_meth (h : Hyp W X n C Wx) {k : Nat} {m : Str} {apos : Pos} (hm : an W.T k = m) (hb : baseOk a = true) (hl : (apos.endLine == pos.line) = true) (h30 : decide (es.length < 30) = true) (ho : PE X a (rE W C Wx H0 A)) (hns : es.all noStar = true) (hnil : es = [] → ys = .nil) (ha : PA X es (rA W C Wx H0 ys)) :
    PE X (.Call (.Attribute a m apos) es [] pos) (rE W C Wx H0 (.meth A k ys)) := by
  subst hm
  refine ⟨fun pins s σ H Q I ⟨e, μ, σd, st, lo, q⟩ => ?_⟩
  refine PySem.W.methodCall_KW (thn (ho.run pins s σ H (fun v H' => ∃ e' m d, St0 W e' m H' ∧ Lo W e' H0 σd σ H' ∧ RepH W e' H' d v ∧ Aft W e' H' _ _ (xkA Wx σ)) I (rE.at st lo (Aft.bind q) fun d m e' H' v _ st' lo' r hv => ⟨e', m, d, st', lo', hv, r⟩)) fun u s1 ⟨x, H1, I1, rx, e1, m1, d1, st1, lo1, hd1, q1⟩ => ?_) (meth_eval hb hl hns h30)
  cases hc : clsOf m1 d1 with
  | none => rw [hc] at q1; exact q1.elim
  | some c =>
    rw [hc] at q1
    have q1 : Aft W e1 H1 (match mthd C.T c k with | some f => (evEs C ys σd m1).bind fun vs m2 => if vs.all nbD = true then C.call f (d1 :: vs) m2 else .stuck | none => .stuck) (fun d _ e' H' => ∀ v, RepH W e' H' d v → Q v H') (xkA Wx σ) := q1
    cases hm : mthd C.T c k with
    | none => rw [hm] at q1; exact q1.elim
    | some f =>
      rw [hm] at q1
      have hnb : nbD d1 = true := by cases d1 <;> first | rfl | cases hc
      obtain ⟨a', dx, gs, i, rfl, hH, hi, hx, hno⟩ := inst_at st1 (RepH.of hnb hd1) hc
      cases rx
      have cf := h.txt.cls c i hi hx
      have hm' : i.meths.lookup k = some f := by
        unfold mthd at hm
        rw [h.T, hi] at hm
        exact hm
      obtain ⟨j, hj, hM, hne⟩ := cf.meth k f hm'
      refine getmeth_ok I1 hH (by rw [h.K]; exact cf.cls) (by rw [h.K]; exact hM) (hno _ hne) ?_
      refine args_call (first := [.ref a']) (by rw [h.K]; exact hM.kp) hns hnil ha I1 st1 lo1 (Aft.bind q1) fun ds m e' H' vs us s2 x' st' hv I' r z => ?_
      split at z
      · rename_i hz
        rcases h.call f (d1 :: ds) m with hs | ⟨i', hi', _, fp⟩
        · rw [hs] at z; exact z.elim
        · rw [hj] at hi'; cases hi'
          exact run_fnW h h.room rfl rfl rfl fp I' (Paired.cons (show RelV (V.ref a') (Value.ref a') from rfl) r) st' (.cons ((RepH.of hnb hd1).ex x') (RepHL.of hz hv)) (.of z)
      · exact z.elim
theorem make_guards {A : Around} {CA : Addr} {us : List Value} (h : A.guards = some []) : (A.under (.builtin "type.__call__" ⟨.ref CA :: us, []⟩)).guards = some [] := by
  show pushGuards (Code.guards (.builtin "type.__call__" ⟨.ref CA :: us, []⟩)) A.guards = some []
  have e : Code.guards (.builtin "type.__call__" ⟨.ref CA :: us, []⟩) = [] := if_neg (show ¬ (guardIds.contains "type.__call__" = true) by decide)
  rw [h, e]; rfl
theorem run_makeW (h : Hyp W X n C Wx) {CA f : Addr} {fd : FuncData} {ps : List Str} {sp : Sp} {k : Nat} {Q : VK} {us ds : List Value} {vs dvs : List V} (M : Mk X.K CA f) (F : FnG C.hot X.prog X.w X.K X.mg X.base (L2N.CX X.prog X.w) k f fd ps sp) (hr : L2H.RoomH (k + 1) X.A) (hb : Binds X.K fd ps ds) (hd : Vals dvs ds)
    (I : Inv X pins σ H s) (r : Vals vs us)
    (hsp : ∀ x dx, H x = none → H dx = none → dx ≠ x → sp (.ref x :: (vs ++ dvs)) (upd (upd H dx (.own x)) x (.ins CA dx [])) (fun v H2 => v = .non ∧ Q (.ref x) H2) (xkA Wx σ)) :
    wpAny (model X.prog X.w) X.A (call (.ref CA) us) (EP X pins σ Q) X.xe s := by
  have hq := hsp (s.heap.objs.size + 1) s.heap.objs.size (I.hok.fresh (Nat.le_succ _)) (I.hok.fresh (Nat.le_refl _)) (Nat.ne_of_lt (Nat.lt_succ_self _))
  have I2 := Inv.made (C := CA) I
  have r2 : Vals (V.ref (s.heap.objs.size + 1) :: (vs ++ dvs)) (Value.ref (s.heap.objs.size + 1) :: (us ++ ds)) := .cons rfl (r.append hd)
  have hl : (Value.ref (s.heap.objs.size + 1) :: us ++ ds).length = ps.length := by
    have e := r2.length
    rw [F.len _ _ _ _ hq] at e
    exact e.symm
  refine wpAny_call (make_map (f := f) I.kIn M.makes M.init (beq_iff_eq.mp M.fn) (codeAny_mono (F.run _ X.stack _ _ ⟨Value.ref (s.heap.objs.size + 1) :: us, []⟩ (Value.ref (s.heap.objs.size + 1) :: (us ++ ds)) _ _ _ (make_guards h.guards) (RoomH.make hr CA us) (h.lull rfl I2)
    (I2.env0.make CA us []) (hb _ (Value.ref (s.heap.objs.size + 1) :: us) I2.kIn hl) r2 hq) fun r s' hq' => ?_))
  cases r with
  | error er => exact h.takes _ _ (L2N.XE.of_call I2 (fun _ _ _ z => z) hq')
  | ok fl =>
    cases fl with
    | ret u =>
      obtain ⟨v, H', I3, rv, ev, q3⟩ := I2.after hq'
      subst ev
      exact ⟨rv, ⟨V.ref (s.heap.objs.size + 1), H', I3, rfl, q3⟩⟩
    | next => exact False.elim hq'
    | brk => exact False.elim hq'
    | cont => exact False.elim hq'
theorem make_ok (h : Hyp W X n C Wx) {c : Nat} {k : ClI} {ds : List D} {vs : List V} {us : List Value} {Q : VK} (hk : W.T.cls[c]? = some k) (I : Inv X pins σ H s) (st : St0 W e μ H) (rd : RepL W e ds vs) (r : Vals vs us)
    (q : Got W e H (C.make c ds μ) Q (xkA Wx σ)) : wpAny (model X.prog X.w) X.A (call (.ref (W.ca c)) us) (EP X pins σ Q) X.xe s := by
  rcases h.make with hs | ⟨k0, hk0, hM⟩
  · rw [hs] at q; exact q.elim
  · rcases hM c ds μ with z | ⟨k', i, hk', hx, hi, ho, z⟩
    · rw [z] at q; exact q.elim
    · rw [hk] at hk'; cases hk'
      have cf := h.txt.cls c k hk hx
      have M := cf.make i hi
      have M' : Mk X.K (W.ca c) (fadr W.K W.T i.loc) := by rw [h.K]; exact M
      rcases z with ⟨hv, ip⟩ | ⟨hv, G, fp, hG⟩
      · -- a value class
        have ha : ∃ a, argsOf i (.non :: ds) = some a := by
          cases z : argsOf i (.non :: ds) with
          | some a => exact ⟨a, rfl⟩
          | none => rw [ip.miss ds μ z] at q; exact q.elim
        obtain ⟨a, ha⟩ := ha
        obtain ⟨l1, l2, ea, la⟩ := argsOf_full ha
        obtain ⟨fd, ok, bi⟩ := ip.ok
        obtain ⟨dd, dvs, rv, rl, bd⟩ := bi ((D.non :: ds).length + i.dfl.length - i.np) (by omega)
        have F' : FnG C.hot X.prog X.w X.K X.mg X.base (L2N.CX X.prog X.w) (k0 + 34) (fadr W.K W.T i.loc) fd (i.names.take i.np) (spI W c k.flds i.np (C.make c)) := by rw [h.prog, h.w, h.K, h.mg, h.base]; exact ok
        have eq1 : argsOf i (.non :: ds) = some (.non :: (ds ++ i.dfl.drop ((D.non :: ds).length + i.dfl.length - i.np))) := by rw [ha, ea]; rfl
        rw [ip.fill ds μ _ eq1] at q
        refine run_makeW h M' F' (h.room.mono (by omega)) (by rw [h.K]; exact bd) rv I r fun x dx hx0 hdx hne => ?_
        have k1 : ∀ b u, H b = some u → upd H dx (.own x) b = some u := fun b u q => by rw [upd_ne (ne_of_none q hdx)]; exact q
        obtain ⟨xg, stg⟩ := st.grown (H1 := upd H dx (.own x)) k1
        have ew : without_ (upd (upd H dx (.own x)) x (.ins (W.ca c) dx [])) x = upd H dx (.own x) := by
          funext b
          unfold without_
          by_cases hb : b = x
          · rw [if_pos hb, hb, upd_ne (Ne.symm hne)]; exact hx0.symm
          · rw [if_neg hb, upd_ne hb]
        have gx : e.G x = none := by
          cases z : e.G x with
          | none => rfl
          | some u => rw [st.sub x u z] at hx0; cases hx0
        have rx : ∀ i, e.r i ≠ some x := fun i z => by
          obtain ⟨u, hu⟩ := st.rH z
          rw [hx0] at hu; cases hu
        refine ⟨e, μ, ds ++ i.dfl.drop ((D.non :: ds).length + i.dfl.length - i.np), x, dx, vs ++ dvs, rfl, ?_, upd_same, gx, rx, by rw [ew]; exact stg, rd.append (rl e), ?_⟩
        · have := (rl e).length
          have h3 := rd.length
          rw [List.length_drop] at this
          simp only [List.length_cons, List.length_append] at this l1 l2 ⊢
          omega
        · rw [ew]
          have x1 : ∀ {e' : Em} {H' : Hp} {gs : List (Str × V)}, Ex e (upd H dx (.own x)) e' H' → Ex e H e' (upd H' x (.ins (W.ca c) dx gs)) := fun {e' H' gs} x' => by
            have y := xg.trans x'
            refine ⟨y.g, y.r, y.gn, y.rn, fun b u q hn => ?_, fun b u q => ?_⟩
            · rw [upd_ne (ne_of_none q hx0)]; exact y.keep b u q hn
            · rw [upd_ne (ne_of_none q hx0)]; exact y.dom b u q
          cases hres : C.make c (ds ++ i.dfl.drop ((D.non :: ds).length + i.dfl.length - i.np)) μ with
          | stuck => rw [hres] at q; exact q.elim
          | exc c' fs m =>
            rw [hres] at q
            intro e' H' gs cls d x' st' z hgx hrx hdx'
            have st2 : St0 W e' m (upd H' x (.ins (W.ca c) dx gs)) := by
              refine ⟨fun b u q => ?_, fun i u q => ?_, st'.out, st'.inj, st'.free⟩
              · rw [upd_ne (ne_of_none q hgx)]; exact st'.sub b u q
              · obtain ⟨b, hb, hz⟩ := st'.cell i u q
                have hba : b ≠ x := fun z => hrx i (by rw [← z]; exact hb)
                refine ⟨b, hb, ?_⟩
                cases u with
                | lst xs =>
                  obtain ⟨vs, h1, h2⟩ := hz
                  exact ⟨vs, by rw [upd_ne hba]; exact h1, h2⟩
                | ins c2 fs2 =>
                  obtain ⟨dx2, gs2, j, h1, h2⟩ := hz
                  exact ⟨dx2, gs2, j, by rw [upd_ne hba]; exact h1, h2⟩
            obtain ⟨z1, dx', gs', i', z2, z3, z4⟩ := z
            exact q e' _ cls d (x1 x') st2 ⟨z1, dx', gs', i', z2, by rw [upd_ne (fun w => hdx' (by rw [z2, w]))]; exact z3, z4⟩
          | ok d m =>
            rw [hres] at q
            intro e' H' gs ws fs x' st' ed hf hr hgx hrx
            subst ed
            refine ⟨rfl, ?_⟩
            have st2 := st'.frozenAt (.ins (W.ca c) dx gs) hgx hrx
            have x2 : Ex e H ⟨upd e'.G x (.ins (W.ca c) dx gs), e'.r⟩ (upd H' x (.ins (W.ca c) dx gs)) := by
              have y := xg.trans x'
              have mono : ∀ b u, e'.G b = some u → upd e'.G x (.ins (W.ca c) dx gs) b = some u := fun b u q => by rw [upd_ne (ne_of_none q hgx)]; exact q
              refine ⟨fun b u q => mono b u (y.g b u q), y.r, fun b u q => ?_, y.rn, fun b u q hn => ?_, fun b u q => ?_⟩
              · by_cases hb : b = x
                · rw [hb]; exact .inr hx0
                · have q : upd e'.G x (.ins (W.ca c) dx gs) b = some u := q
                  rw [upd_ne hb] at q; exact y.gn b u q
              · rw [upd_ne (ne_of_none q hx0)]; exact y.keep b u q hn
              · rw [upd_ne (ne_of_none q hx0)]; exact y.dom b u q
            have mono : ∀ b u, e'.G b = some u → upd e'.G x (.ins (W.ca c) dx gs) b = some u := fun b u q => by rw [upd_ne (ne_of_none q hgx)]; exact q
            exact q _ _ x2 st2 (.ref x) ⟨x, dx, gs, ws, k, rfl, upd_same, hk, hx, hf, RepL.mono (e := e') (e' := ⟨upd e'.G x (.ins (W.ca c) dx gs), e'.r⟩) mono (fun _ _ q => q) _ _ hr⟩
      · -- a class whose instances lie in the store
        rw [hG] at q
        have ha : ∃ a, argsOf i (.obj μ.length :: ds) = some a := by
          cases z : argsOf i (.obj μ.length :: ds) with
          | some a => exact ⟨a, rfl⟩
          | none => rw [fp.miss _ _ z] at q; exact q.elim
        obtain ⟨a, ha⟩ := ha
        obtain ⟨l1, l2, ea, la⟩ := argsOf_full ha
        obtain ⟨fd, ok, bi⟩ := fp.ok
        obtain ⟨dd, dvs, rv, rl, bd⟩ := bi ((D.obj μ.length :: ds).length + i.dfl.length - i.np) (by omega)
        have F' : FnG C.hot X.prog X.w X.K X.mg X.base (L2N.CX X.prog X.w) (k0 + 34) (fadr W.K W.T i.loc) fd (i.names.take i.np) (spF W i.np G) := by rw [h.prog, h.w, h.K, h.mg, h.base]; exact ok
        refine run_makeW h M' F' (h.room.mono (by omega)) (by rw [h.K]; exact bd) rv I r fun x dx hx0 hdx hne => ?_
        have k1 : ∀ b u, H b = some u → upd (upd H dx (.own x)) x (.ins (W.ca c) dx []) b = some u := fun b u q => by rw [upd_ne (ne_of_none q hx0), upd_ne (ne_of_none q hdx)]; exact q
        obtain ⟨e2, x2, st2, h1, h2⟩ := st.celled (so := .ins c []) (a := x) hx0 upd_same k1 fun e2 x2 => ⟨dx, [], k, upd_same, hk, hx, ⟨fun _ _ z => (nomatch z), fun _ _ => rfl⟩, Nat.zero_le _⟩
        refine ⟨e2, μ ++ [.ins c []], a, ?_, st2, ?_, ?_⟩
        · have := (rl e2).length
          have h3 := rd.length
          rw [List.length_drop] at this
          simp only [List.length_cons, List.length_append] at this l1 l2 ⊢
          omega
        · rw [ea]; exact RepL.cons (d := .obj μ.length) ⟨x, rfl, h1⟩ ((rd.ex x2).append (rl e2))
        · rw [← fp.fill _ _ a ha]
          refine (Aft.later x2 (Aft.bind q)).imp fun d m e' H' x' st' z v hv => ?_
          cases d with
          | non => exact ⟨hv, z.now st' (.ref x) ⟨x, rfl, x'.r _ _ h1⟩⟩
          | _ => exact z.elim
theorem snd_make (h : Hyp W X n C Wx) {k : Nat} {x : Str} (hg : Gl X x) (hl : (W.T.cls[k]?).map (·.name) = some x) (hd : (x == ("__debug__" : Str)) = false) (hns : es.all noStar = true) (hnil : es = [] → ys = .nil) (ha : PA X es (rA W C Wx H0 ys)) :
    PE X (.Call (.Name x p) es [] pos) (rE W C Wx H0 (.make k ys)) := by
  refine ⟨fun pins s σ H Q I ⟨e, μ, σd, st, lo, q⟩ => ?_⟩
  cases hi : W.T.cls[k]? with
  | none => rw [hi] at hl; cases hl
  | some i =>
    rw [hi] at hl
    have hl : i.name = x := by simpa using hl
    subst hl
    obtain ⟨h1, h2⟩ := h.txt.clsg k i hi
    refine wpAny_Call_Name_kw (ld_glob (u := .ref (W.ca k)) I hg (by rw [h.mg]; exact h1) ?_ hd)
    refine args_call (first := []) (by rw [h.K]; exact h2) hns hnil ha I st lo (Aft.bind q) fun ds m e' H' vs us s1 x' st' hv I' r z => ?_
    split at z
    · rename_i hnb
      exact make_ok h hi I' st' (RepHL.of hnb hv) r (.of z)
    · exact z.elim
end
end Ev

set_option maxRecDepth 100000
set_option maxHeartbeats 2000000
namespace Ev
open PySem PySem.Spec PyProof.Rows L2
section
variable {W : Wd} {X : Cx} {n : Nat} {C : Cl} {Wx : WX} {H0 : En} {pins : List (Addr × Obj)} {σ : L2.St} {H : Hp} {s : Shared} {e : Em} {μ : Mu}
theorem consP_some {p : Option PyData} {ps : Option (List PyData)} {qs : List PyData} (h : consP p ps = some qs) : ∃ a as, p = some a ∧ ps = some as ∧ qs = a :: as := by
  cases p with
  | none => cases h
  | some a => cases ps with
    | none => cases h
    | some as => cases h; exact ⟨a, as, rfl, rfl, rfl⟩
mutual
theorem toPy_plain : ∀ (d : D) (p : PyData), toPy d = some p → p.hasDict = false
  | .non, _, h => by cases h; simp only [PyData.hasDict]
  | .bl _, _, h => by cases h; simp only [PyData.hasDict]
  | .int _, _, h => by cases h; simp only [PyData.hasDict]
  | .str _, _, h => by cases h; simp only [PyData.hasDict]
  | .tup xs, p, h => by
    have h : (toPys xs).map PyData.tuple = some p := h
    cases q : toPys xs with
    | none => rw [q] at h; cases h
    | some ps => rw [q] at h; cases h; simp only [PyData.hasDict]; exact toPys_plain xs ps q
  | .lst xs, p, h => by
    have h : (toPys xs).map PyData.list = some p := h
    cases q : toPys xs with
    | none => rw [q] at h; cases h
    | some ps => rw [q] at h; cases h; simp only [PyData.hasDict]; exact toPys_plain xs ps q
  | .ins _ _, _, h => by cases h
  | .obj _, _, h => by cases h
  | .bor _ _, _, h => by cases h
theorem toPys_plain : ∀ (ds : List D) (ps : List PyData), toPys ds = some ps → PyData.hasDictAll ps = false
  | [], _, h => by cases h; simp only [PyData.hasDictAll]
  | d :: ds, _, h => by
    have h : consP (toPy d) (toPys ds) = some _ := h
    obtain ⟨a, as, h1, h2, rfl⟩ := consP_some h
    simp only [PyData.hasDictAll, toPy_plain d a h1, toPys_plain ds as h2, Bool.or_false]
end
mutual
theorem reads_of (h : Hyp W X n C Wx) (I : Inv X pins σ H s) (st : St0 W e μ H) : ∀ (d : D) (v : V) (u : Value) (p : PyData), Rep W e d v → RelV v u → toPy d = some p → ∃ as, Reads s.heap u p as
  | .non, v, u, p, r, q, hp => by cases hp; cases (show v = .non from r); cases q; exact ⟨_, .none⟩
  | .bl b, v, u, p, r, q, hp => by cases hp; cases (show v = .bl b from r); cases q; exact ⟨_, .bool b⟩
  | .int i, v, u, p, r, q, hp => by cases hp; cases (show v = .int i from r); obtain ⟨t, rfl⟩ := q; exact ⟨_, .int i t⟩
  | .str z, v, u, p, r, q, hp => by cases hp; cases (show v = .str z from r); obtain ⟨t, rfl⟩ := q; exact ⟨_, .str z t⟩
  | .tup xs, v, u, p, r, q, hp => by
    obtain ⟨a, vs, rfl, h1, h2⟩ := r
    cases q
    have hp : (toPys xs).map PyData.tuple = some p := hp
    cases hq : toPys xs with
    | none => rw [hq] at hp; cases hp
    | some ps =>
      rw [hq] at hp; cases hp
      obtain ⟨its, rv, ⟨o, ho, hc, nn, hd⟩, _⟩ := I.tuple (h.K ▸ sqT_sub h1 st.sub)
      obtain ⟨as, ra⟩ := readsAll_of h I st xs vs its ps h2 rv hq
      exact ⟨as, .tuple ho hc hd ra⟩
  | .lst xs, v, u, p, r, q, hp => by
    obtain ⟨a, vs, rfl, h1, h2⟩ := r
    cases q
    have hp : (toPys xs).map PyData.list = some p := hp
    cases hq : toPys xs with
    | none => rw [hq] at hp; cases hp
    | some ps =>
      rw [hq] at hp; cases hp
      obtain ⟨its, rv, ⟨o, nn, ho, hc, _, hd⟩, _⟩ := I.list (h.K ▸ h1.sq st.sub)
      obtain ⟨as, ra⟩ := readsAll_of h I st xs vs its ps h2 rv hq
      exact ⟨a :: as, .list ho hc hd ra⟩
  | .ins _ _, _, _, _, _, _, hp => by cases hp
  | .obj _, _, _, _, _, _, hp => by cases hp
  | .bor _ _, _, _, _, _, _, hp => by cases hp
theorem readsAll_of (h : Hyp W X n C Wx) (I : Inv X pins σ H s) (st : St0 W e μ H) : ∀ (ds : List D) (vs : List V) (us : List Value) (ps : List PyData), RepL W e ds vs → Vals vs us → toPys ds = some ps → ∃ as, ReadsAll s.heap us ps as
  | [], vs, us, ps, r, q, hp => by
    cases hp
    rw [show vs = [] from r] at q
    cases q
    exact ⟨_, .nil⟩
  | d :: ds, vs, us, ps, r, q, hp => by
    obtain ⟨v, vs', rfl, r1, r2⟩ := r
    have hp : consP (toPy d) (toPys ds) = some ps := hp
    obtain ⟨p, ps', e1, e2, rfl⟩ := consP_some hp
    cases q with
    | cons q1 q2 =>
      obtain ⟨as, ra⟩ := reads_of h I st d v _ p r1 q1 e1
      obtain ⟨bs, rb⟩ := readsAll_of h I st ds vs' _ ps' r2 q2 e2
      exact ⟨_, .cons ra rb⟩
end
theorem repr_plain (h : Hyp W X n C Wx) {d : D} {v : V} {u : Value} {t : Str} {Q : VK} (I : Inv X pins σ H s) (st : St0 W e μ H) (hd : Rep W e d v) (rv : RelV v u) (ht : reprT d = some t) (q : Q (.str t) H) :
    wpAny (model X.prog X.w) X.A (call (.builtin "repr") [u]) (EP X pins σ Q) X.xe s := by
  unfold reprT at ht
  cases hp : toPy d with
  | none => rw [hp] at ht; cases ht
  | some p =>
    rw [hp] at ht
    have ht : showT p = some t := ht
    unfold showT at ht
    split at ht
    · rename_i hc
      cases ht
      simp only [Bool.and_eq_true, decide_eq_true_eq] at hc
      obtain ⟨⟨h1, h2⟩, h3⟩ := hc
      obtain ⟨as, rd⟩ := reads_of h I st d v u p hd rv hp
      have hz : p.shown.length ≤ sizeLine := by rw [sizeLine_eq]; exact h2
      have hnd := toPy_plain d p hp
      have un := h.room.un
      have fin : ∀ h' uu tk, (∀ b o, s.heap.get? b = some o → h'.get? b = some o) → EP X pins σ Q (.str p.shown uu) { s with heap := h', toks := tk } := fun h' uu tk k => ⟨.str p.shown, H, I.kept k, ⟨_, rfl⟩, q⟩
      cases d with
      | non =>
        cases hp
        cases (show v = .non from hd); cases rv
        refine PySem.P.repr_of_none ?_
        exact ⟨.str "None", H, I.tok _, ⟨_, rfl⟩, by simpa only [PyData.shown] using q⟩
      | bl b =>
        cases hp
        cases (show v = .bl b from hd); cases rv
        refine PySem.P.repr_of_bool ?_
        exact ⟨.str (if b then "True" else "False"), H, I.tok _, ⟨_, rfl⟩, by simpa only [PyData.shown] using q⟩
      | int i =>
        cases hp
        cases (show v = .int i from hd)
        obtain ⟨tk, rfl⟩ := rv
        refine PySem.P.repr_of_int (by simpa only [PyData.showable, decide_eq_true_eq] using h1) ?_
        exact ⟨.str (toString i), H, I.tok _, ⟨_, rfl⟩, by simpa only [PyData.shown] using q⟩
      | str z =>
        cases hp
        cases (show v = .str z from hd)
        obtain ⟨tk, rfl⟩ := rv
        refine PySem.P.repr_of_str ?_ (by simpa only [PyData.shown] using hz)
        exact ⟨.str (reprText z), H, I.tok _, ⟨_, rfl⟩, by simpa only [PyData.shown] using q⟩
      | tup xs =>
        obtain ⟨a, vs, rfl, _⟩ := hd
        cases rv
        exact repr_of_reads' rd h1 (fun z => by rw [hnd] at z; cases z) h.guards (by omega) (fun _ _ z => z) fin hz
      | lst xs =>
        obtain ⟨a, vs, rfl, _⟩ := hd
        cases rv
        exact repr_of_reads' rd h1 (fun z => by rw [hnd] at z; cases z) h.guards (by omega) (fun _ _ z => z) fin hz
      | ins _ _ => cases hp
      | obj _ => cases hp
      | bor _ _ => cases hp
    · cases ht
end
end Ev

set_option maxRecDepth 100000
set_option maxHeartbeats 2000000
namespace Ev
open PySem PySem.Spec PyProof.Rows L2
def blN : Bl → String
  | .len => "len"
  | .abs => "abs"
  | .max => "max"
  | .min => "min"
  | .str => "str"
  | .repr => "repr"
  | .int => "int"
  | .bool => "bool"
  | .list => "list"
  | .tuple => "tuple"
  | .any => "any"
  | .all => "all"
def blV : Bl → Value
  | .len => .builtin "len"
  | .abs => .builtin "abs"
  | .max => .builtin "max"
  | .min => .builtin "min"
  | .str => .type "str"
  | .repr => .builtin "repr"
  | .int => .type "int"
  | .bool => .type "bool"
  | .list => .type "list"
  | .tuple => .type "tuple"
  | .any => .builtin "any"
  | .all => .builtin "all"
section
variable {W : Wd} {X : Cx} {n : Nat} {C : Cl} {Wx : WX} {H0 : En} {pins : List (Addr × Obj)} {σ : L2.St} {H H1 : Hp} {s : Shared} {e e1 : Em} {μ : Mu} {a b c : Expr} {A B D' : E} {pos p : Pos} {es : List Expr} {ys : Es}
theorem one_arg {ds : List D} {vs : List V} {d : D} (r : RepHL W e H (d :: ds) vs) : ∃ v r', vs = v :: r' ∧ RepH W e H d v ∧ RepHL W e H ds r' := r
theorem bl_ok (h : Hyp W X n C Wx) (k : Bl) {ds : List D} {vs : List V} {us : List Value} {Q : VK} (I : Inv X pins σ H s) (st : St0 W e μ H) (rd : RepHL W e H ds vs) (r : Vals vs us)
    (q : Got W e H (evBl C k ds μ) Q (xkA Wx σ)) : wpAny (model X.prog X.w) X.A (call (blV k) us) (EP X pins σ Q) X.xe s := by
  cases ds with
  | nil => cases k <;> exact q.elim
  | cons d ds =>
    obtain ⟨v, vs', rfl, hd, hds⟩ := rd
    cases ds with
    | nil =>
      cases (show vs' = [] from hds)
      cases k with
      | len =>
        have q : Got W e H (match items μ d with | some xs => .ok (.int (xs.length : Int)) μ | none => evLenO C d μ) Q (xkA Wx σ) := q
        cases hi : items μ d with
        | some xs =>
          rw [hi] at q
          obtain ⟨p, ws, rfl, h1, h2⟩ := items_at h st hd hi
          refine call_len_seq pins s σ H [.ref p] us Q I r ⟨p, ws, rfl, h1.elim .inr .inl, ?_⟩
          rw [h2.length]; exact q.val st rfl
        | none =>
          rw [hi] at q
          cases d with
          | str z =>
            have q : Got W e H (if lim z.length then .ok (.int (z.length : Int)) μ else .stuck) Q (xkA Wx σ) := q
            cases (show v = .str z from hd)
            split at q
            · rename_i hz
              exact call_len_str pins s σ H [.str z] us Q I r ⟨z, rfl, lim_le hz, q.val st rfl⟩
            · exact q.elim
          | obj o =>
            have q : Got W e H ((dcallL C 14 (.obj o) [] μ).bind fun r m => (match r with
              | .int i => if 0 ≤ i ∧ i < 2 ^ 63 then .ok (.int i) m else .stuck
              | _ => .stuck)) Q (xkA Wx σ) := q
            have q2 : Got W e H (dcallL C 14 (.obj o) [] μ) (fun v H' => ∃ i, v = .int i ∧ (0 ≤ i ∧ i < 2 ^ 63) ∧ Q v H') (xkA Wx σ) := by
              refine (Aft.bind q).imp fun d m e' H' x' st' z v hv => ?_
              cases d with
              | int i =>
                have z : Aft W e' H' (if 0 ≤ i ∧ i < 2 ^ 63 then .ok (.int i) m else .stuck) (fun d _ e' H' => ∀ v, Rep W e' d v → Q v H') (xkA Wx σ) := z
                split at z
                · rename_i hz
                  exact ⟨i, hv, hz, z.now st' v hv⟩
                · exact z.elim
              | _ => exact z.elim
            obtain ⟨u, hu, ru⟩ := vals1 r
            subst hu
            obtain ⟨c, a, dx, gs, i, fa, rfl, rfl, hH, hcx, hi', cf, M, _, run⟩ := dcallL_ok h I st hd .nil ru .nil q2
            obtain ⟨m, od, F, KX, J⟩ := inst_rule I hH
            refine PySem.W.len_K F KX J (by rw [← h.txt.dun 14 "__len__" rfl]; exact M.at_) M.fn (wpAny_mono run (fun r s' z => ?_) fun _ _ z => z)
            obtain ⟨v', H', I', r', i, rfl, hz, q'⟩ := z
            obtain ⟨t, rfl⟩ := r'
            exact ⟨hz, ⟨.int i, H', I'.tok _, ⟨_, rfl⟩, q'⟩⟩
          | _ => exact q.elim
      | abs =>
        obtain ⟨u, hu, ru⟩ := vals1 r
        cases d with
        | int i =>
          cases (show v = .int i from hd)
          exact call_abs pins s σ H [.int i] us Q I r ⟨i, rfl, q.val st rfl⟩
        | ins c fs =>
          subst hu
          obtain ⟨c', a, dx, gs, i, fa, rfl, rfl, hH, hcx, hi', cf, M, _, run⟩ := dcallL_ok h I st hd .nil ru .nil (show Got W e H (dcallL C 5 (.ins c fs) [] μ) Q (xkA Wx σ) from q)
          obtain ⟨m, od, F, KX, J⟩ := inst_rule I hH
          exact own_abs F KX J (by rw [← h.txt.dun 5 "__abs__" rfl]; exact M.at_) M.fn run
        | _ => exact q.elim
      | int =>
        cases d with
        | int i =>
          cases (show v = .int i from hd)
          exact call_int1 pins s σ H [.int i] us Q I r (.inl ⟨i, rfl, q.val st rfl⟩)
        | bl i =>
          cases (show v = .bl i from hd)
          exact call_int1 pins s σ H [.bl i] us Q I r (.inr ⟨i, rfl, q.val st rfl⟩)
        | _ => exact q.elim
      | bool =>
        cases d with
        | bl i =>
          cases (show v = .bl i from hd)
          exact call_bool1 pins s σ H [.bl i] us Q I r (.inr ⟨i, rfl, q.val st rfl⟩)
        | ins c fs =>
          obtain ⟨u, hu, ru⟩ := vals1 r
          subst hu
          have q : Got W e H ((dcallL C 11 (.ins c fs) [] μ).bind fun r m => (match r with
            | .bl b => .ok (.bl b) m
            | _ => .stuck)) Q (xkA Wx σ) := q
          have q2 : Got W e H (dcallL C 11 (.ins c fs) [] μ) (fun v H' => ∃ b, v = .bl b ∧ Q v H') (xkA Wx σ) := by
            refine (Aft.bind q).imp fun d m e' H' x' st' z v hv => ?_
            cases d with
            | bl b =>
              have z : Aft W e' H' (.ok (.bl b) m) (fun d _ e' H' => ∀ v, Rep W e' d v → Q v H') (xkA Wx σ) := z
              exact ⟨b, hv, z.now st' v hv⟩
            | _ => exact z.elim
          obtain ⟨c', a, dx, gs, i, fa, rfl, rfl, hH, hcx, hi', cf, M, _, run⟩ := dcallL2_ok h I st hd .nil ru .nil q2
          obtain ⟨m, od, F, KX, J⟩ := inst_rule I hH
          refine EvB.bool_own F KX J (by rw [← h.txt.dun 11 "__bool__" rfl]; exact M.at_) M.fn (wpAny_mono run (fun r s' z => ?_) fun _ _ z => z)
          obtain ⟨v', H', I', r', b, rfl, q'⟩ := z
          cases r'
          exact ⟨.bl b, H', I', rfl, q'⟩
        | _ => exact q.elim
      | str =>
        cases d with
        | int i =>
          cases (show v = .int i from hd)
          have q : Got W e H (if i.natAbs.log2 < 1920 then .ok (.str (toString i)) μ else .stuck) Q (xkA Wx σ) := q
          split at q
          · rename_i hz
            exact call_str_int pins s σ H [.int i] us Q I r ⟨i, rfl, hz, q.val st rfl⟩
          · exact q.elim
        | ins c fs =>
          obtain ⟨u, hu, ru⟩ := vals1 r
          subst hu
          have q : Got W e H ((dcallL C 12 (.ins c fs) [] μ).bind fun r m => (match r with
            | .str t => .ok (.str t) m
            | _ => .stuck)) Q (xkA Wx σ) := q
          have q2 : Got W e H (dcallL C 12 (.ins c fs) [] μ) (fun v H' => ∃ t, v = .str t ∧ Q v H') (xkA Wx σ) := by
            refine (Aft.bind q).imp fun d m e' H' x' st' z v hv => ?_
            cases d with
            | str t =>
              have z : Aft W e' H' (.ok (.str t) m) (fun d _ e' H' => ∀ v, Rep W e' d v → Q v H') (xkA Wx σ) := z
              exact ⟨t, hv, z.now st' v hv⟩
            | _ => exact z.elim
          obtain ⟨c', a, dx, gs, i, fa, rfl, rfl, hH, hcx, hi', cf, M, _, run⟩ := dcallL2_ok h I st hd .nil ru .nil q2
          obtain ⟨m, od, F, KX, J⟩ := inst_rule I hH
          have un := h.room.un
          refine PySem.W.kso_call (by show X.A.units + 1 + 1 < cLine; omega) I.kIn J (by rw [← h.txt.dun 12 "__str__" rfl]; exact M.at_) M.fn (wpAny_mono run (fun r s' z => ?_) fun _ _ z => z)
          obtain ⟨v', H', I', r', t, rfl, q'⟩ := z
          obtain ⟨tk, rfl⟩ := r'
          exact ⟨.str t, H', I', ⟨_, rfl⟩, q'⟩
        | _ => exact q.elim
      | list =>
        have q : Got W e H (match items μ d with | some xs => .ok (.lst xs) μ | none => .stuck) Q (xkA Wx σ) := q
        cases hi : items μ d with
        | none => rw [hi] at q; exact q.elim
        | some xs =>
          rw [hi] at q
          obtain ⟨p, ws, rfl, h1, h2⟩ := items_at h st hd hi
          exact call_list_of pins s σ H [.ref p] us Q I r ⟨p, ws, rfl, h1.elim .inr .inl, Got.newL q st h2⟩
      | tuple =>
        have qq : Got W e H (match items μ d with | some xs => .ok (.tup xs) μ | none => .stuck) Q (xkA Wx σ) := q
        clear q
        cases hi : items μ d with
        | none => rw [hi] at qq; exact qq.elim
        | some xs =>
          rw [hi] at qq
          obtain ⟨p, ws, rfl, h1, h2⟩ := items_at h st hd hi
          refine call_tuple_of pins s σ H [.ref p] us Q I r ⟨p, ws, rfl, ?_⟩
          rcases h1 with h1 | h1
          · -- a tuple stays as it is
            cases d with
            | tup ys =>
              cases hi
              exact .inr ⟨h1, qq.val st hd⟩
            | lst ys =>
              cases hi
              exact .inl ⟨by
                obtain ⟨p', vs', z, g1, g2⟩ := hd
                cases z
                obtain ⟨_, _, ⟨o, q', hc, _⟩, _⟩ := I.tuple h1
                obtain ⟨its, m, q1, _⟩ := sq_exact h I st g1
                rw [q1] at q'; cases q'
                exact absurd hc (by simp), Got.newT qq st h2⟩
            | bor k ys =>
              cases hi
              exact .inl ⟨by
                obtain ⟨p', vs', z, g1, g2⟩ := hd
                cases z
                obtain ⟨_, _, ⟨o, q', hc, _⟩, _⟩ := I.tuple h1
                obtain ⟨_, _, _, _, q1⟩ := I.hok p _ g1
                rw [q1] at q'; cases q'
                exact absurd hc (by simp), Got.newT qq st h2⟩
            | obj o =>
              exact .inl ⟨by
                obtain ⟨p', z, g1⟩ := hd
                cases z
                obtain ⟨ob, hob, _⟩ := cell_obj st g1
                exfalso
                have hi : (match μ[o]? with | some (.lst xs) => some xs | _ => none) = some xs := hi
                cases q : μ[o]? with
                | none => rw [q] at hi; cases hi
                | some so =>
                  rw [q] at hi
                  cases so with
                  | ins _ _ => cases hi
                  | lst ys =>
                    obtain ⟨p', hp', vs, g2, _⟩ := st.cell o _ q
                    rw [g1] at hp'; cases hp'
                    obtain ⟨_, _, ⟨o, q', hc, _⟩, _⟩ := I.tuple h1
                    obtain ⟨_, _, _, _, q1⟩ := I.hok p _ g2
                    rw [q1] at q'; cases q'
                    exact absurd hc (by simp), Got.newT qq st h2⟩
            | _ => cases hi
          · exact .inl ⟨h1, Got.newT qq st h2⟩
      | repr =>
        obtain ⟨u, hu, ru⟩ := vals1 r
        have plain : (∀ c fs, d ≠ .ins c fs) → wpAny (model X.prog X.w) X.A (call (blV .repr) us) (EP X pins σ Q) X.xe s := fun hn => by
          have q : Got W e H (match reprT d with
            | some t => .ok (.str t) μ
            | none => .stuck) Q (xkA Wx σ) := by
            cases d with
            | ins c fs => exact absurd rfl (hn c fs)
            | _ => exact q
          subst hu
          cases ht : reprT d with
          | none => rw [ht] at q; exact q.elim
          | some t =>
            rw [ht] at q
            have hnb : nbD d = true := by cases d <;> first | rfl | cases ht
            exact repr_plain h I st (RepH.of hnb hd) ru ht (q.val st rfl)
        cases d with
        | ins c fs =>
          subst hu
          have q : Got W e H ((dcallL C 13 (.ins c fs) [] μ).bind fun r m => (match r with
            | .str t => .ok (.str t) m
            | _ => .stuck)) Q (xkA Wx σ) := q
          have q2 : Got W e H (dcallL C 13 (.ins c fs) [] μ) (fun v H' => ∃ t, v = .str t ∧ Q v H') (xkA Wx σ) := by
            refine (Aft.bind q).imp fun d m e' H' x' st' z v hv => ?_
            cases d with
            | str t =>
              have z : Aft W e' H' (.ok (.str t) m) (fun d _ e' H' => ∀ v, Rep W e' d v → Q v H') (xkA Wx σ) := z
              exact ⟨t, hv, z.now st' v hv⟩
            | _ => exact z.elim
          obtain ⟨c', a, dx, gs, i, fa, rfl, rfl, hH, hcx, hi', cf, M, _, run⟩ := dcallL_ok h I st hd .nil ru .nil q2
          obtain ⟨m, od, F, KX, J⟩ := inst_rule I hH
          have un := h.room.un
          refine PySem.W.repr_K (by show X.A.units + 1 < cLine; omega) F KX J (by rw [← h.txt.dun 13 "__repr__" rfl]; exact M.at_) M.fn (wpAny_mono run (fun r s' z => ?_) fun _ _ z => z)
          obtain ⟨v', H', I', r', t, rfl, q'⟩ := z
          obtain ⟨tk, rfl⟩ := r'
          exact ⟨.str t, H', I', ⟨_, rfl⟩, q'⟩
        | _ => exact plain fun _ _ z => (nomatch z)
      | _ => first | exact q.elim | (cases d <;> exact q.elim)
    | cons d2 ds =>
      obtain ⟨v2, vs'', rfl, hd2, hds2⟩ := hds
      cases ds with
      | nil =>
        cases (show vs'' = [] from hds2)
        cases k with
        | max =>
          cases d with
          | int i => cases d2 with
            | int j =>
              cases (show v = .int i from hd)
              cases (show v2 = .int j from hd2)
              exact EvW.call_max2W h.warmW pins s σ H _ us Q I r ⟨i, j, rfl, q.val st rfl⟩
            | _ => exact q.elim
          | _ => exact q.elim
        | min =>
          cases d with
          | int i => cases d2 with
            | int j =>
              cases (show v = .int i from hd)
              cases (show v2 = .int j from hd2)
              exact EvW.call_min2W h.warmW pins s σ H _ us Q I r ⟨i, j, rfl, q.val st rfl⟩
            | _ => exact q.elim
          | _ => exact q.elim
        | _ => first | exact q.elim | (cases d <;> exact q.elim) | (cases d <;> cases d2 <;> exact q.elim)
      | cons _ _ => cases k <;> first | exact q.elim | (cases d <;> exact q.elim) | (cases d <;> cases d2 <;> exact q.elim)
theorem bl_boot : ∀ (k : Bl), bootBuiltins (Str.ofString (blN k)) = some (blV k)
  | .len => by kernel_rfl
  | .abs => by kernel_rfl
  | .max => by kernel_rfl
  | .min => by kernel_rfl
  | .str => by kernel_rfl
  | .repr => by kernel_rfl
  | .int => by kernel_rfl
  | .bool => by kernel_rfl
  | .list => by kernel_rfl
  | .tuple => by kernel_rfl
  | .any => by kernel_rfl
  | .all => by kernel_rfl
theorem bl_nm (k : Bl) : Str.ofString (blN k) ≠ "__name__" ∧ (Str.ofString (blN k) == ("__debug__" : Str)) = false ∧ Str.ofString (blN k) ∈ BLT := by
  cases k <;> refine ⟨by decide +kernel, by decide +kernel, ?_⟩ <;> simp [BLT, blN]
theorem blt_run (h : Hyp W X n C Wx) (k : Bl) (ha : PA X es (rA W C Wx H0 ys)) {Q : VK} {σd : Sg} (I : Inv X pins σ H s) (st : St0 W e μ H) (lo : Lo W e H0 σd σ H)
    (q : Aft W e H (evE C (.blt k ys) σd μ) (fun d _ e' H' => ∀ v, RepH W e' H' d v → Q v H') (xkA Wx σ)) :
    wpAny (model X.prog X.w) X.A (spliced (backTo pos (starEach es X.env))) (fun us s1 => wpAny (model X.prog X.w) X.A (call (blV k) us) (EP X pins σ Q) X.xe s1) X.xe s :=
  thn (ha.run pos pins s σ H (fun vs H' => ∃ ds m e', St0 W e' m H' ∧ RepHL W e' H' ds vs ∧ Got W e' H' (evBl C k ds m) Q (xkA Wx σ)) I (rA.at st lo (Aft.bind q) fun d m e' H' v x st' _ r hv => ⟨d, m, e', st', hv, .of r⟩)) fun us s1 ⟨vs, H1, I1, r, ds, m, e', st', hv, rr⟩ => bl_ok h k I1 st' hv r rr
theorem snd_bltB (h : Hyp W X n C Wx) (k : Bl) {x : Str} {id : String} {e0 : Expr} {es0 : List Expr} (hb : blV k = .builtin id) (hx : x = Str.ofString (blN k)) (hg : Gl X x) (hns : (e0 :: es0).all noStar = true) (ha : PA X (e0 :: es0) (rA W C Wx H0 ys)) :
    PE X (.Call (.Name x p) (e0 :: es0) [] pos) (rE W C Wx H0 (.blt k ys)) := by
  refine ⟨fun pins s σ H Q I ⟨e, μ, σd, st, lo, q⟩ => ?_⟩
  have run := blt_run (pos := pos) h k ha I st lo q
  rw [hb] at run
  rw [List.all_cons, Bool.and_eq_true] at hns
  subst hx
  obtain ⟨n1, n2, n3⟩ := bl_nm k
  refine wpAny_Call_Name_kw (ld_blt (u := .builtin id) I hg (by rw [h.mg]; exact h.txt.blt _ n3) ((bl_boot k).trans (by rw [hb])) ?_ n1 n2)
  exact PyProof.Rows.callWith_builtin1 run (star_no hns.1) (any_no hns.2)
theorem snd_bltT (h : Hyp W X n C Wx) (k : Bl) {x : Str} {id : String} {e0 : Expr} {es0 : List Expr} (hb : blV k = .type id) (hx : x = Str.ofString (blN k)) (hg : Gl X x) (hns : (e0 :: es0).all noStar = true) (ha : PA X (e0 :: es0) (rA W C Wx H0 ys)) :
    PE X (.Call (.Name x p) (e0 :: es0) [] pos) (rE W C Wx H0 (.blt k ys)) := by
  refine ⟨fun pins s σ H Q I ⟨e, μ, σd, st, lo, q⟩ => ?_⟩
  have run := blt_run (pos := pos) h k ha I st lo q
  rw [hb] at run
  rw [List.all_cons, Bool.and_eq_true] at hns
  subst hx
  obtain ⟨n1, n2, n3⟩ := bl_nm k
  refine wpAny_Call_Name_kw (ld_blt (u := .type id) I hg (by rw [h.mg]; exact h.txt.blt _ n3) ((bl_boot k).trans (by rw [hb])) ?_ n1 n2)
  exact PyProof.Rows.callWith_type1 run (star_no hns.1) (any_no hns.2)
theorem snd_blt (h : Hyp W X n C Wx) (k : Bl) {x : Str} {e0 : Expr} {es0 : List Expr} (hx : x = Str.ofString (blN k)) (hg : Gl X x) (hns : (e0 :: es0).all noStar = true) (ha : PA X (e0 :: es0) (rA W C Wx H0 ys)) :
    PE X (.Call (.Name x p) (e0 :: es0) [] pos) (rE W C Wx H0 (.blt k ys)) := by
  cases hk : blV k with
  | builtin id => exact snd_bltB h k hk hx hg hns ha
  | type id => exact snd_bltT h k hk hx hg hns ha
  | _ => cases k <;> cases hk

theorem ty_ok (h : Hyp W X n C Wx) (st : St0 W e μ H) {d : D} {v : V} {t : Ty} (hd : RepH W e H d v) (ht : tyOf μ d = some t) : TyX X.K H v (tyV W t) ∧ tyIn W.T t = true := by
  have insT : ∀ {c : Nat} {a dx : Addr} {gs : List (Str × V)} {i : ClI}, H a = some (.ins (W.ca c) dx gs) → W.T.cls[c]? = some i → i.isexc = false → TyX X.K H (.ref a) (tyV W (.ins c)) ∧ tyIn W.T (.ins c) = true := by
    intro c a dx gs i hH hi hx
    have cf := h.txt.cls c i hi hx
    refine ⟨.base (.ins hH (by rw [h.K]; exact cf.cls) (by rw [h.K]; exact cf.cla) (by rw [h.K]; exact h.txt.ccg) (by rw [h.K]; exact h.txt.cct) (by rw [h.K]; exact cf.mro)), ?_⟩
    show (W.T.cls[c]?).isSome = true
    rw [hi]; rfl
  cases d with
  | non => cases ht; cases (show v = .non from hd); exact ⟨.base .non, rfl⟩
  | bl b => cases ht; cases (show v = .bl b from hd); exact ⟨.base (.bl b), rfl⟩
  | int b => cases ht; cases (show v = .int b from hd); exact ⟨.base (.int b), rfl⟩
  | str b => cases ht; cases (show v = .str b from hd); exact ⟨.base (.str b), rfl⟩
  | tup xs =>
    cases ht
    obtain ⟨a, vs, rfl, h1, _⟩ := hd
    rcases sqT_sub h1 st.sub with (h1 | ⟨o, h1⟩) | ⟨o, its, m, h1, h2, _⟩
    · exact ⟨.base (.tup h1), rfl⟩
    · exact ⟨.fTuple h1, rfl⟩
    · rw [← h.K] at h1; exact ⟨.kTuple h1 h2, rfl⟩
  | lst xs =>
    cases ht
    obtain ⟨a, vs, rfl, h1, _⟩ := hd
    rcases h1.sq st.sub with (h1 | ⟨o, h1⟩) | ⟨o, its, m, h1, h2, _⟩
    · exact ⟨.base (.lst h1), rfl⟩
    · exact ⟨.base (.frz h1), rfl⟩
    · rw [← h.K] at h1; exact ⟨.kList h1 h2, rfl⟩
  | bor k xs =>
    cases ht
    obtain ⟨a, vs, rfl, h1, _⟩ := hd
    exact ⟨.base (.lst h1), rfl⟩
  | ins c fs =>
    cases ht
    obtain ⟨a, dx, gs, vs, i, rfl, h1, h2, h3, _⟩ := hd
    exact insT (st.sub _ _ h1) h2 h3
  | obj o =>
    obtain ⟨a, rfl, ha⟩ := hd
    have ht : (match μ[o]? with | some (.lst _) => some Ty.lst | some (.ins c _) => some (.ins c) | none => none) = some t := ht
    cases q : μ[o]? with
    | none => rw [q] at ht; cases ht
    | some so =>
      rw [q] at ht
      obtain ⟨a', ha', hr⟩ := st.cell o _ q
      rw [ha] at ha'; cases ha'
      cases so with
      | lst ys =>
        cases ht
        obtain ⟨vs, h1, _⟩ := hr
        exact ⟨.base (.lst h1), rfl⟩
      | ins c fs =>
        cases ht
        obtain ⟨dx, gs, i, h1, h2, h3, _⟩ := hr
        exact insT h1 h2 h3
def kdN : Kd → Option String
  | .int => some "int"
  | .str => some "str"
  | .bool => some "bool"
  | .list => some "list"
  | .tuple => some "tuple"
  | .cls _ => none
def kdVV (W : Wd) : Kd → V
  | .int => .ty "int"
  | .str => .ty "str"
  | .bool => .ty "bool"
  | .list => .ty "list"
  | .tuple => .ty "tuple"
  | .cls c => .ref (W.ca c)
theorem kd_cls (k : Kd) : ClsV (kdVV W k) (kdV W k) := by cases k <;> constructor
def KdName (X : Cx) (T : Tb) (k : Kd) : Expr → Prop
  | .Name x _ => Gl X x ∧ (x == ("__debug__" : Str)) = false ∧ (match k with
    | .cls c => (T.cls[c]?).map (·.name) = some x
    | k => (kdN k).map Str.ofString = some x)
  | _ => False
theorem pe_kd (h : Hyp W X n C Wx) {k : Kd} {x : Expr} (hk : KdName X W.T k x) : PE X x (tC (kdVV W k)) ∧ kdIn W.T k = true ∧ noStar x = true := by
  cases x with
  | Name x pos =>
    obtain ⟨hg, hd, hk⟩ := hk
    have bl : ∀ (nm : String), (nm = "int" ∨ nm = "str" ∨ nm = "bool" ∨ nm = "list" ∨ nm = "tuple") → some (Str.ofString nm) = some x → PE X (.Name x pos) (tC (.ty nm)) := by
      intro nm hn hx
      cases hx
      rcases hn with rfl | rfl | rfl | rfl | rfl <;>
        exact pe_bltn (u := .type _) hg (by rw [h.mg]; exact h.txt.blt _ (by simp [BLT])) (by kernel_rfl) rfl (by decide +kernel) hd
    cases k with
    | cls c =>
      have hk : (W.T.cls[c]?).map (·.name) = some x := hk
      cases hi : W.T.cls[c]? with
      | none => rw [hi] at hk; cases hk
      | some i =>
        rw [hi] at hk
        have hk : i.name = x := by simpa using hk
        subst hk
        exact ⟨pe_glob (u := .ref (W.ca c)) hg (by rw [h.mg]; exact (h.txt.clsg c i hi).1) rfl hd, by show (W.T.cls[c]?).isSome = true; rw [hi]; rfl, rfl⟩
    | int => exact ⟨bl "int" (by simp) hk, rfl, rfl⟩
    | str => exact ⟨bl "str" (by simp) hk, rfl, rfl⟩
    | bool => exact ⟨bl "bool" (by simp) hk, rfl, rfl⟩
    | list => exact ⟨bl "list" (by simp) hk, rfl, rfl⟩
    | tuple => exact ⟨bl "tuple" (by simp) hk, rfl, rfl⟩
  | _ => exact hk.elim
theorem isin_name : X.mg "isinstance" = none → True := fun _ => trivial
theorem snd_isin (h : Hyp W X n C Wx) (pn : Pn W X C H0) {k : Kd} {cx : Expr} {x : Str} (hx : x = "isinstance") (hg : Gl X x) (hk : KdName X W.T k cx) (hs : noStar a = true) (ha : PE X a (rE W C Wx H0 A)) (hvar : ∀ i, A.isVar = some i → ∃ x p, a = .Name x p ∧ X.N[i]? = some x ∧ Vis X.env.scope x ∧ (x == ("__debug__" : Str)) = false ∧ (x == ("__classdict__" : Str)) = false) :
    PE X (.Call (.Name x p) [a, cx] [] pos) (rE W C Wx H0 (.isin A false [k])) := by
  refine ⟨fun pins s σ H Q I ⟨e, μ, σd, st, lo, q⟩ => ?_⟩
  have q : Aft W e H (match A.isVar.bind fun i => getExn σd i with | some c => .ok (.bl ([k].any (isTy C.T (.ins c)))) μ | none => (evE C A σd μ).bind fun x m => match tyOf m x with | some t => .ok (.bl ([k].any (isTy C.T t))) m | none => .stuck) (fun d _ e' H' => ∀ v, RepH W e' H' d v → Q v H') (xkA Wx σ) := q
  cases hge : A.isVar.bind fun i => getExn σd i with
  | some c =>
    rw [hge] at q
    cases hv0 : A.isVar with
    | none => rw [hv0] at hge; cases hge
    | some i =>
      rw [hv0] at hge
      have hge : getExn σd i = some c := hge
      obtain ⟨y, py, rfl, hN, hvis, hd1, hd2⟩ := hvar i hv0
      unfold getExn at hge
      split at hge
      · rename_i c' fs' hat
        cases hge
        obtain ⟨v, hv1, a', dx, gs, i', rfl, hx0, h1, h2, h2x, h3, _⟩ := lo.at_ i _ hat
        have ef := h.txt.exc c i' h2 h2x
        obtain ⟨oe, hp, o1, o2, vs, o3⟩ := pn.pin _ _ _ hx0
        obtain ⟨pk, ki, ns⟩ := pe_kd h hk
        have pa : PA X [.Name y py, cx] (tCons (tVar i) (tCons (tC (kdVV W k)) tNil)) := pa_cons (pe_var hN hvis hd1 hd2) (pa_cons pk pa_nil (star_no ns)) (star_no hs)
        have cr : CallR X (.builtin "isinstance") (fun xs H' Q' => xs = [.ref a', kdVV W k] ∧ (∃ gs', H' dx = some (.xd gs')) ∧ Q' (.bl (isTy W.T (.ins c) k)) H') := by
          intro pins2 s2 σ2 H2 xs us Q2 I2 r2 ⟨ex, ⟨gs2, hdx⟩, q2⟩
          subst ex
          obtain ⟨u1, u2, rfl, ru1, ru2⟩ := vals2 r2
          cases ru1
          have ek := (kd_cls (W := W) k).eq ru2
          subst ek
          obtain ⟨ha0, _⟩ := I2.pin (a', oe) (List.mem_append_left _ hp)
          have hx : ObjOk X.prog X.w H2 s2.heap dx (.xd gs2) := I2.hok dx _ hdx
          obtain ⟨mA, hns, hr⟩ := hx
          obtain ⟨od, ho, hlk⟩ := lookIn_ns hns
          have J : PySem.W.InstAt s2.heap a' oe (W.ca c) (some od) := ⟨ha0, o1, by unfold PySem.W.notCls; rw [o3] <;> rfl, by rw [o2]; exact ho⟩
          have xf := ef.xf
          have e1 := ef.inst
          have e2 := ef.cls
          have e3 := ef.top
          have e4 := h.txt.ccg
          have e5 := h.txt.cct
          have e6 := h.txt.isi (.ins c) k (by show (W.T.cls[c]?).isSome = true; rw [h2]; rfl) ki
          rw [← h.K] at xf e1 e2 e3 e4 e5 e6
          exact PySem.W.kia_one (PySem.W.kitx_exc e1 xf.ga xf.gg xf.exC e2 e4 e5 e3) I2.kIn J e6 (fun z => nomatch z) fun tk => ⟨.bl _, H2, I2.kept (t' := tk) fun _ _ z => z, rfl, q2⟩
        refine (pe_callB cr hg (by rw [h.mg, hx]; exact h.txt.blt _ (by simp [BLT])) (by rw [hx]; kernel_rfl) pa (by rw [hx]; decide +kernel) (by rw [hx]; decide +kernel) (star_no hs) (any_no (es := [cx]) (by simp [ns]))).run pins s σ H Q I ?_
        refine ⟨_, hv1, rfl, ⟨gs, h1⟩, ?_⟩
        have := q.now st (.bl ([k].any (isTy C.T (.ins c)))) rfl
        rw [h.T] at this
        simpa using this
      · cases hge
  | none =>
  rw [hge] at q
  clear hge
  obtain ⟨pk, ki, ns⟩ := pe_kd h hk
  have pa : PA X [a, cx] (tCons (rE W C Wx H0 A) (tCons (tC (kdVV W k)) tNil)) := pa_cons ha (pa_cons pk pa_nil (star_no ns)) (star_no hs)
  refine (pe_callB call_isi hg (by rw [h.mg, hx]; exact h.txt.blt _ (by simp [BLT])) (by rw [hx]; kernel_rfl) pa (by rw [hx]; decide +kernel) (by rw [hx]; decide +kernel) (star_no hs) (any_no (es := [cx]) (by simp [ns]))).run pins s σ H Q I ?_
  refine rE.at st lo (Aft.bind q) fun d m e' H' v x st' lo' r hv => ?_
  have r : Aft W e' H' (match tyOf m d with | some t => .ok (.bl ([k].any (isTy C.T t))) m | none => .stuck) (fun d _ e' H' => ∀ v, RepH W e' H' d v → Q v H') (xkA Wx σ) := r
  cases ht : tyOf m d with
  | none => rw [ht] at r; exact r.elim
  | some t =>
    rw [ht] at r
    obtain ⟨h1, h2⟩ := ty_ok h st' hv ht
    refine ⟨v, kdVV W k, _, _, isTy W.T t k, rfl, kd_cls k, h1, by rw [h.K]; exact h.txt.isi t k h2 ki, ?_⟩
    have := r.now st' (.bl ([k].any (isTy C.T t))) rfl
    rw [h.T] at this
    simpa using this
theorem cut_rep {xs : List D} {vs : List V} {lo hi : Option Int} (r : RepL W e xs vs) : RepL W e (cut xs lo hi) (cutV vs lo hi) := by
  unfold cut cutV
  rw [r.length]
  exact RepL.take _ (RepL.drop _ r)
def rO (W : Wd) (C : Cl) (Wx : WX) (H0 : En) (a : Eo) : TO := fun σ H Q => ∃ e μ σd, St0 W e μ H ∧ Lo W e H0 σd σ H ∧ Aft W e H (evEo C a σd μ) (fun o _ _ H' => Q o H') (xkA Wx σ)
theorem snd_onone : PO X none (rO W C Wx H0 .none) := ⟨fun pins s σ H Q I ⟨e, μ, σd, st, lo, q⟩ => po_none.run pins s σ H Q I (q.now st)⟩
theorem snd_osome (ha : PE X a (rE W C Wx H0 A)) : PO X (some a) (rO W C Wx H0 (.some A)) := by
  refine ⟨fun pins s σ H Q I ⟨e, μ, σd, st, lo, q⟩ => ?_⟩
  refine (po_some ha).run pins s σ H Q I (rE.at st lo (Aft.bind q) fun d m e' H' v x st' lo' r hv => ?_)
  cases d with
  | int i => exact ⟨i, hv, r.now st'⟩
  | _ => exact r.elim
theorem snd_sl (h : Hyp W X n C Wx) {lo hi : Option Expr} {L U : Eo} {p2 : Pos} (ha : PE X a (rE W C Wx H0 A)) (hl : PO X lo (rO W C Wx H0 L)) (hu : PO X hi (rO W C Wx H0 U)) : PE X (.Subscript a (.Slice lo hi none p2) pos) (rE W C Wx H0 (.sl A L U)) := by
  refine ⟨fun pins s σ H Q I ⟨e, μ, σd, st, lo, q⟩ => ?_⟩
  refine (pe_slice (sl_list.or sl_tup) ha hl hu).run pins s σ H Q I (rE.at st lo (Aft.bind q) fun d m e' H' v x st' lo' r hv => ?_)
  refine ⟨e', m, σd, st', lo', (Aft.bind r).imp fun l m2 e2 H2 x2 st2 r2 => ⟨e2, m2, σd, st2, lo'.ex x2, (Aft.bind r2).imp fun u m3 e3 H3 x3 st3 r3 => ?_⟩⟩
  have hv3 := (hv.ex x2).ex x3
  have r3 : Aft W e3 H3 (match getSl d l u with | some d => .ok d m3 | none => .stuck) (fun d _ e' H' => ∀ v, RepH W e' H' d v → Q v H') (xkA Wx σ) := r3
  cases d with
  | lst xs =>
    obtain ⟨p, vs, rfl, h1, h2⟩ := hv3
    exact .inl ⟨p, vs, rfl, by rw [h.K]; exact h1.sq st3.sub, Got.newL (Got.of r3) st3 (cut_rep h2)⟩
  | bor k xs =>
    obtain ⟨p, vs, rfl, h1, h2, _⟩ := hv3
    exact .inl ⟨p, vs, rfl, .of h1, Got.newL (Got.of r3) st3 (cut_rep h2)⟩
  | tup xs =>
    obtain ⟨p, vs, rfl, h1, h2⟩ := hv3
    have r3 : Aft W e3 H3 (match (if HT.sIx xs.length 0 l = 0 ∧ HT.sIx xs.length xs.length u = xs.length then none else some (.tup (cut xs l u)) : Option D) with | some d => .ok d m3 | none => .stuck) (fun d _ e' H' => ∀ v, RepH W e' H' d v → Q v H') (xkA Wx σ) := r3
    by_cases z : HT.sIx xs.length 0 l = 0 ∧ HT.sIx xs.length xs.length u = xs.length
    · rw [if_pos z] at r3; exact r3.elim
    · rw [if_neg z] at r3
      exact .inr ⟨p, vs, rfl, by rw [h.K]; exact sqT_sub h1 st3.sub, by rw [h2.length]; exact z, Got.newT (Got.of r3) st3 (cut_rep h2)⟩
  | _ => exact r3.elim
end
end Ev

set_option maxRecDepth 100000
set_option maxHeartbeats 2000000
namespace Ev
open PySem PySem.Spec PyProof.Rows L2
section
variable {W : Wd} {X : Cx} {n : Nat} {C : Cl} {Wx : WX} {H0 : En} {pins : List (Addr × Obj)} {σ : L2.St} {H H1 : Hp} {s : Shared} {e e1 : Em} {μ : Mu} {pos p : Pos}
def tFs (W : Wd) (C : Cl) (Wx : WX) (H0 : En) : Es → List TE
  | .nil => []
  | .cons true a es => tFmt (rE W C Wx H0 a) :: tFs W C Wx H0 es
  | .cons false a es => rE W C Wx H0 a :: tFs W C Wx H0 es
def litS : E → Bool
  | .lit (.str _) => true
  | _ => false
def fsOk : Es → Bool
  | .nil => true
  | .cons true _ es => fsOk es
  | .cons false a es => litS a && fsOk es
theorem fs_run {σd : Sg} : ∀ (xs : Es) (acc : Str) (e : Em) (μ : Mu) (H : Hp) (Q : Str → Hp → Prop), fsOk xs = true → St0 W e μ H → Lo W e H0 σd σ H → Aft W e H (evFs C xs acc σd μ) (fun t _ _ H' => Q t H') (xkA Wx σ) → tJs (tFs W C Wx H0 xs) acc σ H Q
  | .nil, acc, e, μ, H, Q, _, st, _, q => q.now st
  | .cons star a es, acc, e, μ, H, Q, hk, st, lo, q => by
    have q : Aft W e H ((evE C a σd μ).bind fun x m => match fmtD x with | some t => if (acc ++ t).length ≤ LINE then evFs C es (acc ++ t) σd m else .stuck | none => .stuck) (fun t _ _ H' => Q t H') (xkA Wx σ) := q
    cases star with
    | true =>
      refine rE.at st lo (Aft.bind q) fun d m e' H' v x' st' lo' r hv => ?_
      have r : Aft W e' H' (match fmtD d with | some t => if (acc ++ t).length ≤ LINE then evFs C es (acc ++ t) σd m else .stuck | none => .stuck) (fun t _ _ H' => Q t H') (xkA Wx σ) := r
      cases d with
      | str t =>
        cases (show v = .str t from hv)
        by_cases hz : t.length ≤ LINE
        · have ef : fmtD (.str t) = some t := if_pos hz
          rw [ef] at r
          have r : Aft W e' H' (if (acc ++ t).length ≤ LINE then evFs C es (acc ++ t) σd m else .stuck) (fun t _ _ H' => Q t H') (xkA Wx σ) := r
          split at r
          · rename_i hl
            exact .inl ⟨t, rfl, by rw [sizeLine_eq]; exact hz, t, rfl, by rw [sizeLine_eq]; exact hl, fs_run es _ e' m H' Q hk st' lo' r⟩
          · exact r.elim
        · have ef : fmtD (.str t) = none := if_neg hz
          rw [ef] at r; exact r.elim
      | int i =>
        cases (show v = .int i from hv)
        by_cases hz : i.natAbs.log2 < 1920
        · have ef : fmtD (.int i) = some (toString i) := if_pos hz
          rw [ef] at r
          have r : Aft W e' H' (if (acc ++ (toString i : Str)).length ≤ LINE then evFs C es (acc ++ (toString i : Str)) σd m else .stuck) (fun t _ _ H' => Q t H') (xkA Wx σ) := r
          split at r
          · rename_i hl
            exact .inr ⟨i, rfl, hz, _, rfl, by rw [sizeLine_eq]; exact hl, fs_run es _ e' m H' Q hk st' lo' r⟩
          · exact r.elim
        · have ef : fmtD (.int i) = none := if_neg hz
          rw [ef] at r; exact r.elim
      | _ => exact r.elim
    | false =>
      obtain ⟨h1, h2⟩ : litS a = true ∧ fsOk es = true := by simpa [fsOk] using hk
      obtain ⟨t, rfl⟩ : ∃ t, a = .lit (.str t) := by
        unfold litS at h1
        split at h1
        · exact ⟨_, rfl⟩
        · cases h1
      have q2 : Aft W e H (evE C (.lit (.str t)) σd μ) (fun d m e' H' => d = .str t ∧ Aft W e' H' (match fmtD d with | some t => if (acc ++ t).length ≤ LINE then evFs C es (acc ++ t) σd m else .stuck | none => .stuck) (fun t _ _ H' => Q t H') (xkA Wx σ)) (xkA Wx σ) :=
        fun e' H' x' st' => ⟨rfl, Aft.bind q e' H' x' st'⟩
      refine rE.at st lo q2 fun d m e' H' v x' st' lo' r hv => ?_
      obtain ⟨rfl, r⟩ := r
      cases (show v = .str t from hv)
      by_cases hz : t.length ≤ LINE
      · have ef : fmtD (.str t) = some t := if_pos hz
        rw [ef] at r
        have r : Aft W e' H' (if (acc ++ t).length ≤ LINE then evFs C es (acc ++ t) σd m else .stuck) (fun t _ _ H' => Q t H') (xkA Wx σ) := r
        split at r
        · rename_i hl
          exact ⟨t, rfl, by rw [sizeLine_eq]; exact hl, fs_run es _ e' m H' Q h2 st' lo' r⟩
        · exact r.elim
      · have ef : fmtD (.str t) = none := if_neg hz
        rw [ef] at r; exact r.elim
theorem snd_fstr {xs : Es} {v1 v2 : Expr} {rest : List Expr} (hk : fsOk xs = true) (hp : PJ X (v1 :: v2 :: rest) (tFs W C Wx H0 xs)) : PE X (.JoinedStr (v1 :: v2 :: rest) pos) (rE W C Wx H0 (.fstr xs)) := by
  refine ⟨fun pins s σ H Q I ⟨e, μ, σd, st, lo, q⟩ => ?_⟩
  refine (pe_joined hp).run pins s σ H Q I (fs_run xs _ e μ H _ hk st lo ((Aft.bind q).imp fun t m e' H' x' st' r => r.now st' (.str t) rfl))
end
end Ev

set_option maxRecDepth 100000
set_option maxHeartbeats 2000000
namespace Ev
open PySem PySem.Spec PyProof.Rows L2
mutual
def tgIn (vs : List Nat) : Tg → Bool
  | .name i => vs.contains i
  | .tup ts => tgsIn vs ts
def tgsIn (vs : List Nat) : Tgs → Bool
  | .nil => true
  | .cons t ts => tgIn vs t && tgsIn vs ts
end
theorem wipe_set {σ : L2.St} {i : Nat} {x : Option V} : ∀ {vs : List Nat}, i ∈ vs → wipe (σ.set i x) vs = wipe σ vs
  | [], h => absurd h (by simp)
  | v :: vs, h => by
    have comm : ∀ ws : List Nat, wipe (σ.set i x) ws = (wipe σ ws).set i x ∨ wipe (σ.set i x) ws = wipe σ ws := by
      intro ws
      induction ws with
      | nil => exact .inl rfl
      | cons w ws ih =>
        show (wipe (σ.set i x) ws).set w none = ((wipe σ ws).set w none).set i x ∨ (wipe (σ.set i x) ws).set w none = (wipe σ ws).set w none
        rcases ih with ih | ih
        · rw [ih]
          by_cases hw : w = i
          · subst hw; right; rw [List.set_set]
          · left; rw [List.set_comm _ _ (Ne.symm hw)]
        · right; rw [ih]
    show (wipe (σ.set i x) vs).set v none = (wipe σ vs).set v none
    by_cases hi : i ∈ vs
    · rw [wipe_set hi]
    · have hv : i = v := by simp only [List.mem_cons] at h; exact h.resolve_right hi
      subst hv
      rcases comm vs with h | h
      · rw [h, List.set_set]
      · rw [h]
def Only (t : Tg) (σ σ' : L2.St) : Prop := ∀ vs, tgIn vs t = true → wipe σ' vs = wipe σ vs
def OnlyS (t : Tgs) (σ σ' : L2.St) : Prop := ∀ vs, tgsIn vs t = true → wipe σ' vs = wipe σ vs
section
variable {W : Wd} {X : Cx} {n : Nat} {C : Cl} {Wx : WX} {H0 : En} {pins : List (Addr × Obj)} {σ : L2.St} {H H1 : Hp} {s : Shared} {e e1 : Em} {μ : Mu} {a b c : Expr} {A B D' : E} {pos p : Pos} {es : List Expr} {ys : Es}
theorem Lo.set {σd : Sg} (l : Lo W e H0 σd σ H) {d : D} {v : V} (i : Nat) (r : Rep W e d v) : Lo W e H0 (σd.set i (some (.val d))) (σ.set i (some v)) H := by
  refine ⟨by simp [l.len], fun j q h => ?_, fun j k q q' w hjk h1 h2 p1 p2 h3 => ?_⟩
  · by_cases hj : j = i
    · subst hj
      by_cases hl : j < σd.length
      · rw [List.getElem?_set_self hl] at h; cases h
        exact ⟨v, by rw [List.getElem?_set_self (by rw [l.len]; exact hl)], r⟩
      · rw [List.getElem?_eq_none (by simpa using hl)] at h; cases h
    · rw [List.getElem?_set_ne (Ne.symm hj)] at h ⊢
      exact l.at_ j q h
  · have nj : j ≠ i := fun z => by
      subst z
      by_cases hl : j < σd.length
      · rw [List.getElem?_set_self hl] at h1; cases h1; cases p1
      · rw [List.getElem?_eq_none (by simpa using hl)] at h1; cases h1
    have nk : k ≠ i := fun z => by
      subst z
      by_cases hl : k < σd.length
      · rw [List.getElem?_set_self hl] at h2; cases h2; cases p2
      · rw [List.getElem?_eq_none (by simpa using hl)] at h2; cases h2
    rw [List.getElem?_set_ne (Ne.symm nj)] at h1 h3
    rw [List.getElem?_set_ne (Ne.symm nk)] at h2 ⊢
    exact l.ne j k q q' w hjk h1 h2 p1 p2 h3
theorem Lo.wipe {σd : Sg} (l : Lo W e H0 σd σ H) : ∀ vs, Lo W e H0 (wipeD σd vs) (wipe σ vs) H
  | [] => l
  | v :: vs => by
    have l := Lo.wipe l vs
    show Lo W e H0 ((wipeD σd vs).set v none) ((L2.wipe σ vs).set v none) H
    have back : ∀ {j : Nat} {q : L}, ((wipeD σd vs).set v none)[j]? = some (some q) → j ≠ v ∧ (wipeD σd vs)[j]? = some (some q) := by
      intro j q h
      by_cases hj : j = v
      · subst hj
        by_cases hl : j < (wipeD σd vs).length
        · rw [List.getElem?_set_self hl] at h; cases h
        · rw [List.getElem?_eq_none (by simpa using hl)] at h; cases h
      · rw [List.getElem?_set_ne (Ne.symm hj)] at h
        exact ⟨hj, h⟩
    refine ⟨by simp [l.len], fun j q h => ?_, fun j k q q' w hjk h1 h2 p1 p2 h3 => ?_⟩
    · obtain ⟨hj, h⟩ := back h
      rw [List.getElem?_set_ne (Ne.symm hj)]
      exact l.at_ j q h
    · obtain ⟨nj, h1⟩ := back h1
      obtain ⟨nk, h2⟩ := back h2
      rw [List.getElem?_set_ne (Ne.symm nj)] at h3
      rw [List.getElem?_set_ne (Ne.symm nk)]
      exact l.ne j k q q' w hjk h1 h2 p1 p2 h3
def rG (W : Wd) (H0 : En) (t : Tg) : TG := fun v σ H Q => ∃ e μ σd d σd', St0 W e μ H ∧ Lo W e H0 σd σ H ∧ Rep W e d v ∧ bindT t d σd = some σd' ∧ ∀ σ', Lo W e H0 σd' σ' H → Only t σ σ' → Q σ' H
def rGs (W : Wd) (H0 : En) (t : Tgs) : TGs := fun vs σ H Q => ∃ e μ σd ds σd', St0 W e μ H ∧ Lo W e H0 σd σ H ∧ RepL W e ds vs ∧ bindTs t ds σd = some σd' ∧ ∀ σ', Lo W e H0 σd' σ' H → OnlyS t σ σ' → Q σ' H
theorem snd_gname (h : Hyp W X n C Wx) {i : Nat} {x : Str} (hi : X.N[i]? = some x) (hx : Loc X.env.scope x) (hf : X.fn x = true ∨ X.env.scope.names.lookup x = some .local) : PG X (.Name x pos) (rG W H0 (.name i)) := by
  refine ⟨fun pins s σ H v u Q I r ⟨e, μ, σd, d, σd', st, lo, rd, hb, k⟩ => ?_⟩
  refine (pg_name h.nd hi hx hf).run pins s σ H v u Q I r ?_
  have hb : (if nbD d then some (σd.set i (some (.val d))) else none) = some σd' := hb
  rw [if_pos rd.nb] at hb
  cases hb
  exact k _ (lo.set i rd) fun vs hv => wipe_set (by simpa [tgIn] using hv)
theorem asg_len : ∀ {es : List Expr} {env : Env}, (assignEach es env).length = es.length
  | [], _ => rfl
  | x :: xs, env => by cases x <;> (show (assignEach xs env).length + 1 = xs.length + 1) <;> rw [asg_len]
theorem asg_none : ∀ {es : List Expr} {env : Env}, es.all noStar = true → (assignEach es env).findIdx? (·.1) = none
  | [], _, _ => rfl
  | x :: xs, env, h => by
    rw [List.all_cons, Bool.and_eq_true] at h
    have ih := asg_none (env := env) h.2
    have e0 : assignEach (x :: xs) env = (false, assign x env) :: assignEach xs env := by cases x <;> first | rfl | cases h.1
    rw [e0, List.findIdx?_cons, ih]; rfl
theorem asg_cons {x : Expr} {xs : List Expr} {env : Env} (h : noStar x = true) : (assignEach (x :: xs) env).map (·.2) = assign x env :: (assignEach xs env).map (·.2) := by
  cases x <;> first | rfl | cases h
theorem snd_gnil : PGs X [] (rGs W H0 .nil) := by
  refine ⟨fun pins s σ H vs us Q I r ⟨e, μ, σd, ds, σd', st, lo, rd, hb, k⟩ => ?_⟩
  cases ds with
  | nil =>
    cases hb
    exact pgs_nil.run pins s σ H vs us Q I r ⟨rd, k _ lo fun _ _ => rfl⟩
  | cons _ _ => cases hb
theorem snd_gcons {x : Expr} {xs : List Expr} {t : Tg} {ts : Tgs} (hs : noStar x = true) (h1 : PG X x (rG W H0 t)) (h2 : PGs X xs (rGs W H0 ts)) : PGs X (x :: xs) (rGs W H0 (.cons t ts)) := by
  refine ⟨fun pins s σ H vs us Q I r ⟨e, μ, σd, ds, σd', st, lo, rd, hb, k⟩ => ?_⟩
  cases ds with
  | nil => cases hb
  | cons d ds =>
    obtain ⟨v, vr, rfl, r1, r2⟩ := rd
    have hb : (bindT t d σd).bind (fun σ' => bindTs ts ds σ') = some σd' := hb
    cases hq : bindT t d σd with
    | none => rw [hq] at hb; cases hb
    | some σ1 =>
      rw [hq] at hb
      refine (pgs_cons h1 h2 (asg_cons hs)).run pins s σ H _ us Q I r ⟨v, vr, rfl, e, μ, σd, d, σ1, st, lo, r1, hq, fun σ' lo' on => ⟨e, μ, σ1, ds, σd', st, lo', r2, hb, fun σ'' lo'' on' => k σ'' lo'' fun vs hv => ?_⟩⟩
      have hv : (tgIn vs t && tgsIn vs ts) = true := hv
      rw [Bool.and_eq_true] at hv
      rw [on' vs hv.2, on vs hv.1]
theorem snd_gtup (h : Hyp W X n C Wx) {ts : Tgs} {kk : Nat} (hs : es.all noStar = true) (hp : PGs X es (rGs W H0 ts)) (hlen : ∀ ds σd σd', bindTs ts ds σd = some σd' → ds.length = es.length) : PG X (.Tuple es kk pos) (rG W H0 (.tup ts)) := by
  refine ⟨fun pins s σ H v u Q I r ⟨e, μ, σd, d, σd', st, lo, rd, hb, k⟩ => ?_⟩
  cases d with
  | tup xs =>
    obtain ⟨a, vs, rfl, h1, h2⟩ := rd
    exact (EvW.pg_tupW (n := es.length) h.warmW hp asg_len (asg_none hs)).run pins s σ H _ u Q I r ⟨a, vs, rfl, by rw [h.K]; exact sqT_sub h1 st.sub, by rw [h2.length]; exact hlen _ _ _ hb, e, μ, σd, xs, σd', st, lo, h2, hb, k⟩
  | lst xs =>
    obtain ⟨a, vs, rfl, h1, h2⟩ := rd
    exact (EvW.pg_lstW (n := es.length) h.warmW hp asg_len (asg_none hs)).run pins s σ H _ u Q I r ⟨a, vs, rfl, by rw [h.K]; exact h1.sq st.sub, by rw [h2.length]; exact hlen _ _ _ hb, e, μ, σd, xs, σd', st, lo, h2, hb, k⟩
  | _ => cases hb
end
end Ev

set_option maxRecDepth 100000
set_option maxHeartbeats 2000000
namespace Ev
open PySem PySem.Spec PyProof.Rows L2
structure Gr (e e' : Em) : Prop where
  g : ∀ a o, e.G a = some o → e'.G a = some o
  r : ∀ i a, e.r i = some a → e'.r i = some a
theorem Gr.refl (e : Em) : Gr e e := ⟨fun _ _ h => h, fun _ _ h => h⟩
theorem Gr.trans {e e1 e2 : Em} (x : Gr e e1) (y : Gr e1 e2) : Gr e e2 := ⟨fun a o h => y.g a o (x.g a o h), fun i a h => y.r i a (x.r i a h)⟩
theorem Ex.gr {e e' : Em} {H H' : Hp} (x : Ex e H e' H') : Gr e e' := ⟨x.g, x.r⟩
def Later (brw : Bool) (e : Em) (H : Hp) (e' : Em) (H' : Hp) : Prop := if brw then Ex e H e' H' else Gr e e'
theorem Later.gr {brw : Bool} {e e' : Em} {H H' : Hp} (l : Later brw e H e' H') : Gr e e' := by
  cases brw with
  | true => exact Ex.gr (H := H) (H' := H') l
  | false => exact l
structure Wk (W : Wd) (brw : Bool) (J : L2.It) (xs : List D) (e : Em) (H : Hp) : Prop where
  stop : ∀ i e' m H', Later brw e H e' H' → St0 W e' m H' → xs.length ≤ i → J.stop i H'
  go : ∀ i e' m H', Later brw e H e' H' → St0 W e' m H' → i < xs.length → J.go i H'
  yld : ∀ i e' m H' v H'', Later brw e H e' H' → St0 W e' m H' → i < xs.length → J.yld i H' v H'' → ∃ e'' d, xs[i]? = some d ∧ Rep W e'' d v ∧ Ex e' H' e'' H'' ∧ St0 W e'' m H''
def rI (W : Wd) (C : Cl) (Wx : WX) (H0 : En) (brw : Bool) (a : Ev.It) : TI := fun σ H R => ∃ e μ σd, St0 W e μ H ∧ Lo W e H0 σd σ H ∧ Aft W e H (evIt C brw a σd μ) (fun xs m e1 H1 => ∀ (J : L2.It), Wk W brw J xs e1 H1 → R J H1) (xkA Wx σ)
section
variable {W : Wd} {X : Cx} {n : Nat} {C : Cl} {Wx : WX} {H0 : En} {pins : List (Addr × Obj)} {σ : L2.St} {H H1 : Hp} {s : Shared} {e e1 : Em} {μ : Mu} {a b c tg : Expr} {A B D' : E} {pos p : Pos} {es : List Expr} {ys : Es}
theorem wk_list (h : Hyp W X n C Wx) {brw : Bool} {xs : List D} {vs : List V} {q : Addr} (r : RepL W e xs vs) (l : ∀ e' m H', Later brw e H e' H' → St0 W e' m H' → SqL W.K H' q vs) : Wk W brw (Itl W.K q) xs e H := by
  refine ⟨fun i e' m H' x st hi => ⟨vs, l e' m H' x st, by rw [r.length]; exact hi⟩, fun i e' m H' x st hi => ?_, fun i e' m H' v H'' x st hi y => ?_⟩
  · have hi' : i < vs.length := by rw [r.length]; exact hi
    exact ⟨vs, vs[i], l e' m H' x st, List.getElem?_eq_getElem hi'⟩
  · obtain ⟨rfl, hy⟩ := y
    obtain ⟨d, hd, rd⟩ := r.getV (hy vs (l e' m _ x st))
    exact ⟨e', d, hd, rd.mono x.gr.g x.gr.r d v, Ex.refl e' H'', st⟩
theorem wk_tup (h : Hyp W X n C Wx) {brw : Bool} {xs : List D} {vs : List V} {q : Addr} (r : RepL W e xs vs) (l : ∀ e' m H', Later brw e H e' H' → St0 W e' m H' → SqT W.K H' q vs) : Wk W brw (Itt W.K q) xs e H := by
  refine ⟨fun i e' m H' x st hi => ⟨vs, l e' m H' x st, by rw [r.length]; exact hi⟩, fun i e' m H' x st hi => ?_, fun i e' m H' v H'' x st hi y => ?_⟩
  · have hi' : i < vs.length := by rw [r.length]; exact hi
    exact ⟨vs, vs[i], l e' m H' x st, List.getElem?_eq_getElem hi'⟩
  · obtain ⟨rfl, hy⟩ := y
    obtain ⟨d, hd, rd⟩ := r.getV (hy vs (l e' m _ x st))
    exact ⟨e', d, hd, rd.mono x.gr.g x.gr.r d v, Ex.refl e' H'', st⟩
theorem rng_get {k : Int} {i : Nat} (h : i < k.toNat) : (rngD k)[i]? = some (.int (i : Int)) := by
  unfold rngD
  rw [List.getElem?_map, List.getElem?_range h]; rfl
theorem wk_rng (h : Hyp W X n C Wx) {brw : Bool} (k : Int) : Wk W brw (Itr 0 k.toNat) (rngD k) e H := by
  have hl : (rngD k).length = k.toNat := by simp [rngD]
  refine ⟨fun i e' m H' x st hi => by rw [hl] at hi; exact hi, fun i e' m H' x st hi => by rw [hl] at hi; exact hi, fun i e' m H' v H'' x st hi y => ?_⟩
  obtain ⟨rfl, hv⟩ := y
  have hi : i < k.toNat := by rw [hl] at hi; exact hi
  refine ⟨e', .int (i : Int), rng_get hi, ?_, Ex.refl e' H'', st⟩
  rw [hv]; show V.int (0 + (i : Int)) = V.int (i : Int); simp
def iSq (K : PySem.W.Frag) (tl : TE) : TI := fun σ H R => tl σ H fun x H1 => ∃ a, x = .ref a ∧ (((∃ xs, SqL K H1 a xs) ∧ R (Itl K a) H1) ∨ ((∃ xs, SqT K H1 a xs) ∧ R (Itt K a) H1))
theorem pi_sq {l : Expr} {tl : TE} (hl : PE X l tl) : EvW.PIW X tg l (iSq X.K tl) := by
  refine ⟨fun pins s σ H R I h => ?_⟩
  refine thn (hl.run pins s σ H _ I h) fun v s1 ⟨x, H1, I1, r1, q1⟩ => ?_
  obtain ⟨a, rfl, q1⟩ := q1
  cases r1
  rcases q1 with ⟨⟨xs, hq⟩, q⟩ | ⟨⟨xs, hq⟩, q⟩
  · obtain ⟨its, rv, p, hz⟩ := I1.list hq
    refine wpAny_pyIter_list p.isList ?_
    refine ⟨s1.heap.objs.size, [s1.heap.objs.size], _, _, H1, rfl, I1.kept (t' := s1.toks) fun b o e => Heap.get?_push_of_some _ e, EvW.turn_listW a _, ⟨_, Heap.get?_push_size _ rfl, rfl, rfl⟩, fun b hb => ?_, q⟩
    have e : b = s1.heap.objs.size := by simpa using hb
    subst e
    exact I1.fpOk (Nat.le_refl _) (I1.hok.fresh (Nat.le_refl _))
  · obtain ⟨its, rv, p, hz⟩ := I1.tuple hq
    refine wpAny_pyIter_tuple p ?_
    refine ⟨s1.heap.objs.size, [s1.heap.objs.size], _, _, H1, rfl, I1.kept (t' := s1.toks) fun b o e => Heap.get?_push_of_some _ e, EvW.turn_tupleW a _, ⟨_, Heap.get?_push_size _ rfl, rfl, rfl⟩, fun b hb => ?_, q⟩
    have e : b = s1.heap.objs.size := by simpa using hb
    subst e
    exact I1.fpOk (Nat.le_refl _) (I1.hok.fresh (Nat.le_refl _))
theorem snd_sq (h : Hyp W X n C Wx) {brw : Bool} {l : Expr} (hl : PE X l (rE W C Wx H0 A)) : EvW.PIW X tg l (rI W C Wx H0 brw (.seq A)) := by
  refine ⟨fun pins s σ H R I ⟨e, μ, σd, st, lo, q⟩ => ?_⟩
  refine (pi_sq hl).run pins s σ H R I (rE.at st lo (Aft.bind q) fun d m e' H' v x st' lo' r hv => ?_)
  have r : Aft W e' H' (match walk brw d with | some xs => .ok xs m | none => .stuck) (fun xs m e1 H1 => ∀ (J : L2.It), Wk W brw J xs e1 H1 → R J H1) (xkA Wx σ) := r
  cases d with
  | lst xs =>
    obtain ⟨p, vs, rfl, h1, h2⟩ := hv
    have r := r.now st'
    refine ⟨p, rfl, .inl ⟨⟨vs, by rw [h.K]; exact h1.sq st'.sub⟩, ?_⟩⟩
    rw [h.K]
    exact r _ (wk_list h h2 fun e2 m2 H2 x2 st2 => (h1.mono x2.gr.g).sq st2.sub)
  | tup xs =>
    obtain ⟨p, vs, rfl, h1, h2⟩ := hv
    have r := r.now st'
    refine ⟨p, rfl, .inr ⟨⟨vs, by rw [h.K]; exact sqT_sub h1 st'.sub⟩, ?_⟩⟩
    rw [h.K]
    exact r _ (wk_tup h h2 fun e2 m2 H2 x2 st2 => sqT_sub (sqT_sub h1 x2.gr.g) st2.sub)
  | bor k xs =>
    obtain ⟨p, vs, rfl, h1, h2, h3⟩ := hv
    cases brw with
    | false => exact r.elim
    | true =>
      have r := r.now st'
      refine ⟨p, rfl, .inl ⟨⟨vs, .of h1⟩, ?_⟩⟩
      rw [h.K]
      exact r _ (wk_list h h2 fun e2 m2 H2 x2 st2 => .of (Ex.keep (e := e') (H := H') (e' := e2) (H' := H2) x2 p _ h1 h3))
  | _ => exact r.elim
theorem snd_rng (h : Hyp W X n C Wx) {brw : Bool} {l : Expr} {x : Str} (hx : x = "range") (hg : Gl X x) (hs : noStar l = true) (hl : PE X l (rE W C Wx H0 A)) : EvW.PIW X tg (.Call (.Name x p) [l] [] pos) (rI W C Wx H0 brw (.rng A)) := by
  subst hx
  refine ⟨fun pins s σ H R I ⟨e, μ, σd, st, lo, q⟩ => ?_⟩
  have pa : PA X [l] (tCons (rE W C Wx H0 A) tNil) := pa_cons hl pa_nil (star_no hs)
  refine (EvW.pi_range1W hg (by rw [h.mg]; exact h.txt.blt _ (by simp [BLT])) pa (star_no hs)).run pins s σ H R I (rE.at st lo (Aft.bind q) fun d m e' H' v x st' lo' r hv => ?_)
  cases d with
  | int k =>
    cases (show v = .int k from hv)
    have r : Aft W e' H' (if k < 2 ^ 62 ∧ -(2 ^ 62) ≤ k then .ok (rngD k) m else .stuck) (fun xs m e1 H1 => ∀ (J : L2.It), Wk W brw J xs e1 H1 → R J H1) (xkA Wx σ) := r
    split at r
    · rename_i hz
      exact ⟨k, rfl, hz.2, hz.1, r.now st' _ (wk_rng h k)⟩
    · exact r.elim
  | _ => exact r.elim
theorem Hyp.blk (h : Hyp W X n C Wx) (s0 : Shared) (H2 : Hp) (scope : Scope) (env : Env) (fp : List Addr) : Hyp W (EvW.blkW X s0 H2 scope env fp) n C (fun _ _ _ _ => False) := by
  refine ⟨h.prog, h.w, h.K, h.mg, h.base, h.T, h.txt, h.warm, h.room, h.guards, h.nd, h.top, ?_, PassesOwn.never, h.call, h.low, h.make, h.hcall, h.hlow, h.hmake⟩
  rintro u s' ⟨_, _, _, _, _, _, _, _, _, _, _, _, _, _, _, _, z⟩
  exact z
def rTo (W : Wd) (C : Cl) (Wx : WX) (H0 : En) (a : To) : TT := fun σ H Q => ∃ e μ σd, St0 W e μ H ∧ Lo W e H0 σd σ H ∧ Aft W e H (evTo C a σd μ) (fun b _ _ H' => Q b H') (xkA Wx σ)
theorem snd_tnone : PTs X [] (rTo W C Wx H0 .none) := ⟨fun pins s σ H Q I ⟨e, μ, σd, st, lo, q⟩ => pts_nil.run pins s σ H Q I (q.now st)⟩
theorem snd_tsome {t : T} (ha : PT X a (rT W C Wx H0 t)) : PTs X [a] (rTo W C Wx H0 (.some t)) := ⟨fun pins s σ H Q I ⟨e, μ, σd, st, lo, q⟩ => (pts_one ha).run pins s σ H Q I ⟨e, μ, σd, st, lo, q⟩⟩
theorem Ex.priv {e' : Em} {H' : Hp} (x : Ex e H e' H') {q : Addr} {o : HO} (h : H q = some o) (p1 : e.G q = none) (p2 : ∀ j, e.r j ≠ some q) : H' q = some o ∧ e'.G q = none ∧ ∀ j, e'.r j ≠ some q := by
  refine ⟨x.keep q o h p2, ?_, fun j z => ?_⟩
  · cases z : e'.G q with
    | none => rfl
    | some u => rcases x.gn q u z with z | z
                · rw [p1] at z; cases z
                · rw [h] at z; cases z
  · rcases x.rn j q z with z | z
    · exact p2 j z
    · rw [h] at z; cases z
theorem St0.privUpd (st : St0 W e μ H) {q : Addr} (o : HO) (p1 : e.G q = none) (p2 : ∀ j, e.r j ≠ some q) : St0 W e μ (upd H q o) := by
  refine ⟨fun b u z => by rw [upd_ne (ne_of_none z p1)]; exact st.sub b u z, fun i u z => ?_, st.out, st.inj, st.free⟩
  obtain ⟨b, hb, hr⟩ := st.cell i u z
  have hn : b ≠ q := fun w => p2 i (by rw [← w]; exact hb)
  refine ⟨b, hb, ?_⟩
  cases u with
  | lst xs =>
    obtain ⟨vs, h1, h2⟩ := hr
    exact ⟨vs, by rw [upd_ne hn]; exact h1, h2⟩
  | ins c fs =>
    obtain ⟨dx, gs, j, h1, h2⟩ := hr
    exact ⟨dx, gs, j, by rw [upd_ne hn]; exact h1, h2⟩
theorem Ex.privUpd {e' : Em} {H' : Hp} (x : Ex e H e' H') {q : Addr} (o : HO) (h : H q = none) : Ex e H e' (upd H' q o) :=
  ⟨x.g, x.r, x.gn, x.rn, fun b u z hn => by rw [upd_ne (ne_of_none z h)]; exact x.keep b u z hn, fun b u z => by rw [upd_ne (ne_of_none z h)]; exact x.dom b u z⟩
theorem wipe_wipe : ∀ {vs : List Nat} {σ : L2.St}, wipe (wipe σ vs) vs = wipe σ vs := by
  have mem : ∀ (vs : List Nat) (σ : L2.St) (v : Nat), v ∈ vs → (wipe σ vs).set v none = wipe σ vs := by
    intro vs
    induction vs with
    | nil => intro σ v h; exact absurd h (by simp)
    | cons w vs ih =>
      intro σ v h
      show ((wipe σ vs).set w none).set v none = (wipe σ vs).set w none
      by_cases hw : v = w
      · subst hw; rw [List.set_set]
      · have : v ∈ vs := by simp only [List.mem_cons] at h; exact h.resolve_left hw
        rw [List.set_comm _ _ (Ne.symm hw), ih σ v this]
  have gen : ∀ (vs ws : List Nat) (σ : L2.St), (∀ v ∈ vs, v ∈ ws) → wipe (wipe σ ws) vs = wipe σ ws := by
    intro vs
    induction vs with
    | nil => intro ws σ _; rfl
    | cons v vs ih =>
      intro ws σ h
      show (wipe (wipe σ ws) vs).set v none = wipe σ ws
      rw [ih ws σ (fun u hu => h u (List.mem_cons_of_mem _ hu))]
      exact mem ws σ v (h v List.mem_cons_self)
  exact fun {vs σ} => gen vs vs σ fun _ h => h
theorem compL_cons {turn : D → Mu → Res (Option D)} {x : D} {xs ds : List D} {m m' : Mu} (h : compL turn (x :: xs) m = .ok ds m') : ∃ r m2 rs, turn x m = .ok r m2 ∧ compL turn xs m2 = .ok rs m' ∧ ds = consO r rs := by
  have h : (turn x m).bind (fun r m => (compL turn xs m).bind fun rs m => .ok (consO r rs) m) = .ok ds m' := h
  cases h1 : turn x m with
  | ok r m2 =>
    rw [h1] at h
    have h : (compL turn xs m2).bind (fun rs m => .ok (consO r rs) m) = .ok ds m' := h
    cases h2 : compL turn xs m2 with
    | ok rs m3 =>
      rw [h2] at h
      cases h
      exact ⟨r, m2, rs, rfl, h2, rfl⟩
    | _ => rw [h2] at h; cases h
  | _ => rw [h1] at h; cases h
abbrev Wf : WX := fun _ _ _ _ => False
theorem Aft.eq {α : Type} {r : Res α} {K : α → Mu → Em → Hp → Prop} {E : XK} (q : Aft W e H r K E) : Aft W e H r (fun a m _ _ => r = .ok a m) E := by
  cases r with
  | ok a m => exact fun _ _ _ _ => rfl
  | exc c fs m => exact q
  | stuck => exact q.elim
theorem lc_ok (h : Hyp W X n C Wx) {t : Tg} {it : Ev.It} {cond : To} {vs : List Nat} {Q : VK} {σd : Sg} {R : Ev.D → Mu → Prop} (hin : tgIn vs t = true) (st : St0 W e μ H) (lo : Lo W e H0 σd σ H) (q : Aft W e H (evE C (.comp A t it cond vs) σd μ) (fun d m _ _ => R d m) (xkA Wx σ))
    (fin : ∀ ds m' e' H' vacc p0, Ex e H e' H' → St0 W e' m' H' → H p0 = none → H' p0 = some (.lst vacc) → RepL W e' ds vacc → e'.G p0 = none → (∀ j, e'.r j ≠ some p0) → R (.lst ds) m' → Q (.ref p0) H') :
    tLc (rI W C Wx H0 true it) (rG W H0 t) (rTo W C Wf H0 cond) (rE W C Wf H0 A) vs σ H Q := by
  refine ⟨e, μ, σd, st, lo, (Aft.bind q).imp fun xs m e1 H1 x1 st1 r J wk p0 hD => ?_⟩
  clear q
  have lo1 := lo.ex x1
  split at r
  · rename_i hlim
    generalize hturn : (fun (x : D) (m : Mu) => match bindT t x (wipeD σd vs) with
        | some σ' => (evTo C cond σ' m).bind fun b m => if b = true then (evE C A σ' m).bind fun d m => if nbD d = true then Res.ok (some d) m else .stuck else .ok none m
        | none => .stuck) = turn at r
    cases hres : compL turn xs m with
    | exc c fs m2 => rw [hres] at r; exact r.elim
    | stuck => rw [hres] at r; exact r.elim
    | ok ds m' =>
      rw [hres] at r
      have r : Aft W e1 H1 (.ok (.lst ds) m') (fun d m _ _ => R d m) (xkA Wx σ) := r
      have hle : xs.length ≤ 16777216 := of_decide_eq_true hlim
      refine ⟨fun i k H' => k = xs.length - i ∧ i ≤ xs.length ∧ ∃ e' μi acc vacc rs, Ex e1 H1 e' H' ∧ St0 W e' μi H' ∧ H' p0 = some (.lst vacc) ∧ RepL W e' acc vacc ∧ e'.G p0 = none ∧ (∀ j, e'.r j ≠ some p0) ∧ compL turn (xs.drop i) μi = .ok rs m' ∧ acc ++ rs = ds ∧ acc.length ≤ i,
        ⟨_, rfl, Nat.zero_le _, e1, m, [], [], ds, ?_, ?_, upd_same, rfl, ?_, ?_, hres, rfl, Nat.le_refl _⟩, fun i k H' ⟨hk, hile, e', μi, acc, vacc, rs, x', st', hDv, racc, p1, p2, hc, hds, hlen⟩ => ?_⟩
      · exact (st1.grown (H1 := upd H1 p0 (.lst [])) fun b u z => by rw [upd_ne (ne_of_none z hD)]; exact z).1
      · exact (st1.grown (H1 := upd H1 p0 (.lst [])) fun b u z => by rw [upd_ne (ne_of_none z hD)]; exact z).2
      · cases z : e1.G p0 with
        | none => rfl
        | some u => rw [st1.sub p0 u z] at hD; cases hD
      · intro j z
        obtain ⟨u, hu⟩ := st1.rH z
        rw [hD] at hu; cases hu
      · by_cases hix : i < xs.length
        · right
          refine ⟨wk.go i e' μi H' x' st' hix, fun H'' => i + 1 ≤ xs.length ∧ ∃ e' μi acc vacc rs, Ex e1 H1 e' H'' ∧ St0 W e' μi H'' ∧ H'' p0 = some (.lst vacc) ∧ RepL W e' acc vacc ∧ e'.G p0 = none ∧ (∀ j, e'.r j ≠ some p0) ∧ compL turn (xs.drop (i + 1)) μi = .ok rs m' ∧ acc ++ rs = ds ∧ acc.length ≤ i + 1,
            fun H'' nx => ⟨xs.length - (i + 1), by omega, rfl, nx⟩, fun x H2 y => ?_⟩
          obtain ⟨e2, d, hd, rd, x2, st2⟩ := wk.yld i e' μi H' x H2 x' st' hix y
          have hdrop : xs.drop i = d :: xs.drop (i + 1) := by
            rw [List.drop_eq_getElem_cons hix]
            rw [List.getElem?_eq_getElem hix] at hd
            rw [Option.some.inj hd]
          rw [hdrop] at hc
          obtain ⟨ro, m2, rs', ht1, hc2, hrs⟩ := compL_cons hc
          rw [← hturn] at ht1
          have ht1 : (match bindT t d (wipeD σd vs) with
            | some σ' => (evTo C cond σ' μi).bind fun b m => if b = true then (evE C A σ' m).bind fun d m => if nbD d = true then Res.ok (some d) m else .stuck else .ok none m
            | none => .stuck) = .ok ro m2 := ht1
          cases hb : bindT t d (wipeD σd vs) with
          | none => rw [hb] at ht1; cases ht1
          | some σ' =>
            rw [hb] at ht1
            have ht1 : ((evTo C cond σ' μi).bind fun b m => if b = true then (evE C A σ' m).bind fun d m => if nbD d = true then Res.ok (some d) m else .stuck else .ok none m) = .ok ro m2 := ht1
            have x12 := x'.trans x2
            obtain ⟨d1, d2, d3⟩ := x2.priv hDv p1 p2
            refine ⟨e2, μi, wipeD σd vs, d, σ', st2, (lo1.ex x12).wipe vs, rd, hb, fun σ2 lo2 on => ⟨by rw [on vs hin, wipe_wipe], ?_⟩⟩
            cases hcond : evTo C cond σ' μi with
            | exc _ _ _ => rw [hcond] at ht1; cases ht1
            | stuck => rw [hcond] at ht1; cases ht1
            | ok b m3 =>
              rw [hcond] at ht1
              have ht1 : (if b = true then (evE C A σ' m3).bind fun d m => if nbD d = true then Res.ok (some d) m else .stuck else .ok none m3) = .ok ro m2 := ht1
              refine ⟨e2, μi, σ', st2, lo2, ?_⟩
              rw [hcond]
              intro e3 H3 x3 st3
              obtain ⟨d4, d5, d6⟩ := x3.priv d1 d2 d3
              cases b with
              | false =>
                cases ht1
                exact ⟨hix, e3, _, acc, vacc, rs', x12.trans x3, st3, d4, (racc.ex x2).ex x3, d5, d6, hc2, by rw [← hds, hrs]; rfl, by omega⟩
              | true =>
                have ht1 : ((evE C A σ' m3).bind fun d m => if nbD d = true then Res.ok (some d) m else .stuck) = .ok ro m2 := ht1
                cases hel : evE C A σ' m3 with
                | exc _ _ _ => rw [hel] at ht1; cases ht1
                | stuck => rw [hel] at ht1; cases ht1
                | ok d' m4 =>
                  rw [hel] at ht1
                  have ht1 : (if nbD d' = true then Res.ok (some d') m4 else .stuck) = .ok ro m2 := ht1
                  split at ht1
                  · rename_i hnb
                    cases ht1
                    refine ⟨e3, m3, σ', st3, lo2.ex x3, ?_⟩
                    rw [hel]
                    intro e4 H4 x4 st4 y hy
                    obtain ⟨d7, d8, d9⟩ := x4.priv d4 d5 d6
                    have hvl : vacc.length = acc.length := racc.length
                    refine ⟨vacc, d7, by rw [sizeLine_eq, hvl]; omega, hix, e4, _, acc ++ [d'], vacc ++ [y], rs', ((x12.trans x3).trans x4).privUpd _ hD, st4.privUpd _ d8 d9, upd_same, ?_, d8, d9, hc2, (by rw [← hds, hrs]; simp [consO]), by simp; omega⟩
                    exact RepL.append (((racc.ex x2).ex x3).ex x4) (.cons (RepH.of hnb hy) .nil)
                  · cases ht1
        · left
          have hi' : xs.length ≤ i := by omega
          refine ⟨wk.stop i e' μi H' x' st' hi', ?_⟩
          rw [List.drop_of_length_le hi'] at hc
          cases hc
          have hp0 : H p0 = none := none_back x1.dom hD
          exact fin ds m' e' H' vacc p0 (x1.trans x') st' hp0 hDv (by rw [← hds, List.append_nil]; exact racc) p1 p2 (r e' H' x' st')
  · exact r.elim
theorem snd_comp (h : Hyp W X n C Wx) {t : Tg} {it : Ev.It} {cond : To} {vs : List Nat} {elt iter : Expr} {ifs : List Expr} {scope : Scope} {own : List (Str × Nat)} (hi : EvW.PIW X tg iter (rI W C Wx H0 true it)) (ok : BlkOk X.N X.env.scope scope own) (hvs : own.map (·.2) = vs) (hin : tgIn vs t = true)
    (hg : ∀ (s : Shared) (H : Hp) (C' : Addr) (cl : List (Str × Addr)) (fp : List Addr), PG (EvW.blkW X s H scope (compEnvC scope cl C' X.env) fp) tg (rG W H0 t)) (ht : ∀ (s : Shared) (H : Hp) (C' : Addr) (cl : List (Str × Addr)) (fp : List Addr), PTs (EvW.blkW X s H scope (compEnvC scope cl C' X.env) fp) ifs (rTo W C Wf H0 cond))
    (he : ∀ (s : Shared) (H : Hp) (C' : Addr) (cl : List (Str × Addr)) (fp : List Addr), PE (EvW.blkW X s H scope (compEnvC scope cl C' X.env) fp) elt (rE W C Wf H0 A)) (hs : ∀ x, foldedSetIterable iter X.env x = pure x) :
    PE X (.ListComp elt [⟨tg, iter, ifs, 0⟩] scope pos) (rE W C Wx H0 (.comp A t it cond vs)) := by
  refine ⟨fun pins s σ H Q I ⟨e, μ, σd, st, lo, q⟩ => ?_⟩
  refine (EvW.pe_lcW h.warmW h.nd hi ok hg ht he hs).run pins s σ H Q I ?_
  rw [hvs]
  refine lc_ok h hin st lo q.eq fun ds m' e' H' vacc p0 x' st' hp0 hDv racc p1 p2 hr => ?_
  rw [hr] at q
  have st2 := st'.frozenAt (.lst vacc) p1 p2
  have hup : upd H' p0 (.lst vacc) = H' := by
    funext b
    by_cases hb : b = p0
    · rw [hb, upd_same, hDv]
    · rw [upd_ne hb]
  rw [hup] at st2
  have mono : ∀ b u, e'.G b = some u → upd e'.G p0 (.lst vacc) b = some u := fun b u q => by rw [upd_ne (ne_of_none q p1)]; exact q
  refine q ⟨upd e'.G p0 (.lst vacc), e'.r⟩ H' ?_ st2 (.ref p0) ⟨p0, vacc, rfl, .inl (.inl upd_same), ?_⟩
  · refine ⟨fun b u q => mono b u (x'.g b u q), x'.r, fun b u q => ?_, x'.rn, x'.keep, x'.dom⟩
    by_cases hb : b = p0
    · rw [hb]; exact .inr hp0
    · have q : upd e'.G p0 (.lst vacc) b = some u := q
      rw [upd_ne hb] at q; exact x'.gn b u q
  · exact RepL.mono (e := e') (e' := ⟨upd e'.G p0 (.lst vacc), e'.r⟩) mono (fun _ _ q => q) _ _ racc
end
end Ev

set_option maxRecDepth 100000
set_option maxHeartbeats 2000000
namespace Ev
open PySem PySem.Spec PyProof.Rows L2
def AftS (W : Wd) (e0 : Em) (H0 : En) (e : Em) (r : SR) (D : Ends) (Wx : WX) : Prop := match r with
  | .nx σd' m => ∀ e' H' σ', Ex e0 H0.h e' H' → Gr e e' → St0 W e' m H' → Lo W e' H0 σd' σ' H' → D.nx σ' H'
  | .brk σd' m => ∀ e' H' σ', Ex e0 H0.h e' H' → Gr e e' → St0 W e' m H' → Lo W e' H0 σd' σ' H' → D.bk σ' H'
  | .ret d _ m => ∀ e' H' v, Ex e0 H0.h e' H' → Gr e e' → St0 W e' m H' → Rep W e' d v → D.rt v H'
  | .exc c fs σd' m => ∀ e' H' σ' cls d, Ex e0 H0.h e' H' → Gr e e' → St0 W e' m H' → Lo W e' H0 σd' σ' H' → Exa W e' H' c fs cls d → Wx cls d σ' H'
  | .stuck => False
def rS (W : Wd) (C : Cl) (Wx : WX) (e0 : Em) (H0 : En) (a : S) : TS := fun D σ H => ∃ e μ σd, Ex e0 H0.h e H ∧ St0 W e μ H ∧ Lo W e H0 σd σ H ∧ AftS W e0 H0 e (exS C a σd μ) D Wx
def rSs (W : Wd) (C : Cl) (Wx : WX) (e0 : Em) (H0 : En) (a : Ss) : TS := fun D σ H => ∃ e μ σd, Ex e0 H0.h e H ∧ St0 W e μ H ∧ Lo W e H0 σd σ H ∧ AftS W e0 H0 e (exSs C a σd μ) D Wx
section
variable {W : Wd} {X : Cx} {n : Nat} {C : Cl} {Wx : WX} {e0 : Em} {H0 : En} {pins : List (Addr × Obj)} {σ : L2.St} {H H1 : Hp} {s : Shared} {e e1 : Em} {μ : Mu} {a b c tg : Expr} {A B : E} {pos p : Pos} {es : List Expr} {ys : Es} {D : Ends}
theorem AftS.later {r : SR} (g : Gr e e1) (q : AftS W e0 H0 e r D Wx) : AftS W e0 H0 e1 r D Wx := by
  cases r with
  | nx => exact fun e' H' σ' x y => q e' H' σ' x (g.trans y)
  | brk => exact fun e' H' σ' x y => q e' H' σ' x (g.trans y)
  | ret => exact fun e' H' v x y => q e' H' v x (g.trans y)
  | exc => exact fun e' H' σ' cls d x y => q e' H' σ' cls d x (g.trans y)
  | stuck => exact q.elim
theorem AftS.of_st {α : Type} {r : Res α} {σd : Sg} {f : α → Mu → SR} (x0 : Ex e0 H0.h e H) (lo : Lo W e H0 σd σ H) (q : AftS W e0 H0 e (r.st σd f) D Wx) : Aft W e H r (fun a m e' H' => AftS W e0 H0 e' (f a m) D Wx) (xkA Wx σ) := by
  cases r with
  | ok a m => exact fun e' H' x st => AftS.later x.gr q
  | exc c fs m => exact fun e' H' cls d x st z => q e' H' σ cls d (x0.trans x) x.gr st (lo.ex x) z
  | stuck => exact q.elim
theorem AftS.nxt {σd : Sg} {m : Mu} (q : AftS W e0 H0 e (.nx σd m) D Wx) (x : Ex e0 H0.h e H) (st : St0 W e m H) (lo : Lo W e H0 σd σ H) : D.nx σ H := q e H σ x (Gr.refl e) st lo
theorem snd_ss_nil : PSs X [] (rSs W C Wx e0 H0 .nil) := ⟨fun pins s σ H D I ⟨e, μ, σd, x, st, lo, q⟩ => pss_nil.run pins s σ H D I (q.nxt x st lo)⟩
theorem snd_ss {st0 : Stmt} {rest : List Stmt} {a : S} {as : Ss} (h1 : PS X st0 (rS W C Wx e0 H0 a)) (h2 : PSs X rest (rSs W C Wx e0 H0 as)) : PSs X (st0 :: rest) (rSs W C Wx e0 H0 (.cons a as)) := by
  refine ⟨fun pins s σ H D I ⟨e, μ, σd, x, st, lo, q⟩ => (pss_cons h1 h2).run pins s σ H D I ⟨e, μ, σd, x, st, lo, ?_⟩⟩
  have q : AftS W e0 H0 e ((exS C a σd μ).seq fun σ' m => exSs C as σ' m) D Wx := q
  cases hr : exS C a σd μ with
  | nx σ1 m1 =>
    rw [hr] at q
    exact fun e' H' σ' x' g st' lo' => ⟨e', m1, σ1, x', st', lo', AftS.later g q⟩
  | brk => rw [hr] at q; exact q
  | ret => rw [hr] at q; exact q
  | exc => rw [hr] at q; exact q
  | stuck => rw [hr] at q; exact q.elim
theorem snd_never {st0 : Stmt} {a : S} (h : ∀ σd μ, exS C a σd μ = .stuck) : PS X st0 (rS W C Wx e0 H0 a) := ⟨fun pins s σ H D I ⟨e, μ, σd, x, st, lo, q⟩ => by rw [h] at q; exact q.elim⟩
theorem snd_pass : PS X (.Pass pos) (rS W C Wx e0 H0 .pass) := ⟨fun pins s σ H D I ⟨e, μ, σd, x, st, lo, q⟩ => ps_pass.run pins s σ H D I (q.nxt x st lo)⟩
theorem snd_brk : PS X (.Break pos) (rS W C Wx e0 H0 .brk) := ⟨fun pins s σ H D I ⟨e, μ, σd, x, st, lo, q⟩ => ps_break.run pins s σ H D I (q e H σ x (Gr.refl e) st lo)⟩
theorem snd_retn : PS X (.Return none pos) (rS W C Wx e0 H0 .retn) := ⟨fun pins s σ H D I ⟨e, μ, σd, x, st, lo, q⟩ => ps_retN.run pins s σ H D I (q e H .non x (Gr.refl e) st rfl)⟩
theorem snd_ret (he : PE X a (rE W C Wx H0 A)) : PS X (.Return (some a) pos) (rS W C Wx e0 H0 (.ret A)) := by
  refine ⟨fun pins s σ H D I ⟨e, μ, σd, x, st, lo, q⟩ => (ps_ret he).run pins s σ H D I ?_⟩
  refine rE.at st lo (AftS.of_st x lo q) fun d m e' H' v x' st' lo' r hv => ?_
  have r : AftS W e0 H0 e' (if nbD d = true then .ret d σd m else .stuck) D Wx := r
  split at r
  · rename_i hnb
    exact r e' H' v (x.trans x') (Gr.refl e') st' (RepH.of hnb hv)
  · exact r.elim
theorem snd_exp (he : PE X a (rE W C Wx H0 A)) (hs : swapsWith a none pos.line X.env = pure false) : PS X (.Expr a pos) (rS W C Wx e0 H0 (.exp A)) := by
  refine ⟨fun pins s σ H D I ⟨e, μ, σd, x, st, lo, q⟩ => (ps_expr he hs).run pins s σ H D I ?_⟩
  exact rE.at st lo (AftS.of_st x lo q) fun d m e' H' v x' st' lo' r hv => r.nxt (x.trans x') st' lo'
theorem snd_asg {t : Tg} (hst : noStar tg = true) (he : PE X a (rE W C Wx H0 A)) (hg : PG X tg (rG W H0 t)) (hs : swapsWithSole [tg] a pos.line X.env = pure false) (hw : swappedStores [tg] a X.env = pure none) : PS X (.Assign [tg] a pos) (rS W C Wx e0 H0 (.asg t A)) := by
  refine ⟨fun pins s σ H D I ⟨e, μ, σd, x, st, lo, q⟩ => (ps_asg he hg hs hw (h1 := asg_cons hst)).run pins s σ H D I ?_⟩
  refine rE.at st lo (AftS.of_st x lo q) fun d m e' H' v x' st' lo' r hv => ?_
  have r : AftS W e0 H0 e' (match bindT t d σd with | some σ' => .nx σ' m | none => .stuck) D Wx := r
  cases hb : bindT t d σd with
  | none => rw [hb] at r; exact r.elim
  | some σ1 =>
    rw [hb] at r
    have hnb : nbD d = true := by
      cases d with
      | bor k xs => cases t with
        | name i => cases hb
        | tup ts => cases hb
      | _ => rfl
    exact ⟨e', m, σd, d, σ1, st', lo', RepH.of hnb hv, hb, fun σ' lo2 _ => r.nxt (x.trans x') st' lo2⟩
theorem snd_par {i j : Nat} {x y : Str} {px py pt pt2 : Pos} {kt k2} {u v : Expr} (h : Hyp W X n C Wx) (hi : X.N[i]? = some x) (hj : X.N[j]? = some y) (hij : i ≠ j) (hx : X.env.scope.names.lookup x = some .local) (hy : X.env.scope.names.lookup y = some .local) (ha : PA X [u, v] (rA W C Wx H0 ys))
    (hw : swappedStores [.Tuple [.Name x px, .Name y py] kt pt] (.Tuple [u, v] k2 pt2) X.env = pure (some [x, y])) :
    PS X (.Assign [.Tuple [.Name x px, .Name y py] kt pt] (.Tuple [u, v] k2 pt2) pos) (rS W C Wx e0 H0 (.par (.cons (.name i) (.cons (.name j) .nil)) ys)) := by
  refine ⟨fun pins s σ H D I ⟨e, μ, σd, x0, st, lo, q⟩ => (EvW.ps_parW h.warmW h.nd hi hj hij hx hy ha hw).run pins s σ H D I ?_⟩
  have q' := AftS.of_st x0 lo q
  cases hres : evEs C ys σd μ with
  | stuck => rw [hres] at q'; exact q'.elim
  | exc c fs m => exact ⟨e, μ, σd, st, lo, by rw [hres] at q' ⊢; exact q'⟩
  | ok ds m =>
    refine ⟨e, μ, σd, st, lo, q'.imp fun ds' m' e' H' x' st' r vs hv => ?_⟩
    have hvl := hv.length
    have r : AftS W e0 H0 e' (match bindTs (.cons (.name i) (.cons (.name j) .nil)) ds' σd with | some σ' => .nx σ' m' | none => .stuck) D Wx := r
    have lo' := lo.ex x'
    match ds', hv, r with
    | [], hv, r => exact r.elim
    | [d1], hv, r =>
      have : bindTs (.cons (.name i) (.cons (.name j) .nil)) [d1] σd = none := by
        show (bindT (.name i) d1 σd).bind _ = none
        cases bindT (.name i) d1 σd <;> rfl
      rw [this] at r; exact r.elim
    | d1 :: d2 :: d3 :: ds3, hv, r =>
      have : bindTs (.cons (.name i) (.cons (.name j) .nil)) (d1 :: d2 :: d3 :: ds3) σd = none := by
        show (bindT (.name i) d1 σd).bind _ = none
        cases bindT (.name i) d1 σd with
        | none => rfl
        | some σ1 =>
          show (bindT (.name j) d2 σ1).bind _ = none
          cases bindT (.name j) d2 σ1 <;> rfl
      rw [this] at r; exact r.elim
    | [d1, d2], hv, r =>
      obtain ⟨v1, r1, rfl, hv1, hr1⟩ := hv
      obtain ⟨v2, r2, rfl, hv2, hr2⟩ := hr1
      cases (show r2 = [] from hr2)
      cases n1 : nbD d1 with
      | false =>
        have e2 : bindTs (.cons (.name i) (.cons (.name j) .nil)) [d1, d2] σd = none := by
          show (if nbD d1 = true then some (σd.set i (some (.val d1))) else none).bind (fun σ' => (if nbD d2 = true then some (σ'.set j (some (.val d2))) else none).bind fun σ'' => some σ'') = none
          rw [n1]; rfl
        rw [e2] at r; exact r.elim
      | true =>
        cases n2 : nbD d2 with
        | false =>
          have e2 : bindTs (.cons (.name i) (.cons (.name j) .nil)) [d1, d2] σd = none := by
            show (if nbD d1 = true then some (σd.set i (some (.val d1))) else none).bind (fun σ' => (if nbD d2 = true then some (σ'.set j (some (.val d2))) else none).bind fun σ'' => some σ'') = none
            rw [n1, n2]; rfl
          rw [e2] at r; exact r.elim
        | true =>
          have e2 : bindTs (.cons (.name i) (.cons (.name j) .nil)) [d1, d2] σd = some ((σd.set i (some (.val d1))).set j (some (.val d2))) := by
            show (if nbD d1 = true then some (σd.set i (some (.val d1))) else none).bind (fun σ' => (if nbD d2 = true then some (σ'.set j (some (.val d2))) else none).bind fun σ'' => some σ'') = _
            rw [if_pos n1]
            show (if nbD d2 = true then some _ else none).bind _ = _
            rw [if_pos n2]; rfl
          rw [e2] at r
          exact ⟨v1, v2, rfl, r.nxt (x0.trans x') st' ((lo'.set i (RepH.of n1 hv1)).set j (RepH.of n2 hv2))⟩
theorem snd_if {cc : T} {u v : List Stmt} {us vs : Ss} (hc : PT X c (rT W C Wx H0 cc)) (ha : PSs X u (rSs W C Wx e0 H0 us)) (hb : PSs X v (rSs W C Wx e0 H0 vs)) : PS X (.If c u v pos) (rS W C Wx e0 H0 (.ite cc us vs)) := by
  refine ⟨fun pins s σ H D I ⟨e, μ, σd, x, st, lo, q⟩ => (ps_if hc ha hb).run pins s σ H D I ⟨e, μ, σd, st, lo, (AftS.of_st x lo q).imp fun t m e' H' x' st' r => ?_⟩⟩
  cases t with
  | true => exact ⟨e', m, σd, x.trans x', st', lo.ex x', r⟩
  | false => exact ⟨e', m, σd, x.trans x', st', lo.ex x', r⟩
theorem snd_while {cc : T} {body : List Stmt} {bs : Ss} (h : Hyp W X n C Wx) (hc : PT X c (rT W C Wx H0 cc)) (hb : PSs X body (rSs W C Wx e0 H0 bs)) : PS X (.While c body [] pos) (rS W C Wx e0 H0 (.while_ cc bs)) := by
  refine ⟨fun pins s σ H D I ⟨e, μ, σd, x, st, lo, q⟩ => (ps_while h.own hc hb).run pins s σ H D I ?_⟩
  have q : AftS W e0 H0 e (whileW (fun σ m => evT C cc σ m) (fun σ m => exSs C bs σ m) σd μ) D Wx := q
  unfold whileW at q
  split at q
  · rename_i hex
    generalize hex.choose = k at q
    refine ⟨fun k σ H => ∃ e μ σd, Ex e0 H0.h e H ∧ St0 W e μ H ∧ Lo W e H0 σd σ H ∧ AftS W e0 H0 e (whileN (fun σ m => evT C cc σ m) (fun σ m => exSs C bs σ m) k σd μ) D Wx, ⟨k, e, μ, σd, x, st, lo, q⟩, fun k σ H ⟨e, μ, σd, x, st, lo, q⟩ => ?_⟩
    cases k with
    | zero => exact q.elim
    | succ k =>
      refine ⟨e, μ, σd, st, lo, (AftS.of_st x lo q).imp fun t m e' H' x' st' r => ?_⟩
      cases t with
      | false => exact r.nxt (x.trans x') st' (lo.ex x')
      | true =>
        rw [if_pos rfl]
        refine ⟨fun σ H => ∃ e μ σd, Ex e0 H0.h e H ∧ St0 W e μ H ∧ Lo W e H0 σd σ H ∧ AftS W e0 H0 e (whileN (fun σ m => evT C cc σ m) (fun σ m => exSs C bs σ m) k σd μ) D Wx, fun σ' H' z => ⟨k, Nat.lt_succ_self k, z⟩, e', m, σd, x.trans x', st', lo.ex x', ?_⟩
        have r : AftS W e0 H0 e' (match exSs C bs σd m with
          | .nx σ' m' => whileN (fun σ m => evT C cc σ m) (fun σ m => exSs C bs σ m) k σ' m'
          | .brk σ' m' => .nx σ' m'
          | r => r) D Wx := r
        cases hr : exSs C bs σd m with
        | nx σ1 m1 => rw [hr] at r; exact fun e2 H2 σ2 x2 g st2 lo2 => ⟨e2, m1, σ1, x2, st2, lo2, AftS.later g r⟩
        | brk σ1 m1 => rw [hr] at r; exact fun e2 H2 σ2 x2 g st2 lo2 => r e2 H2 σ2 x2 g st2 lo2
        | ret => rw [hr] at r; exact r
        | exc => rw [hr] at r; exact r
        | stuck => rw [hr] at r; exact r.elim
  · exact q.elim
theorem snd_for {t : Tg} {it : Ev.It} {iter : Expr} {body : List Stmt} {bs : Ss} (h : Hyp W X n C Wx) (hi : EvW.PIW X tg iter (rI W C Wx H0 false it)) (hg : PG X tg (rG W H0 t)) (hb : PSs X body (rSs W C Wx e0 H0 bs)) (hs : ∀ x, foldedSetIterable iter X.env x = pure x) : PS X (.For tg iter body [] pos) (rS W C Wx e0 H0 (.for_ t it bs)) := by
  refine ⟨fun pins s σ H D I ⟨e, μ, σd, x, st, lo, q⟩ => (EvW.ps_forW h.own h.warmW hi hg hb hs).run pins s σ H D I ⟨e, μ, σd, st, lo, (AftS.of_st x lo q).imp fun xs m e1 H1 x1 st1 r J wk => ?_⟩⟩
  generalize hturn : (fun (x : Ev.D) (σ : Sg) (m : Mu) => match bindT t x σ with
      | some σ' => exSs C bs σ' m
      | none => SR.stuck) = turn at r
  refine ⟨fun i k σ H => k = xs.length - i ∧ i ≤ xs.length ∧ ∃ e' μ' σd', Ex e0 H0.h e' H ∧ Gr e1 e' ∧ St0 W e' μ' H ∧ Lo W e' H0 σd' σ H ∧ AftS W e0 H0 e' (forL turn (xs.drop i) σd' μ') D Wx, ⟨_, rfl, Nat.zero_le _, e1, m, σd, x.trans x1, Gr.refl e1, st1, lo.ex x1, r⟩, fun i k σ H ⟨hk, hile, e', μ', σd', x', g, st', lo', q'⟩ => ?_⟩
  by_cases hix : i < xs.length
  · right
    refine ⟨wk.go i e' μ' H g st' hix, fun σ H => i + 1 ≤ xs.length ∧ ∃ e' μ' σd', Ex e0 H0.h e' H ∧ Gr e1 e' ∧ St0 W e' μ' H ∧ Lo W e' H0 σd' σ H ∧ AftS W e0 H0 e' (forL turn (xs.drop (i + 1)) σd' μ') D Wx, fun σ' H' z => ⟨xs.length - (i + 1), by omega, rfl, z⟩, fun v H2 y => ?_⟩
    obtain ⟨e2, d, hd, rd, x2, st2⟩ := wk.yld i e' μ' H v H2 g st' hix y
    have hdrop : xs.drop i = d :: xs.drop (i + 1) := by
      rw [List.drop_eq_getElem_cons hix]
      rw [List.getElem?_eq_getElem hix] at hd
      rw [Option.some.inj hd]
    rw [hdrop] at q'
    have q' : AftS W e0 H0 e' (match turn d σd' μ' with
      | .nx σ' m' => forL turn (xs.drop (i + 1)) σ' m'
      | .brk σ' m' => .nx σ' m'
      | r => r) D Wx := q'
    have ht : turn d σd' μ' = (match bindT t d σd' with | some σ' => exSs C bs σ' μ' | none => SR.stuck) := by rw [← hturn]
    rw [ht] at q'
    cases hbt : bindT t d σd' with
    | none => rw [hbt] at q'; exact q'.elim
    | some σ1 =>
      rw [hbt] at q'
      refine ⟨e2, μ', σd', d, σ1, st2, lo'.ex x2, rd, hbt, fun σ2 lo2 _ => ⟨e2, μ', σ1, x'.trans x2, st2, lo2, ?_⟩⟩
      have q' : AftS W e0 H0 e' (match exSs C bs σ1 μ' with
        | .nx σ' m' => forL turn (xs.drop (i + 1)) σ' m'
        | .brk σ' m' => .nx σ' m'
        | r => r) D Wx := q'
      have q' := AftS.later x2.gr q'
      have g2 := g.trans x2.gr
      cases hr : exSs C bs σ1 μ' with
      | nx σ3 m3 => rw [hr] at q'; exact fun e3 H3 σ4 x3 g3 st3 lo3 => ⟨hix, e3, m3, σ3, x3, g2.trans g3, st3, lo3, AftS.later g3 q'⟩
      | brk σ3 m3 => rw [hr] at q'; exact fun e3 H3 σ4 x3 g3 st3 lo3 => q' e3 H3 σ4 x3 g3 st3 lo3
      | ret => rw [hr] at q'; exact q'
      | exc => rw [hr] at q'; exact q'
      | stuck => rw [hr] at q'; exact q'.elim
  · left
    have hi' : xs.length ≤ i := by omega
    rw [List.drop_of_length_le hi'] at q'
    exact ⟨wk.stop i e' μ' H g st' hi', q'.nxt x' st' lo'⟩
end
end Ev

set_option maxRecDepth 100000
set_option maxHeartbeats 2000000
namespace Ev
open PySem PySem.Spec PyProof.Rows L2 EvT
section
variable {W : Wd} {X : Cx} {n : Nat} {C : Cl} {Wx : WX} {e0 : Em} {H0 : En} {pins : List (Addr × Obj)} {σ : L2.St} {H H1 : Hp} {s : Shared} {e e1 : Em} {μ : Mu} {A : E} {pos p : Pos} {D : Ends}
def spX (C : Addr) (f : Str) : Sp := fun vs H Q _ => ∃ (a : Addr) (v : V), vs = [.ref a, v] ∧ H a = some (exo a C none) ∧ ∀ dx, H dx = none → dx ≠ a → Q .non (upd (upd H dx (exd dx [(f, v)])) a (exo a C (some dx)))
theorem xinit_ok {K : PySem.W.Frag} {mg : Str → Option Value} {P : Program} {w : World} {base : Heap} {b : Bk} {CA fI : Addr} {f : Str} {N : List Str} {sc : Scope} {body : List Stmt} {x qual : Str} {params : Arguments} {dvs : List V} {fd : FuncData} {k : Nat} {hot : Bool} {cX : CXT}
    (T : ExT K CA b) (hno : PySem.W.findIn K (.ref CA) f = some none) (xb : XBody K mg b f N sc body) (F : FunD K x qual params body sc dvs [] fI fd) (S : FnScope N (N.take 2) sc) : FnG hot P w K mg base cX (k + 1) fI fd (N.take 2) (spX CA f) := by
  obtain ⟨sf, vl, bn, txt, j, p1, p2, p3, p4, p5, p6, p7, p8, p9, p10, rfl, rfl, hl, l1, l2, g1, d0, d1, d2, d3, d4, hB⟩ := xb
  refine fnG_of F S (fun vs H Q E ⟨a, v, h, _⟩ => by rw [h]; rfl) fun cdv A outer s H vs Q E X hX hgu hr ⟨a, v, hvs, hH, hq⟩ => ?_
  subst hvs
  have hXN : X.N = [sf, vl] ∧ X.env.scope = sc ∧ X.K = K ∧ X.mg = mg := by
    rcases hX with rfl | ⟨_, p, _, rfl⟩ <;> exact ⟨rfl, rfl, rfl, rfl⟩
  obtain ⟨hN, hsc, hK, hmg⟩ := hXN
  have v1 : Vis X.env.scope sf := by rw [hsc]; exact .inl l1
  have v2 : Vis X.env.scope vl := by rw [hsc]; exact .inl l2
  have gB : Gl X bn := by show X.env.scope.names.lookup bn = _; rw [hsc]; exact g1
  have e1 : PE X (.Name sf p3) (tVar 0) := pe_var (i := 0) (by rw [hN]; rfl) v1 d1 d2
  have pa : PA X [.Name sf p3, .Constant (.str txt) j p4] (tCons (tVar 0) (tCons (tC (.str txt)) tNil)) := pa_cons e1 (pa_cons pe_str pa_nil)
  have s1 := ps_expr (pos := p6) (pe_binit (pos := p5) (p1 := p1) (p2 := p2) gB d0 (by rw [hK, hmg]; exact hB) pa (meth_eval (o := .Name bn p1) rfl hl rfl (by simp)) rfl rfl) rfl
  have s2 := ps_put (pos := p10) (b := b) (f := f) (p' := p8) (pe_var (pos := p7) (i := 0) (by rw [hN]; rfl) v1 d1 d2) (pe_var (pos := p9) (i := 1) (by rw [hN]; rfl) v2 d3 d4) rfl
  refine ⟨_, pss_cons s1 (pss_cons s2 pss_nil), ?_⟩
  have es : L2.start [sf, vl] [V.ref a, v] = [some (.ref a), some v] := rfl
  rw [es]
  refine ⟨.ref a, rfl, a, CA, [.str txt], rfl, by simp, by rw [hK]; exact T, hH, ?_⟩
  exact ⟨v, rfl, .ref a, rfl, a, CA, rfl, by rw [hK]; exact T, by rw [hK]; exact hno, hH, fun dx h1 h2 => hq dx h1 h2⟩
def tMk1 (W : Wd) (C : Cl) (Wx : WX) (H0 : En) (c : Nat) (ys : Es) : L2.St → Hp → XK → Prop := fun σ H Q => ∃ e μ σd, St0 W e μ H ∧ Lo W e H0 σd σ H ∧ Aft W e H (evEs C ys σd μ) (fun vs m e' H' => vs.all nbD = true ∧ ∃ fs, excOf C.T c vs = some fs ∧
  ∀ e2 H2 cls d, Ex e' H' e2 H2 → St0 W e2 m H2 → Exa W e2 H2 c fs cls d → Q cls d H2) (xkA Wx σ)
theorem pmk_one (h : Hyp W X n C Wx) {c : Nat} {i : ClI} {y : Str} {x : Expr} {ys : Es} (hi : W.T.cls[c]? = some i) (hx : i.isexc = true) (hne : i.flds ≠ []) (hn : i.name = y) (hg : Gl X y) (hd : (y == ("__debug__" : Str)) = false) (hs : noStar x = true) (ha : PA X [x] (rA W C Wx H0 ys)) :
    L2N.PMk X (.Call (.Name y p) [x] [] pos) (tMk1 W C Wx H0 c ys) := by
  subst hn
  intro pins s σ H Q I ⟨e, μ, σd, st, lo, q⟩
  obtain ⟨b, k, j, body, scope, T, hfl, hno, hj, hin, hty, ft, hnp, hdf, xb⟩ := (h.txt.exc c i hi hx).made hne
  obtain ⟨gm, gk⟩ := h.txt.clsg c i hi
  obtain ⟨xn, qual, params, dvs, fd, F, bi⟩ := ft.ex
  generalize fadr W.K W.T j.loc = fa at hin hty F
  rw [← h.K] at T hno hin hty
  have xb : XBody X.K X.mg b (an W.T k) j.names scope body := by rw [h.K, h.mg]; exact xb
  obtain ⟨nm, qq, N, bs, bm, sn, sub, ab, col, dd, k0, k1, k2, k3, k5, hC, hbm⟩ := T.cls
  have hsc := ft.sc
  rw [hnp] at hsc bi
  have F : FunD X.K xn qual params body scope dvs [] fa fd := by rw [h.K]; exact F
  refine wpAny_Call_Name_kw (ld_glob I hg (by rw [h.mg]; exact gm) ?_ hd)
  refine PySem.W.callWith_K (h₀ := X.base) I.ok.mod.kin (by rw [h.K]; exact gk) (thn (ha.run pos pins s σ H (fun vs H' => ∃ ds m e', Ex e H e' H' ∧ St0 W e' m H' ∧ RepHL W e' H' ds vs ∧ _) I (rA.at st lo q fun d m e' H' v x st' _ r hv => ⟨d, m, e', x, st', hv, r⟩)) fun us s1 ⟨vs, H1, I1, r1, ds, m, e1, x1, st1, hv, hnb, fs, hfs, fin⟩ => ⟨I1.kIn, ?_⟩) (star_no hs) rfl
  show wpAny _ _ (call (.ref (W.ca c)) us) _ _ _
  have hfs2 : (if i.flds.length = ds.length then some (i.flds.zip ds) else none) = some fs := by
    have z := hfs
    unfold excOf at z
    rw [h.T, hi] at z
    exact z
  rw [hfl] at hfs2
  obtain ⟨d, rfl⟩ : ∃ d, ds = [d] := by
    match ds, hfs2 with
    | [d], _ => exact ⟨d, rfl⟩
    | [], z => cases z
    | _ :: _ :: _, z => simp at z
  have hfs3 : fs = [(k, d)] := by simpa using hfs2.symm
  subst hfs3
  have rd := RepHL.of hnb hv
  obtain ⟨v, r0, rfl, rdv, hr0⟩ := rd
  have hr0 : r0 = [] := hr0
  subst hr0
  obtain ⟨u, rfl, ru⟩ := vals1 r1
  obtain ⟨hp, g, dr, tk, os⟩ := s1
  have hsz : hp.objs.size ≤ hp.objs.size + 1 := Nat.le_succ _
  have hn : H1 (hp.objs.size + 1) = none := I1.hok.fresh hsz
  have kk : ∀ b o, hp.get? b = some o → ((hp.push (PySem.W.kdv_tup [u])).push (PySem.HandSPX.excO (W.ca c) hp.objs.size)).get? b = some o := fun b o e => Heap.get?_push_of_some _ (Heap.get?_push_of_some _ e)
  have hget : ((hp.push (PySem.W.kdv_tup [u])).push (PySem.HandSPX.excO (W.ca c) hp.objs.size)).get? (hp.objs.size + 1) = some (PySem.HandSPX.excO (W.ca c) hp.objs.size) := by heap_get
  have I2 : Inv X pins σ (upd H1 (hp.objs.size + 1) (exo (hp.objs.size + 1) (W.ca c) none)) ⟨(hp.push (PySem.W.kdv_tup [u])).push (PySem.HandSPX.excO (W.ca c) hp.objs.size), g, dr, tk, os⟩ :=
    I1.laid (t' := tk) (a := hp.objs.size + 1) (o := exo (hp.objs.size + 1) (W.ca c) none) (h' := (hp.push (PySem.W.kdv_tup [u])).push (PySem.HandSPX.excO (W.ca c) hp.objs.size)) kk hsz (exo_ok hget)
  have FG := xinit_ok (P := X.prog) (w := X.w) (base := X.base) (k := n) (hot := C.hot) (cX := L2N.CX X.prog X.w) T hno xb F hsc
  obtain ⟨de, dve, hve, hre, hbi⟩ := bi 0 (Nat.zero_le _)
  have hde : de = [] := by
    have z := hre e
    rw [hdf] at z
    have z : dve = [] := z
    subst z
    cases hve; rfl
  subst hde
  have hbi : Binds X.K fd (j.names.take 2) [] := by rw [h.K]; exact hbi
  have l2 : (j.names.take 2).length = 2 := by rw [← hnp]; exact ft.np
  have r2 : Vals [V.ref (hp.objs.size + 1), v] [Value.ref (hp.objs.size + 1), u] := .cons rfl (.cons ru .nil)
  have spx : spX (W.ca c) (an W.T k) [V.ref (hp.objs.size + 1), v] (upd H1 (hp.objs.size + 1) (exo (hp.objs.size + 1) (W.ca c) none))
      (fun v0 H2 => v0 = .non ∧ ∃ (d0 : Addr) (fs0 : List (Str × V)), H2 (hp.objs.size + 1) = some (exo (hp.objs.size + 1) (W.ca c) (some d0)) ∧ H2 d0 = some (exd d0 fs0) ∧ H1 d0 = none ∧ Q (.ref (W.ca c)) (some d0) (upd (del H2 (hp.objs.size + 1)) d0 (.xd fs0))) (fun _ _ _ => False) := by
    refine ⟨_, v, rfl, upd_same, fun dx hdx hne => ⟨rfl, dx, [(an W.T k, v)], upd_same, by rw [upd_ne hne, upd_same], by rw [upd_ne hne] at hdx; exact hdx, ?_⟩⟩
    rw [upd_ne hne] at hdx
    have k2 : ∀ b0 o0, H1 b0 = some o0 → upd (del (upd (upd (upd H1 (hp.objs.size + 1) (exo (hp.objs.size + 1) (W.ca c) none)) dx (exd dx [(an W.T k, v)])) (hp.objs.size + 1) (exo (hp.objs.size + 1) (W.ca c) (some dx))) (hp.objs.size + 1)) dx (.xd [(an W.T k, v)]) b0 = some o0 := fun b0 o0 z => by
      have n1 : b0 ≠ dx := ne_of_none z hdx
      have n2 : b0 ≠ hp.objs.size + 1 := ne_of_none z hn
      rw [upd_ne n1, del_ne n2, upd_ne n2, upd_ne n1, upd_ne n2]
      exact z
    obtain ⟨xg, sg⟩ := st1.grown k2
    refine fin e1 _ _ _ xg sg ⟨rfl, dx, _, i, rfl, upd_same, hi, hx, ?_, ?_, ?_⟩
    · rw [hfl]
      refine ⟨fun k' d' hl => ?_, fun nm' hk' => ?_⟩
      · by_cases hkk : k' = k
        · subst hkk
          have hl : some d = some d' := by simpa [List.lookup] using hl
          cases hl
          exact ⟨List.mem_singleton.mpr rfl, v, by simp [List.lookup], rdv⟩
        · have e9 : (k' == k) = false := by simpa using hkk
          simp [List.lookup, e9] at hl
      · have hne9 : an W.T k ≠ nm' := hk' k (List.mem_singleton.mpr rfl) (by simp [List.lookup])
        have e9 : (nm' == an W.T k) = false := by simpa using Ne.symm hne9
        simp [List.lookup, e9]
    · cases z : e1.G dx with
      | none => rfl
      | some u9 => rw [st1.sub dx u9 z] at hdx; cases hdx
    · intro j9 z
      obtain ⟨o9, h9⟩ := st1.rH z
      rw [hdx] at h9; cases h9
  refine wpAny_call (PySem.HandSPX.call_own b.base (fun Y => by rw [off_has, hbm]) (I1.kIn _ _ hC) (PySem.W.looks_findIn I1.kIn hin) (fun self => PySem.W.bind_fn I1.kIn self hty) (by show 1 ≤ sizeLine; rw [sizeLine_eq]; omega)
    (codeAny_mono (FG.run _ X.stack _ _ ⟨[Value.ref (hp.objs.size + 1), u], []⟩ [Value.ref (hp.objs.size + 1), u] _ _ (fun _ _ _ => False) (make_guards h.guards) (RoomH.make (k := n + 1) (h.room.mono (by omega)) (W.ca c) [u]) (h.lull rfl I2) (I2.env0.make (W.ca c) [u] [])
      (by have z := hbi _ [Value.ref (hp.objs.size + 1), u] I2.kIn (by rw [l2]; rfl); exact z) r2 spx) fun r s2 hq2 => ?_))
  cases r with
  | error er =>
    obtain ⟨_, _, _, _, _, _, _, _, _, _, _, _, z⟩ := hq2
    exact z.elim
  | ok fl =>
    cases fl with
    | ret u2 =>
      obtain ⟨v2, H2, os2, bare2, un2, hok2, rv2, ev, d0, fs0, ea, ed, hd1, q2⟩ := hq2
      subst ev
      obtain ⟨h2, g2, d2, t2, os'⟩ := s2
      obtain ⟨t0, G, J, kG, ge, hoe, na⟩ := mk_end0 (d2 := d2) (t2 := t2) I1 hsz kk un2 hok2 os2 bare2 ea ed hd1
      exact ⟨rv2, hp.objs.size + 1, _, _, ⟨G, g2, d2, t2, os'⟩, _, .ref (W.ca c), some d0, rfl, J, kG, ge, hoe, ⟨rfl, rfl, fun vs0 e9 => by cases e9; rfl⟩, rfl, rfl, na, rfl, bare2, raises_own T.exC T.tyC, q2⟩
    | next => exact False.elim hq2
    | brk => exact False.elim hq2
    | cont => exact False.elim hq2
end
end Ev

set_option maxRecDepth 100000
set_option maxHeartbeats 2000000
namespace Ev
open PySem PySem.Spec PyProof.Rows L2
section
variable {W : Wd} {X : Cx} {n : Nat} {C : Cl} {Wx : WX} {e0 : Em} {H0 : En} {pins : List (Addr × Obj)} {σ : L2.St} {H H1 : Hp} {s : Shared} {e e1 : Em} {μ : Mu} {a b c tg : Expr} {A B V' : E} {pos p : Pos} {es : List Expr} {ys : Es} {D : Ends}
theorem FldsM.put {ks : List Nat} {fs : List (Nat × Ev.D)} {gs : List (Str × V)} {k : Nat} {d : Ev.D} {v : V} (f : FldsM W e ks fs gs) (hk : k ∈ ks) (fi : ∀ k ∈ ks, ∀ k' ∈ ks, an W.T k = an W.T k' → k = k') (r : Rep W e d v) : FldsM W e ks (putN k d fs) (putF (an W.T k) v gs) := by
  refine ⟨fun j d' hj => ?_, fun nm hn => ?_⟩
  · unfold putN at hj
    rw [List.lookup_cons] at hj
    by_cases hjk : j = k
    · subst hjk
      rw [show (j == j) = true by simp] at hj
      cases hj
      exact ⟨hk, v, by rw [lookup_putF, if_pos rfl], r⟩
    · rw [show (j == k) = false by simp [hjk]] at hj
      obtain ⟨h1, w, h2, h3⟩ := f.at_ j d' hj
      exact ⟨h1, w, by rw [lookup_putF, if_neg (fun z => hjk (fi j h1 k hk z))]; exact h2, h3⟩
  · have hkn : an W.T k ≠ nm := hn k hk (by unfold putN; rw [List.lookup_cons]; simp)
    rw [lookup_putF, if_neg (Ne.symm hkn)]
    refine f.no nm fun j hj hs => hn j hj ?_
    unfold putN
    rw [List.lookup_cons]
    split
    · rfl
    · exact hs
theorem snd_setf (h : Hyp W X n C Wx) {i k : Nat} {x f : Str} {px pos' : Pos} (hf : an W.T k = f) (hN : X.N[i]? = some x) (hv : Vis X.env.scope x) (hd : (x == ("__debug__" : Str)) = false) (hcd : (x == ("__classdict__" : Str)) = false) (he : PE X a (rE W C Wx H0 A))
    (hs : swapsWith a (some (.Attribute (.Name x px) f pos')) pos.line X.env = pure false) : PS X (.Assign [.Attribute (.Name x px) f pos'] a pos) (rS W C Wx e0 H0 (.setf (.var i) k A)) := by
  subst hf
  refine ⟨fun pins s σ H D I ⟨e, μ, σd, x0, st, lo, q⟩ => (ps_fld (pe_var hN hv hd hcd) he hs).run pins s σ H D I ?_⟩
  refine rE.at st lo (AftS.of_st x0 lo q) fun d m e' H' v x' st' lo' r hv => ?_
  have r : AftS W e0 H0 e' (if nbD d = true then (match setAtt C.T σd i k d with | some σ' => .nx σ' m | none => .stuck) else .stuck) D Wx := r
  split at r
  · rename_i hnb
    cases hset : setAtt C.T σd i k d with
    | none => rw [hset] at r; exact r.elim
    | some σ1 =>
      rw [hset] at r
      unfold setAtt at hset
      split at hset
      · rename_i c fs hat
        split at hset
        · rename_i hz
          cases hset
          rw [Bool.and_eq_true] at hz
          obtain ⟨v', hv1, a', dx, gs, i', ⟨rfl, sa1, sa2⟩, h1, h2, h2x, h3, h4, p1, p2, p3⟩ := lo'.at_ i _ hat
          have cf := h.txt.cls c i' h2 h2x
          have hk : k ∈ i'.flds := by
            have := hz.2
            unfold fldOk at this
            rw [h.T, h2] at this
            simpa using this
          have hfl : fs.length < 100 := of_decide_eq_true hz.1
          refine ⟨_, hv1, a', W.ca c, dx, gs, rfl, h1, by rw [h.K]; exact cf.cls, by rw [h.K]; exact cf.no k hk, by omega, ?_⟩
          have x1 := (x0.trans x').privUpd (.ins (W.ca c) dx (putF (an W.T k) v gs)) p3
          refine r.nxt x1 (st'.privUpd _ p1 p2) ⟨by simp [lo'.len], fun j l hj => ?_, fun j j' l l' w hjj g1 g2 q1 q2 g3 => ?_⟩
          · by_cases hji : j = i
            · subst hji
              by_cases hl : j < σd.length
              · rw [List.getElem?_set_self hl] at hj; cases hj
                exact ⟨_, hv1, a', dx, putF (an W.T k) v gs, i', ⟨rfl, sa1, sa2⟩, upd_same, h2, h2x, h3.put hk cf.fi (RepH.of hnb hv), by
                  have := length_putF (an W.T k) v gs
                  show _ ≤ (putN k d fs).length
                  simp only [putN, List.length_cons]; omega, p1, p2, p3⟩
              · rw [List.getElem?_eq_none (by simpa using hl)] at hj; cases hj
            · rw [List.getElem?_set_ne (Ne.symm hji)] at hj
              obtain ⟨w, g1, g2⟩ := lo'.at_ j l hj
              refine ⟨w, g1, ?_⟩
              cases l with
              | val d' => exact g2
              | own xs =>
                obtain ⟨b, vs, rfl, k1, k2, k3⟩ := g2
                have hne : b ≠ a' := fun z => lo'.ne j i _ _ (.ref b) hji hj hat rfl rfl g1 (by rw [z]; exact hv1)
                exact ⟨b, vs, rfl, by rw [upd_ne hne]; exact k1, k2, k3⟩
              | self c' fs' =>
                obtain ⟨b, dx', gs', i2, ⟨rfl, sb1, sb2⟩, k1, k2⟩ := g2
                have hne : b ≠ a' := fun z => lo'.ne j i _ _ (.ref b) hji hj hat rfl rfl g1 (by rw [z]; exact hv1)
                exact ⟨b, dx', gs', i2, ⟨rfl, sb1, sb2⟩, by rw [upd_ne hne]; exact k1, k2⟩
              | exn _ _ =>
                obtain ⟨b, dx', gs', i2, rfl, hx0, k1, k2⟩ := g2
                have hne : dx' ≠ a' := fun z => by rw [z, h1] at k1; cases k1
                exact ⟨b, dx', gs', i2, rfl, hx0, by rw [upd_ne hne]; exact k1, k2⟩
          · have back : ∀ {j : Nat} {l : L}, (σd.set i (some (.self c (putN k d fs))))[j]? = some (some l) → l.priv = true → ∃ l0, σd[j]? = some (some l0) ∧ l0.priv = true := by
              intro j l hj hp
              by_cases hji : j = i
              · subst hji; exact ⟨_, hat, rfl⟩
              · rw [List.getElem?_set_ne (Ne.symm hji)] at hj
                exact ⟨l, hj, hp⟩
            obtain ⟨l0, b1, b2⟩ := back g1 q1
            obtain ⟨l0', b1', b2'⟩ := back g2 q2
            exact lo'.ne j j' l0 l0' w hjj b1 b1' b2 b2' g3
        · cases hset
      · cases hset
  · exact r.elim
theorem sub_asg {sp : Pos} {env : Env} (h : notSl b = true) (v : Value) : assign (.Subscript a b sp) env v = (do
      let ov ← holding [v] (eval a env)
      let iv ← holding [v, ov] (eval b env)
      standAt sp
      holding [v, ov, iv] (setItem ov iv v)
      release [v, ov, iv] []) := by
  cases b <;> first | rfl | cases h
theorem sub_sw {sp : Pos} {env : Env} {l : Nat} : swapsWithSole [.Subscript a b sp] c l env = pure false := by cases c <;> rfl
theorem sub_sws {sp : Pos} {env : Env} : swappedStores [.Subscript a b sp] c env = pure none := by rfl
theorem snd_seti (h : Hyp W X n C Wx) {sp : Pos} (hb2 : notSl b = true) (hv : PE X c (rE W C Wx H0 V')) (ha : PE X a (rE W C Wx H0 A)) (hb : PE X b (rE W C Wx H0 B)) :
    PS X (.Assign [.Subscript a b sp] c pos) (rS W C Wx e0 H0 (.seti A B V')) := by
  refine ⟨fun pins s σ H D I ⟨e, μ, σd, x0, st, lo, q⟩ => (ps_asg hv (pg_sub ha hb set_list (sub_asg hb2)) sub_sw sub_sws (h1 := rfl)).run pins s σ H D I ?_⟩
  refine rE.at st lo (AftS.of_st x0 lo q) fun d m e' H' v x' st' lo' r hv => ?_
  have r : AftS W e0 H0 e' (if nbD d = true then (evE C A σd m).st σd fun d' m => (evE C B σd m).st σd fun i m => match setIx d' i d m with | some m' => .nx σd m' | none => .stuck else .stuck) D Wx := r
  split at r
  · rename_i hnb
    refine rE.at st' lo' (AftS.of_st (x0.trans x') lo' r) fun d2 m2 e2 H2 v2 x2 st2 lo2 r2 hv2 => ?_
    refine rE.at st2 lo2 (AftS.of_st ((x0.trans x').trans x2) lo2 r2) fun d3 m3 e3 H3 v3 x3 st3 lo3 r3 hv3 => ?_
    have xx := ((x0.trans x').trans x2).trans x3
    have r3 : AftS W e0 H0 e3 (match setIx d2 d3 d m3 with | some m' => .nx σd m' | none => .stuck) D Wx := r3
    cases hset : setIx d2 d3 d m3 with
    | none => rw [hset] at r3; exact r3.elim
    | some m4 =>
      rw [hset] at r3
      cases d2 with
      | obj o =>
        cases d3 with
        | int i =>
          have hset : (match m3[o]? with | some (.lst xs) => if 0 ≤ i ∧ i < xs.length then some (m3.set o (.lst (xs.set i.toNat d))) else none | _ => none) = some m4 := hset
          cases hc : m3[o]? with
          | none => rw [hc] at hset; cases hset
          | some so =>
            rw [hc] at hset
            cases so with
            | ins _ _ => cases hset
            | lst xs =>
              have hset : (if 0 ≤ i ∧ i < xs.length then some (m3.set o (.lst (xs.set i.toNat d))) else none) = some m4 := hset
              split at hset
              · rename_i hz
                cases hset
                obtain ⟨p, rfl, hp⟩ := (show Rep W e2 (.obj o) v2 from hv2).ex x3
                obtain ⟨p', hp', vs, g1, g2⟩ := st3.cell o _ hc
                rw [hp] at hp'; cases hp'
                have hr := (((RepH.of hnb hv).ex x2).ex x3)
                have hix : ixN vs.length i = some i.toNat := by
                  unfold ixN
                  rw [if_pos hz.1, g2.length, if_pos hz.2]
                refine ⟨p, vs, i, i.toNat, rfl, hv3, g1, hix, ?_⟩
                obtain ⟨y1, y2⟩ := st3.changed (so := .lst (xs.set i.toNat d)) (o := .lst (vs.set i.toNat v)) hp fun e4 x4 => ⟨_, upd_same, (RepL.set hr _ g2).ex x4⟩
                exact r3.nxt (xx.trans y1) y2 (lo3.ex y1)
              · cases hset
        | _ => cases hset
      | _ => cases d3 <;> cases hset
  · exact r.elim
end
end Ev

set_option maxRecDepth 100000
set_option maxHeartbeats 2000000
namespace Ev
open PySem PySem.Spec PyProof.Rows L2
section
variable {W : Wd} {X : Cx} {n : Nat} {C : Cl} {Wx : WX} {e0 : Em} {H0 : En} {pins : List (Addr × Obj)} {σ : L2.St} {H H1 : Hp} {s : Shared} {e e1 : Em} {μ : Mu} {a b c tg : Expr} {A B V' : E} {pos p : Pos} {es : List Expr} {ys : Es} {D : Ends}
theorem feq_V {x y : Ev.D} {v w : V} (f : flat x = true) (g : flat y = true) (r : Rep W e x v) (q : Rep W e y w) : eqV v w = feq x y := by
  cases x with
  | non =>
    cases (show v = .non from r)
    cases y with
    | non => cases (show w = .non from q); rfl
    | bl b => cases (show w = .bl b from q); rfl
    | int b => cases (show w = .int b from q); rfl
    | str b => cases (show w = .str b from q); rfl
    | _ => cases g
  | bl i =>
    cases (show v = .bl i from r)
    cases y with
    | non => cases (show w = .non from q); rfl
    | bl b => cases (show w = .bl b from q); rfl
    | int b => cases (show w = .int b from q); rfl
    | str b => cases (show w = .str b from q); rfl
    | _ => cases g
  | int i =>
    cases (show v = .int i from r)
    cases y with
    | non => cases (show w = .non from q); rfl
    | bl b => cases (show w = .bl b from q); rfl
    | int b => cases (show w = .int b from q); rfl
    | str b => cases (show w = .str b from q); rfl
    | _ => cases g
  | str i =>
    cases (show v = .str i from r)
    cases y with
    | non => cases (show w = .non from q); rfl
    | bl b => cases (show w = .bl b from q); rfl
    | int b => cases (show w = .int b from q); rfl
    | str b => cases (show w = .str b from q); rfl
    | _ => cases g
  | _ => cases f
theorem flat_RepH {x : Ev.D} {v : V} (f : flat x = true) (r : RepH W e H x v) : Rep W e x v := by
  cases x <;> first | exact r | cases f
theorem flats_V : ∀ {xs : List Ev.D} {vs : List V}, xs.all flat = true → RepL W e xs vs → vs.all flatV = true
  | [], _, _, r => by rw [show _ = [] from r]; rfl
  | x :: xs, _, f, r => by
    obtain ⟨v, ws, rfl, r1, r2⟩ := r
    rw [List.all_cons, Bool.and_eq_true] at f
    rw [List.all_cons, flat_V f.1 r1, flats_V f.2 r2]; rfl
theorem countU {x : Ev.D} {v : V} (f : flat x = true) (r : Rep W e x v) : ∀ {xs : List Ev.D} {vs : List V} {us : List Value}, xs.all flat = true → RepL W e xs vs → Vals vs us → us.countP (eqU v) = xs.countP fun y => feq y x
  | [], _, _, _, q, z => by
    rw [show _ = [] from q] at z
    cases z; rfl
  | y :: xs, _, _, g, q, z => by
    obtain ⟨w, ws, rfl, r1, r2⟩ := q
    cases z with
    | cons z1 z2 =>
      rw [List.all_cons, Bool.and_eq_true] at g
      have ih := countU f r g.2 r2 z2
      rw [List.countP_cons, List.countP_cons, ih, eqU_of z1 (flat_V g.1 r1), feq_V g.1 f r1 r]
def rCount (K : PySem.W.Frag) : V → List V → Hp → VK → Prop := fun x xs H Q => ∃ (p : Addr) (vs : List V) (y : V) (k : Nat), x = .ref p ∧ xs = [y] ∧ SqL K H p vs ∧ flatV y = true ∧ vs.all flatV = true ∧ (∀ us : List Value, Vals vs us → us.countP (eqU y) = k) ∧ Q (.int (k : Int)) H
theorem mt_cnt : MtR X "list.count" (rCount X.K) := by
  intro pins s σ H x xs v us Q I rx rxs h
  obtain ⟨p, vs, y, k, rfl, rfl, hs, fy, fv, hk, q⟩ := h
  cases rx
  obtain ⟨u, rfl, ru⟩ := rxs.one
  obtain ⟨its, rv, ⟨⟨c1, c2, c3, c4⟩, n, ho, hc, hdn, hd⟩, hlen⟩ := I.list hs
  have hc : c1 = .type "list" := hc
  have hd : c3 = .seq its.toArray n := hd
  subst hc hd
  refine call_meets PySem.F.slot_list_count ⟨_, ho, rfl⟩ PySem.F.entry_list_count (PySem.F.args_list_count_2 _ _) (SeqAt.list_countAt p its.toArray n c2 c4 u (eqU y)) ⟨ho, fun w hw => mem_eqAt ru fy rv fv w (by simpa using hw), ?_⟩
  refine ⟨.int (k : Int), H, I.tok _, ⟨s.toks, ?_⟩, q⟩
  have e := hk its rv
  show Value.int ((its.toArray.toList.countP (eqU y) : Nat) : Int) s.toks = _
  rw [show its.toArray.toList = its from rfl, e]
theorem snd_count (h : Hyp W X n C Wx) {apos : Pos} (hb : baseOk a = true) (hl : (apos.endLine == pos.line) = true) (hs : noStar b = true) (ho : PE X a (rE W C Wx H0 A)) (hy : PE X b (rE W C Wx H0 B)) :
    PE X (.Call (.Attribute a "count" apos) [b] [] pos) (rE W C Wx H0 (.bmeth A .count (.cons false B .nil))) := by
  have hst : starEach [b] X.env = (false, eval b X.env) :: starEach [] X.env := star_no hs
  have hx := pe_bm (cpos := pos) (apos := apos) PySem.F.plainAttrs_list PySem.F.slot_list_count PySem.F.type_list_count (mt_cnt (X := X)) ho (snd_cons hs hy snd_nil) (base_ok hb) (by rw [hst]; rfl) hl hst (by rfl)
  refine ⟨fun pins s σ H Q I ⟨e, μ, σd, st, lo, q⟩ => hx.run pins s σ H Q I (rE.at st lo (Aft.bind q) fun d m e' H' v x st' lo' r hv => ?_)⟩
  cases d with
  | lst xs =>
    have hv : Rep W e' (.lst xs) v := hv
    have r : Aft W e' H' ((evEs C (.cons false B .nil) σd m).bind fun vs m => evBm C .count (.lst xs) vs m) (fun d _ e' H' => ∀ v, RepH W e' H' d v → Q v H') (xkA Wx σ) := r
    obtain ⟨p, vs, rfl, hq, hr⟩ := hv
    refine ⟨.inl ⟨rfl, vs, h.K ▸ hq.sq st'.sub⟩, rA.at st' lo' r.bind fun ds m2 e2 H2 ws x2 st2 lo2 r2 hws => ?_⟩
    have r2 : Aft W e2 H2 (evBm C .count (.lst xs) ds m2) _ _ := r2
    match ds, hws, r2 with
    | [y], hws, r2 =>
      obtain ⟨w, ws', rfl, hw, hn⟩ := hws
      cases (show ws' = [] from hn)
      have r2 : Aft W e2 H2 (if flat y && xs.all flat then .ok (.int ((xs.countP fun z => feq z y : Nat) : Int)) m2 else .stuck) (fun d _ e' H' => ∀ v, RepH W e' H' d v → Q v H') (xkA Wx σ) := r2
      split at r2
      · rename_i hf
        rw [Bool.and_eq_true] at hf
        have hr2 := hr.ex x2
        have ry := flat_RepH hf.1 hw
        exact ⟨p, vs, w, _, rfl, rfl, h.K ▸ (hq.mono x2.g).sq st2.sub, flat_V hf.1 ry, flats_V hf.2 hr2, fun us hu => countU hf.1 ry hf.2 hr2 hu, r2.now st2 _ rfl⟩
      · exact r2.elim
    | [], _, r2 => exact r2.elim
    | _ :: _ :: _, _, r2 => exact r2.elim
  | _ => exact r.elim
end
end Ev

set_option maxRecDepth 100000
set_option maxHeartbeats 2000000
namespace Ev
open PySem PySem.Spec PyProof.Rows L2
section
variable {W : Wd} {X : Cx} {n : Nat} {C : Cl} {Wx : WX} {e0 : Em} {H0 : En} {pins : List (Addr × Obj)} {σ : L2.St} {H H1 : Hp} {s : Shared} {e e1 : Em} {μ : Mu} {a b c tg : Expr} {A B V' : E} {pos p : Pos} {es : List Expr} {ys : Es} {D : Ends}
theorem Lo.turn {σd : Sg} (lo : Lo W e H0 σd σ H) {i : Nat} {l0 l1 : L} {a : Addr} {o : HO} (hat : σd[i]? = some (some l0)) (p0 : l0.priv = true) (hv : σ[i]? = some (some (.ref a))) (r : RepS W e H0 (upd H a o) l1 (.ref a)) :
    Lo W e H0 (σd.set i (some l1)) σ (upd H a o) := by
  refine ⟨by simp [lo.len], fun j l hj => ?_, fun j j' l l' w hjj g1 g2 q1 q2 g3 => ?_⟩
  · by_cases hji : j = i
    · subst hji
      by_cases hl : j < σd.length
      · rw [List.getElem?_set_self hl] at hj; cases hj
        exact ⟨_, hv, r⟩
      · rw [List.getElem?_eq_none (by simpa using hl)] at hj; cases hj
    · rw [List.getElem?_set_ne (Ne.symm hji)] at hj
      obtain ⟨w, g1, g2⟩ := lo.at_ j l hj
      refine ⟨w, g1, ?_⟩
      cases l with
      | val d' => exact g2
      | own xs =>
        obtain ⟨b, vs, rfl, k1, k2, k3⟩ := g2
        have hne : b ≠ a := fun z => lo.ne j i _ _ (.ref b) hji hj hat rfl p0 g1 (by rw [z]; exact hv)
        exact ⟨b, vs, rfl, by rw [upd_ne hne]; exact k1, k2, k3⟩
      | self c' fs' =>
        obtain ⟨b, dx', gs', i2, ⟨rfl, sb1, sb2⟩, k1, k2⟩ := g2
        have hne : b ≠ a := fun z => lo.ne j i _ _ (.ref b) hji hj hat rfl p0 g1 (by rw [z]; exact hv)
        exact ⟨b, dx', gs', i2, ⟨rfl, sb1, sb2⟩, by rw [upd_ne hne]; exact k1, k2⟩
      | exn _ _ =>
        obtain ⟨b, dx', gs', i2, rfl, hx0, k1, k2⟩ := g2
        have hne : dx' ≠ a := by
          obtain ⟨w0, y1, y2⟩ := lo.at_ i _ hat
          rw [hv] at y1; cases y1
          rintro rfl
          cases l0 with
          | val d => cases p0
          | own xs =>
            obtain ⟨b0, vs0, q0, y3, _⟩ := y2
            cases q0
            rw [y3] at k1; cases k1
          | self c fs =>
            obtain ⟨b0, d0, gs0, i0, ⟨q0, _⟩, y3, _⟩ := y2
            cases q0
            rw [y3] at k1; cases k1
          | exn c fs => cases p0
        exact ⟨b, dx', gs', i2, rfl, hx0, by rw [upd_ne hne]; exact k1, k2⟩
  · have back : ∀ {j : Nat} {l : L}, (σd.set i (some l1))[j]? = some (some l) → l.priv = true → ∃ l0, σd[j]? = some (some l0) ∧ l0.priv = true := by
      intro j l hj hp
      by_cases hji : j = i
      · subst hji; exact ⟨_, hat, p0⟩
      · rw [List.getElem?_set_ne (Ne.symm hji)] at hj
        exact ⟨l, hj, hp⟩
    obtain ⟨l0, b1, b2⟩ := back g1 q1
    obtain ⟨l0', b1', b2'⟩ := back g2 q2
    exact lo.ne j j' l0 l0' w hjj b1 b1' b2 b2' g3
theorem Lo.take {σd : Sg} (lo : Lo W e H0 σd σ H) {i : Nat} {l1 : L} {a : Addr} (hp : l1.priv = true) (hn : ∀ (j : Nat) (l : L), σd[j]? = some (some l) → l.priv = true → σ[j]? ≠ some (some (.ref a))) (r : RepS W e H0 H l1 (.ref a)) :
    Lo W e H0 (σd.set i (some l1)) (σ.set i (some (.ref a))) H := by
  refine ⟨by simp [lo.len], fun j l hj => ?_, fun j j' l l' w hjj g1 g2 q1 q2 g3 => ?_⟩
  · by_cases hji : j = i
    · subst hji
      by_cases hl : j < σd.length
      · rw [List.getElem?_set_self hl] at hj; cases hj
        exact ⟨_, by rw [List.getElem?_set_self (by rw [lo.len]; exact hl)], r⟩
      · rw [List.getElem?_eq_none (by simpa using hl)] at hj; cases hj
    · rw [List.getElem?_set_ne (Ne.symm hji)] at hj ⊢
      exact lo.at_ j l hj
  · by_cases hj : j = i
    · subst hj
      have hj' : j' ≠ j := Ne.symm hjj
      rw [List.getElem?_set_ne (Ne.symm hj')] at g2 ⊢
      have hl : j < σ.length := by
        have := (List.getElem?_eq_some_iff.mp g3).1
        simpa using this
      rw [List.getElem?_set_self hl] at g3
      cases g3
      exact hn j' l' g2 q2
    · rw [List.getElem?_set_ne (Ne.symm hj)] at g1 g3
      by_cases hj' : j' = i
      · subst hj'
        by_cases hl : j' < σ.length
        · rw [List.getElem?_set_self hl]
          intro z
          cases z
          exact hn j l g1 q1 g3
        · rw [List.getElem?_eq_none (by simpa using hl)]
          intro z; cases z
      · rw [List.getElem?_set_ne (Ne.symm hj')] at g2 ⊢
        exact lo.ne j j' l l' w hjj g1 g2 q1 q2 g3
theorem Lo.fresh {σd : Sg} (lo : Lo W e H0 σd σ H) {a : Addr} (hn : H a = none) : ∀ (j : Nat) (l : L), σd[j]? = some (some l) → l.priv = true → σ[j]? ≠ some (some (.ref a)) := by
  intro j l hj hp hz
  obtain ⟨w, g1, g2⟩ := lo.at_ j l hj
  rw [g1] at hz
  cases hz
  cases l with
  | val d => cases hp
  | own xs =>
    obtain ⟨b, vs, q, k1, _⟩ := g2
    cases q
    rw [hn] at k1; cases k1
  | self c fs =>
    obtain ⟨b, dx, gs, i2, ⟨q, _⟩, k1, _⟩ := g2
    cases q
    rw [hn] at k1; cases k1
  | exn _ _ => cases hp
theorem snd_setLc (h : Hyp W X n C Wx) {t : Tg} {it : Ev.It} {cond : To} {vs : List Nat} {elt iter : Expr} {ifs : List Expr} {scope : Scope} {ow : List (Str × Nat)} {i : Nat} {y : Str} {py spos : Pos} (own_ : Bool)
    (hy : X.N[i]? = some y) (hyl : X.env.scope.names.lookup y = some .local) (hsw : swapsWith (.ListComp elt [⟨tg, iter, ifs, 0⟩] scope pos) (some (.Name y py)) spos.line X.env = pure true)
    (hi : EvW.PIW X tg iter (rI W C Wx H0 true it)) (ok : BlkOk X.N X.env.scope scope ow) (hvs : ow.map (·.2) = vs) (hin : tgIn vs t = true)
    (hg : ∀ (s : Shared) (H : Hp) (C' : Addr) (cl : List (Str × Addr)) (fp : List Addr), PG (EvW.blkW X s H scope (compEnvC scope cl C' X.env) fp) tg (rG W H0 t)) (ht : ∀ (s : Shared) (H : Hp) (C' : Addr) (cl : List (Str × Addr)) (fp : List Addr), PTs (EvW.blkW X s H scope (compEnvC scope cl C' X.env) fp) ifs (rTo W C Wf H0 cond))
    (he : ∀ (s : Shared) (H : Hp) (C' : Addr) (cl : List (Str × Addr)) (fp : List Addr), PE (EvW.blkW X s H scope (compEnvC scope cl C' X.env) fp) elt (rE W C Wf H0 A)) (hs : ∀ x, foldedSetIterable iter X.env x = pure x) :
    PS X (.Assign [.Name y py] (.ListComp elt [⟨tg, iter, ifs, 0⟩] scope pos) spos) (rS W C Wx e0 H0 (if own_ then .ownc i (.comp A t it cond vs) else .asg (.name i) (.comp A t it cond vs))) := by
  refine ⟨fun pins s σ H D I ⟨e, μ, σd, x0, st, lo, q⟩ => ?_⟩
  refine (EvW.ps_setLcW h.warmW h.nd hy hyl hsw hi ok hg ht he hs).run pins s σ H D I ?_
  rw [hvs]
  cases own_ with
  | true =>
    have q : AftS W e0 H0 e ((evE C (.comp A t it cond vs) σd μ).st σd fun d m => match d with | .lst us => .nx (σd.set i (some (.own us))) m | _ => .stuck) D Wx := q
    refine lc_ok h hin st lo (AftS.of_st x0 lo q).eq fun ds m' e' H' vacc p0 x' st' hp0 hDv racc p1 p2 hr => ?_
    rw [hr] at q
    have q : AftS W e0 H0 e (.nx (σd.set i (some (.own ds))) m') D Wx := q
    have lo' := lo.ex x'
    have h0 : H0.h p0 = none := none_back x0.dom hp0
    exact q e' H' _ (x0.trans x') x'.gr st' (lo'.take rfl (fun j l hj hp => lo.fresh hp0 j l hj hp) ⟨p0, vacc, rfl, hDv, racc, p1, p2, h0⟩)
  | false =>
    have q : AftS W e0 H0 e ((evE C (.comp A t it cond vs) σd μ).st σd fun d m => match bindT (.name i) d σd with | some σ' => .nx σ' m | none => .stuck) D Wx := q
    refine lc_ok h hin st lo (AftS.of_st x0 lo q).eq fun ds m' e' H' vacc p0 x' st' hp0 hDv racc p1 p2 hr => ?_
    rw [hr] at q
    have q : AftS W e0 H0 e (.nx (σd.set i (some (.val (.lst ds)))) m') D Wx := q
    have st2 := st'.frozenAt (.lst vacc) p1 p2
    have hup : upd H' p0 (.lst vacc) = H' := by
      funext b
      by_cases hb : b = p0
      · rw [hb, upd_same, hDv]
      · rw [upd_ne hb]
    rw [hup] at st2
    have mono : ∀ b u, e'.G b = some u → upd e'.G p0 (.lst vacc) b = some u := fun b u q => by rw [upd_ne (ne_of_none q p1)]; exact q
    have x2 : Ex e H ⟨upd e'.G p0 (.lst vacc), e'.r⟩ H' := by
      refine ⟨fun b u q => mono b u (x'.g b u q), x'.r, fun b u q => ?_, x'.rn, x'.keep, x'.dom⟩
      by_cases hb : b = p0
      · rw [hb]; exact .inr hp0
      · have q : upd e'.G p0 (.lst vacc) b = some u := q
        rw [upd_ne hb] at q; exact x'.gn b u q
    refine q _ H' _ (x0.trans x2) x2.gr st2 ((lo.ex x2).set i ⟨p0, vacc, rfl, .inl (.inl upd_same), ?_⟩)
    exact RepL.mono (e := e') (e' := ⟨upd e'.G p0 (.lst vacc), e'.r⟩) mono (fun _ _ q => q) _ _ racc
theorem snd_own (h : Hyp W X n C Wx) {i : Nat} {y : Str} {py lpos : Pos} (hy : X.N[i]? = some y) (hyl : X.env.scope.names.lookup y = some .local) (ha : PA X es (rA W C Wx H0 ys)) :
    PS X (.Assign [.Name y py] (.List es lpos) pos) (rS W C Wx e0 H0 (.own i ys)) := by
  refine ⟨fun pins s σ H D I ⟨e, μ, σd, x0, st, lo, q⟩ => ?_⟩
  refine (ps_set h.nd hy (.inl hyl) (pe_lst ha) (by rfl) (.inr hyl)).run pins s σ H D I ?_
  have q : AftS W e0 H0 e ((evEs C ys σd μ).st σd fun vs m => if (lim vs.length && vs.all nbD) = true then .nx (σd.set i (some (.own vs))) m else .stuck) D Wx := q
  refine rA.at st lo (AftS.of_st x0 lo q) fun ds m e' H' vs x' st' lo' r hv => ?_
  split at r
  · rename_i hc
    rw [Bool.and_eq_true] at hc
    have rv := RepHL.of hc.2 hv
    refine ⟨by rw [rv.length]; exact lim_le hc.1, fun p0 hp0 => ?_⟩
    have hG : e'.G p0 = none := by
      cases z : e'.G p0 with
      | none => rfl
      | some u => rw [st'.sub p0 u z] at hp0; cases hp0
    have hr : ∀ j, e'.r j ≠ some p0 := fun j z => by
      obtain ⟨u, hu⟩ := st'.rH z
      rw [hp0] at hu; cases hu
    obtain ⟨x1, st1⟩ := st'.grown (H1 := upd H' p0 (.lst vs)) fun b u z => by rw [upd_ne (ne_of_none z hp0)]; exact z
    have h0 : H0.h p0 = none := none_back x0.dom (none_back x'.dom hp0)
    refine r e' _ _ ((x0.trans x').trans x1) (Gr.refl e') st1 ((lo'.ex x1).take rfl (fun j l hj hp => lo'.fresh hp0 j l hj hp) ⟨p0, vs, rfl, upd_same, rv, hG, hr, h0⟩)
  · exact r.elim
theorem xs_swap {o : Expr} {m : Str} {p1 p2 : Pos} {env : Env} {l : Nat} {xs : List Expr} {ks : List Keyword} : swapsWith (.Call (.Attribute o m p1) xs ks p2) none l env = pure false := by rfl
theorem snd_app (h : Hyp W X n C Wx) {i : Nat} {y : Str} {py apos cpos : Pos} (hy : X.N[i]? = some y) (hv : Vis X.env.scope y) (hd : (y == ("__debug__" : Str)) = false) (hcd : (y == ("__classdict__" : Str)) = false) (hl : (apos.endLine == cpos.line) = true) (hs : noStar b = true) (hb : PE X b (rE W C Wx H0 B)) :
    PS X (.Expr (.Call (.Attribute (.Name y py) "append" apos) [b] [] cpos) pos) (rS W C Wx e0 H0 (.app i B)) := by
  have hst : starEach [b] X.env = (false, eval b X.env) :: starEach [] X.env := star_no hs
  have hx := ps_expr (pos := pos) (pe_bm (cpos := cpos) (apos := apos) PySem.F.plainAttrs_list PySem.F.slot_list_append PySem.F.type_list_append (fun a b c d e f g h i => mt_append (X := X) a b c d e f g h i) (pe_var (pos := py) hy hv hd hcd) (snd_cons (Wx := Wx) (C := C) (W := W) (H0 := H0) hs hb snd_nil) (base_ok rfl) (by rw [hst]; rfl) hl hst (by rfl)) xs_swap
  refine ⟨fun pins s σ H D I ⟨e, μ, σd, x0, st, lo, q⟩ => hx.run pins s σ H D I ?_⟩
  have q : AftS W e0 H0 e (match σd[i]? with
    | some (some (.own xs)) => (evE C B σd μ).st σd fun d m => if nbD d && decide (xs.length < LINE) then .nx (σd.set i (some (.own (xs ++ [d])))) m else .stuck
    | _ => .stuck) D Wx := q
  split at q
  · rename_i xs hat
    obtain ⟨v, hv1, a, vs, rfl, k1, k2, k3⟩ := lo.at_ i _ hat
    refine ⟨_, hv1, .inl ⟨rfl, vs, .inl (.inl k1)⟩, e, μ, σd, st, lo, ?_⟩
    have q2 := AftS.of_st x0 lo q
    show Aft W e H ((evE C B σd μ).bind fun x m => (evEs C .nil σd m).bind fun ys m => .ok (x :: ys) m) _ _
    cases hr : evE C B σd μ with
    | stuck => rw [hr] at q2; exact q2.elim
    | exc c fs m => rw [hr] at q2; exact q2
    | ok d m =>
      rw [hr] at q2
      intro e' H' x' st' ws hws
      obtain ⟨w, ws', rfl, hw, hn⟩ := hws
      cases (show ws' = [] from hn)
      have r : AftS W e0 H0 e' (if nbD d && decide (xs.length < LINE) then .nx (σd.set i (some (.own (xs ++ [d])))) m else .stuck) D Wx := q2 e' H' x' st'
      have lo' := lo.ex x'
      split at r
      · rename_i hc
        rw [Bool.and_eq_true] at hc
        obtain ⟨v2, hv2, a2, vs2, e2, j1, j2, j3⟩ := lo'.at_ i _ hat
        rw [hv1] at hv2
        cases hv2
        cases e2
        have hlen : xs.length < 16777216 := of_decide_eq_true hc.2
        refine ⟨a, vs2, w, rfl, rfl, j1, by rw [sizeLine_eq, j2.length]; exact hlen, ?_⟩
        have x1 := (x0.trans x').privUpd (.lst (vs2 ++ [w])) j3.2.2
        exact r e' _ σ x1 (Gr.refl e') (st'.privUpd _ j3.1 j3.2.1) (lo'.turn hat rfl hv1 ⟨a, vs2 ++ [w], rfl, upd_same, RepL.append j2 (.cons (RepH.of hc.1 hw) .nil), j3⟩)
      · exact r.elim
  · exact q.elim
theorem snd_ext (h : Hyp W X n C Wx) {t : Tg} {it : Ev.It} {cond : To} {vs : List Nat} {elt iter : Expr} {ifs : List Expr} {scope : Scope} {ow : List (Str × Nat)} {i : Nat} {y : Str} {py apos cpos lpos : Pos}
    (hy : X.N[i]? = some y) (hv : Vis X.env.scope y) (hd : (y == ("__debug__" : Str)) = false) (hcd : (y == ("__classdict__" : Str)) = false) (hl : (apos.endLine == cpos.line) = true)
    (hi : EvW.PIW X tg iter (rI W C Wx H0 true it)) (ok : BlkOk X.N X.env.scope scope ow) (hvs : ow.map (·.2) = vs) (hin : tgIn vs t = true)
    (hg : ∀ (s : Shared) (H : Hp) (C' : Addr) (cl : List (Str × Addr)) (fp : List Addr), PG (EvW.blkW X s H scope (compEnvC scope cl C' X.env) fp) tg (rG W H0 t)) (ht : ∀ (s : Shared) (H : Hp) (C' : Addr) (cl : List (Str × Addr)) (fp : List Addr), PTs (EvW.blkW X s H scope (compEnvC scope cl C' X.env) fp) ifs (rTo W C Wf H0 cond))
    (he : ∀ (s : Shared) (H : Hp) (C' : Addr) (cl : List (Str × Addr)) (fp : List Addr), PE (EvW.blkW X s H scope (compEnvC scope cl C' X.env) fp) elt (rE W C Wf H0 A)) (hs : ∀ x, foldedSetIterable iter X.env x = pure x) :
    PS X (.Expr (.Call (.Attribute (.Name y py) "extend" apos) [.ListComp elt [⟨tg, iter, ifs, 0⟩] scope lpos] [] cpos) pos) (rS W C Wx e0 H0 (.ext i (.comp A t it cond vs))) := by
  have hst : starEach [.ListComp elt [⟨tg, iter, ifs, 0⟩] scope lpos] X.env = (false, eval (.ListComp elt [⟨tg, iter, ifs, 0⟩] scope lpos) X.env) :: starEach [] X.env := star_no rfl
  have hx := ps_expr (pos := pos) (pe_bm (cpos := cpos) (apos := apos) PySem.F.plainAttrs_list PySem.F.slot_list_extend PySem.F.type_list_extend (fun a b c d e f g h i => mt_extend (X := X) a b c d e f g h i) (pe_var (pos := py) hy hv hd hcd) (pa_cons (EvW.pe_lcW (pos := lpos) h.warmW h.nd hi ok hg ht he hs) pa_nil hst) (base_ok rfl) (by rw [hst]; rfl) hl hst (by rfl)) xs_swap
  refine ⟨fun pins s σ H D I ⟨e, μ, σd, x0, st, lo, q⟩ => hx.run pins s σ H D I ?_⟩
  have q : AftS W e0 H0 e (match σd[i]? with
    | some (some (.own xs)) => (evE C (.comp A t it cond vs) σd μ).st σd fun d m => match d with
      | .lst zs => if xs.length + zs.length ≤ LINE then .nx (σd.set i (some (.own (xs ++ zs)))) m else .stuck
      | _ => .stuck
    | _ => .stuck) D Wx := q
  split at q
  · rename_i xs hat
    obtain ⟨v, hv1, a, us, rfl, k1, k2, k3⟩ := lo.at_ i _ hat
    refine ⟨_, hv1, .inl ⟨rfl, us, .inl (.inl k1)⟩, ?_⟩
    rw [hvs]
    refine lc_ok h hin st lo (AftS.of_st x0 lo q).eq fun ds m' e' H' vacc p0 x' st' hp0 hDv racc p1 p2 hr => ?_
    rw [hr] at q
    have q : AftS W e0 H0 e (if xs.length + ds.length ≤ LINE then .nx (σd.set i (some (.own (xs ++ ds)))) m' else .stuck) D Wx := q
    split at q
    · rename_i hlen
      have lo' := lo.ex x'
      obtain ⟨v2, hv2, a2, us2, e2, j1, j2, j3⟩ := lo'.at_ i _ hat
      rw [hv1] at hv2
      cases hv2
      cases e2
      have hlen : xs.length + ds.length ≤ 16777216 := hlen
      refine ⟨a, p0, us2, vacc, rfl, rfl, j1, hDv, by rw [sizeLine_eq, j2.length, racc.length]; exact hlen, ?_⟩
      have x1 := (x0.trans x').privUpd (.lst (us2 ++ vacc)) j3.2.2
      exact q e' _ σ x1 x'.gr (st'.privUpd _ j3.1 j3.2.1) (lo'.turn hat rfl hv1 ⟨a, us2 ++ vacc, rfl, upd_same, RepL.append j2 racc, j3⟩)
    · exact q.elim
  · exact q.elim
theorem frz_ok {σd : Sg} {i : Nat} {xs : List Ev.D} (x0 : Ex e0 H0.h e H) (st : St0 W e μ H) (lo : Lo W e H0 σd σ H) (hat : σd[i]? = some (some (.own xs))) :
    ∃ e', Ex e0 H0.h e' H ∧ Gr e e' ∧ St0 W e' μ H ∧ Lo W e' H0 (σd.set i (some (.val (.lst xs)))) σ H := by
  obtain ⟨v, hv1, a, vs, rfl, k1, k2, k3, k4, k5⟩ := lo.at_ i _ hat
  have st2 := st.frozenAt (.lst vs) k3 k4
  have hup : upd H a (.lst vs) = H := by
    funext b
    by_cases hb : b = a
    · rw [hb, upd_same, k1]
    · rw [upd_ne hb]
  rw [hup] at st2
  have mono : ∀ b u, e.G b = some u → upd e.G a (.lst vs) b = some u := fun b u q => by rw [upd_ne (ne_of_none q k3)]; exact q
  have g : Gr e ⟨upd e.G a (.lst vs), e.r⟩ := ⟨mono, fun _ _ z => z⟩
  refine ⟨⟨upd e.G a (.lst vs), e.r⟩, ⟨fun b u q => mono b u (x0.g b u q), x0.r, fun b u q => ?_, x0.rn, x0.keep, x0.dom⟩, g, st2, ⟨by simp [lo.len], fun j l hj => ?_, fun j j' l l' w hjj g1 g2 q1 q2 g3 => ?_⟩⟩
  · by_cases hb : b = a
    · rw [hb]; exact .inr k5
    · have q : upd e.G a (.lst vs) b = some u := q
      rw [upd_ne hb] at q; exact x0.gn b u q
  · by_cases hji : j = i
    · subst hji
      by_cases hl : j < σd.length
      · rw [List.getElem?_set_self hl] at hj; cases hj
        exact ⟨_, hv1, a, vs, rfl, .inl (.inl upd_same), RepL.mono (e := e) (e' := ⟨upd e.G a (.lst vs), e.r⟩) mono (fun _ _ q => q) _ _ k2⟩
      · rw [List.getElem?_eq_none (by simpa using hl)] at hj; cases hj
    · rw [List.getElem?_set_ne (Ne.symm hji)] at hj
      obtain ⟨w, g1, g2⟩ := lo.at_ j l hj
      refine ⟨w, g1, ?_⟩
      have ne : ∀ {b : Addr}, l.priv = true → w = .ref b → b ≠ a := fun hp hw z => lo.ne j i _ _ (.ref a) hji hj hat hp rfl (by rw [g1, hw, z]) hv1
      have pv : ∀ {b : Addr}, b ≠ a → PrivAt e H0 b → PrivAt ⟨upd e.G a (.lst vs), e.r⟩ H0 b := fun hb ⟨p1, p2, p3⟩ => ⟨by show upd e.G a (.lst vs) _ = none; rw [upd_ne hb]; exact p1, p2, p3⟩
      cases l with
      | val d => exact Rep.mono (e := e) (e' := ⟨upd e.G a (.lst vs), e.r⟩) mono (fun _ _ q => q) _ _ g2
      | own ys =>
        obtain ⟨b, us, rfl, m1, m2, m3⟩ := g2
        exact ⟨b, us, rfl, m1, RepL.mono (e := e) (e' := ⟨upd e.G a (.lst vs), e.r⟩) mono (fun _ _ q => q) _ _ m2, pv (ne rfl rfl) m3⟩
      | self c fs =>
        obtain ⟨b, dx, gs, i2, ⟨rfl, sb1, sb2⟩, m1, m2, m2x, m3, m4, m5⟩ := g2
        exact ⟨b, dx, gs, i2, ⟨rfl, sb1, sb2⟩, m1, m2, m2x, ⟨fun k d hk => let ⟨z1, z2, z3, z4⟩ := m3.at_ k d hk; ⟨z1, z2, z3, Rep.mono (e := e) (e' := ⟨upd e.G a (.lst vs), e.r⟩) mono (fun _ _ q => q) _ _ z4⟩, m3.no⟩, m4, pv (ne rfl rfl) m5⟩
      | exn _ _ =>
        obtain ⟨b, dx', gs', i2, rfl, hx0, m1, m2, m2x, m3, m4, m5⟩ := g2
        have hne : dx' ≠ a := fun z => by rw [z, k1] at m1; cases m1
        exact ⟨b, dx', gs', i2, rfl, hx0, m1, m2, m2x, ⟨fun k d hk => let ⟨z1, z2, z3, z4⟩ := m3.at_ k d hk; ⟨z1, z2, z3, Rep.mono (e := e) (e' := ⟨upd e.G a (.lst vs), e.r⟩) mono (fun _ _ q => q) _ _ z4⟩, m3.no⟩, by show upd e.G a (.lst vs) dx' = none; rw [upd_ne hne]; exact m4, m5⟩
  · have back : ∀ {j : Nat} {l : L}, (σd.set i (some (.val (.lst xs))))[j]? = some (some l) → l.priv = true → σd[j]? = some (some l) := by
      intro j l hj hp
      by_cases hji : j = i
      · subst hji
        by_cases hl : j < σd.length
        · rw [List.getElem?_set_self hl] at hj; cases hj; cases hp
        · rw [List.getElem?_eq_none (by simpa using hl)] at hj; cases hj
      · rw [List.getElem?_set_ne (Ne.symm hji)] at hj; exact hj
    exact lo.ne j j' l l' w hjj (back g1 q1) (back g2 q2) q1 q2 g3
theorem snd_frz {i : Nat} {as : Ss} {xs : List Stmt} (hr : PSs X xs (rSs W C Wx e0 H0 as)) : PSs X xs (rSs W C Wx e0 H0 (.cons (.frz i) as)) := by
  refine ⟨fun pins s σ H D I ⟨e, μ, σd, x0, st, lo, q⟩ => ?_⟩
  have q : AftS W e0 H0 e ((match σd[i]? with
    | some (some (.own xs)) => .nx (σd.set i (some (.val (.lst xs)))) μ
    | some (some (.val _)) => .nx σd μ
    | _ => .stuck : SR).seq fun σ' m => exSs C as σ' m) D Wx := q
  cases hat : σd[i]? with
  | none => rw [hat] at q; exact q.elim
  | some o =>
    cases o with
    | none => rw [hat] at q; exact q.elim
    | some l =>
      cases l with
      | own ys =>
        rw [hat] at q
        obtain ⟨e', x1, g, st', lo'⟩ := frz_ok x0 st lo hat
        exact hr.run pins s σ H D I ⟨e', μ, _, x1, st', lo', AftS.later g q⟩
      | val d =>
        rw [hat] at q
        exact hr.run pins s σ H D I ⟨e, μ, _, x0, st, lo, q⟩
      | _ => rw [hat] at q; exact q.elim
end
end Ev

set_option maxRecDepth 100000
set_option maxHeartbeats 2000000
namespace EvW
open PySem PySem.Spec PyProof.Rows L2
abbrev HdL := List (Value × Option Nat × (Addr → Value → Option Addr → TS))
def offN (v : Option Nat) (σ : L2.St) : L2.St := match v with
  | some i => σ.set i none
  | none => σ
def onN (v : Option Nat) (a : Addr) (σ : L2.St) : L2.St := match v with
  | some i => σ.set i (some (.ref a))
  | none => σ
def endsN (v : Option Nat) (D : Ends) : Ends := { nx := fun σ H => D.nx (offN v σ) H, rt := D.rt, bk := fun σ H => D.bk (offN v σ) H, ct := fun σ H => D.ct (offN v σ) H }
inductive HdsX (X : Cx) : List ExceptHandler → HdL → Prop
  | nil : HdsX X [] []
  | bare {x : Str} {c : Value} {ts : Addr → Value → Option Addr → TS} {b₀ : Stmt} {suite : List Stmt} {np pos' : Pos} {hds : List ExceptHandler} {l : HdL} (hc : Names X x c)
      (hsu : ∀ (a : Addr) (oe : Obj) (cls : Value) (d : Option Addr) (pn : List (Addr × Obj)), L2N.Zn cls d oe → (∃ vs, oe.data = .fields vs) → PSs (X.suite a ((a, oe) :: pn)) (b₀ :: suite) (ts a cls d)) (r : HdsX X hds l) :
      HdsX X (.ExceptHandler (some (.Name x np)) none (b₀ :: suite) pos' :: hds) ((c, none, ts) :: l)
  | named {x nm : Str} {c : Value} {i : Nat} {ts : Addr → Value → Option Addr → TS} {b₀ : Stmt} {suite : List Stmt} {np pos' : Pos} {hds : List ExceptHandler} {l : HdL} (hc : Names X x c) (hi : X.N[i]? = some nm) (hl : X.env.kindOf nm = some .local)
      (hsu : ∀ (a : Addr) (oe : Obj) (cls : Value) (d : Option Addr) (pn : List (Addr × Obj)), L2N.Zn cls d oe → (∃ vs, oe.data = .fields vs) → PSs (X.suite a ((a, oe) :: pn)) (b₀ :: suite) (ts a cls d)) (r : HdsX X hds l) :
      HdsX X (.ExceptHandler (some (.Name x np)) (some nm) (b₀ :: suite) pos' :: hds) ((c, some i, ts) :: l)
def wHds (K : PySem.W.Frag) (Wout : WX) (D : Ends) : HdL → WX
  | [] => Wout
  | (c, v, ts) :: r => fun cls d σ H => ∃ b, PySem.W.exmOne K cls c = some b ∧ (b = true → ∀ a, H a = none → ts a cls d (endsN v D) (onN v a σ) H) ∧ (b = false → wHds K Wout D r cls d σ H)
section
variable {X : Cx} {body : List Stmt} {h₀ : ExceptHandler} {hds : List ExceptHandler} {l : HdL} {pos : Pos} {tb : WX → TS} {Wout : WX}
theorem ps_tryW (hs : X.stack = X.env :: X.outer) (hf : X.env.frame = some X.env.locals) (hN : X.N.Nodup) (tk : L2N.Takes X Wout)
    (hb : ∀ (W : WX) (pn : List (Addr × Obj)) (xe : Value → Shared → Prop), L2N.Takes (X.tr pn xe) W → PassesOwn (model X.prog X.w) X.A X.env xe → PSs (X.tr pn xe) body (tb W))
    (hh : HdsX X (h₀ :: hds) l) : PS X (.Try body (h₀ :: hds) [] [] pos) (fun D σ H => tb (wHds X.K Wout D l) D σ H) := by
  constructor
  intro pins s σ H D I h
  have ok := I.ok
  have hfr : X.A.frames = some (X.env :: X.outer) := by rw [ok.frames, hs]
  refine wpAny_Try_except ?_
  refine wpAny_mono ((hb (wHds X.K Wout D l) (X.pn ++ pins) (fun e s₁ => wpAny (model X.prog X.w) X.A (noteFrame e X.env) (fun _ s₂ => wpAny (model X.prog X.w) X.A (setFlight e none) (fun _ s₃ =>
    wpAny (model X.prog X.w) X.A (handleBy e X.env (h₀ :: hds)) (SP X pins D) X.xe s₃) X.xe s₂) X.xe s₁) (fun u s1 xx => ?_) PassesOwn.looking).run [] s σ H D (I.toTry _) h) (fun f s1 hsp => ?_) (fun e s1 he => he)
  · obtain ⟨a, B, sI, pins1, σ1, H1, cls, d, rfl, J0, nb, up, sky0, na, os, ag, w⟩ := xx
    have J : Inv X pins σ1 H1 sI := J0.ofTry ok
    have sky : L2.Sky B (X.env :: X.outer) a (L2N.Zn cls d) X.env.locals s1.heap := by rw [← hs]; exact sky0
    show wpAny (model X.prog X.w) X.A (noteFrame (.ref a) X.env) _ _ _
    refine L2N.Sky.land L2N.Zn.steady hfr hf sky fun h3 fl3 up3 => ?_
    have J3 : Inv X pins σ1 H1 { s1 with heap := h3 } := J.landed nb fl3.1 (up.trans up3) os ag
    obtain ⟨oe3, vs3, he3, hz3, hd3⟩ := fl3.there
    have nfr : a ∉ frs (X.env :: X.outer) := fun hm => by
      obtain ⟨_, o, e, hnf⟩ := fl3.2.2.1.mem hm
      rw [he3] at e; cases e
      exact hnf _ hd3
    have nL : a ≠ X.env.locals := fun z => nfr (List.mem_filterMap.mpr ⟨X.env, List.mem_cons_self, by rw [hf, z]⟩)
    have nF : a ∉ X.fs := fun hm => by
      obtain ⟨e, he, q⟩ := List.mem_filterMap.mp hm
      exact nfr (List.mem_filterMap.mpr ⟨e, List.mem_cons_of_mem _ he, q⟩)
    have S3 := J3.suite he3 hd3 na nL nF
    have LT : PySem.W.Looks (model X.prog X.w) h3 (typeOf (.ref a)) cls := fun A Q E s k q => wpAny_typeOf_ref (k _ _ he3) (by rw [hz3.1]; exact q)
    have test : ∀ {x : Str} {c : Value} {np : Pos} (hc : Names X x c) {Q : Value → Shared → Prop} {E : Value → Shared → Prop}, Q c { s1 with heap := h3 } → wpAny (model X.prog X.w) (X.A.mark (some (.ref a))) (eval (.Name x np) X.env) Q E { s1 with heap := h3 } := fun {x c np} hc {Q E} q => by
      obtain ⟨hg, hdbg, hm | ⟨hm, hv, hnn⟩⟩ := hc
      · exact ld_glob (X := X.suite a ((a, oe3) :: (X.pn ++ pins))) S3 hg hm q hdbg
      · exact ld_blt (X := X.suite a ((a, oe3) :: (X.pn ++ pins))) S3 hg hm hv q hnn hdbg
    have go : ∀ {hds' : List ExceptHandler} {l' : HdL}, HdsX X hds' l' → wHds X.K Wout D l' cls d σ1 H1 → wpAny (model X.prog X.w) X.A (handleBy (.ref a) X.env hds') (SP X pins D) X.xe { s1 with heap := h3 } := by
      intro hds' l' hk
      induction hk with
      | nil =>
        intro w
        refine wpAny_handleBy_nil ?_
        obtain ⟨k1, k2, k3, oe, vs, T, oT, ts', he, hz, hd, h1, hr⟩ := id fl3
        unfold PySem.passOn
        refine wpAny_bind (wpAny_field he hd h1 ?_)
        rw [if_neg (show ¬ ((Value.ref T == Value.none) = true) from by simp)]
        have fin : wpAny (model X.prog X.w) X.A (setFlight (.ref a) X.env.frame) (fun _ s4 => wpAny (model X.prog X.w) X.A (throw (.ref a) : Sem Flow) (SP X pins D) X.xe s4) X.xe { s1 with heap := h3 } := by
          rw [hf]
          refine HandSPX.setFlight_upZ fl3 fun h4 hh4 up4 => wpAny_throw (tk _ _ ?_)
          exact ⟨a, B, sI, pins, σ1, H1, cls, d, rfl, J, nb, (up.trans up3).trans up4, .inr (.inr (by rw [hs]; exact hh4)), na, os, ag, w⟩
        first
          | exact wpAny_bind (wpAny_pure (wpAny_bind fin))
          | exact wpAny_bind fin
      | @bare x c ts b₀ suite np pos' hds2 l2 hc hsu r ih =>
        intro w
        obtain ⟨b, hb1, hyes, hno⟩ := w
        refine wpAny_handleBy_cons (codeAny_handlers_test ?_) (by intro q; cases q)
        refine test hc ((PySem.W.exm_one (M := model X.prog X.w) J3.kIn LT hb1).here ?_)
        cases b with
        | true =>
          refine codeAny_handlers_suite ?_
          refine HandSPX.lands_againZ fl3 fun h4 fl4 up4 => ?_
          have J4 : Inv X pins σ1 H1 { s1 with heap := h4 } := J.landed nb fl4.1 ((up.trans up3).trans up4) os ag
          obtain ⟨oe4, vs4, he4, hz4, hd4⟩ := fl4.there
          have S4 := J4.suite he4 hd4 na nL nF
          refine wpAny_mono ((hsu a oe4 cls d (X.pn ++ pins) hz4 ⟨_, hd4⟩).run [] _ _ H1 _ S4 (hyes rfl a na)) (fun f s6 hsp => ?_) (fun _ _ z => False.elim z)
          cases f with
          | next => exact hsp.elim fun σ6 q => q.elim fun H6 q => ⟨σ6, H6, q.1.unsuite ok, q.2⟩
          | brk => exact hsp.elim fun σ6 q => q.elim fun H6 q => ⟨σ6, H6, q.1.unsuite ok, q.2⟩
          | cont => exact hsp.elim fun σ6 q => q.elim fun H6 q => ⟨σ6, H6, q.1.unsuite ok, q.2⟩
          | ret u =>
            obtain ⟨v6, σ6, H6, S6, r6, q6⟩ := hsp
            exact ⟨v6, σ6, H6, S6.unsuite ok, r6, q6⟩
        | false => exact ih (hno rfl)
      | @named x nm c i ts b₀ suite np pos' hds2 l2 hc hi hl hsu r ih =>
        intro w
        obtain ⟨b, hb1, hyes, hno⟩ := w
        refine wpAny_handleBy_cons (codeAny_handlers_test ?_) (by intro q; cases q)
        refine test hc ((PySem.W.exm_one (M := model X.prog X.w) J3.kIn LT hb1).here ?_)
        cases b with
        | true =>
          refine codeAny_handlers_suite_as ?_
          refine HandSPX.lands_againZ fl3 fun h4 fl4 up4 => ?_
          have J4 : Inv X pins σ1 H1 { s1 with heap := h4 } := J.landed nb fl4.1 ((up.trans up3).trans up4) os ag
          obtain ⟨oe4, vs4, he4, hz4, hd4⟩ := fl4.there
          have S4 := J4.suite he4 hd4 na nL nF
          refine store_ok (X := X.suite a ((a, oe4) :: (X.pn ++ pins))) (v := .ref a) S4 hN hi (.inl hl) rfl (fun s5 S5 => ?_) (.inr hl)
          refine wpAny_mono ((hsu a oe4 cls d (X.pn ++ pins) hz4 ⟨_, hd4⟩).run [] s5 _ H1 _ S5 (hyes rfl a na)) (fun f s6 hsp => ?_) (fun _ _ z => False.elim z)
          have end_ : ∀ {σ6 : L2.St} {H6 : Hp} {Q : Shared → Prop}, Inv (X.suite a ((a, oe4) :: (X.pn ++ pins))) [] σ6 H6 s6 → (∀ s7, Inv X pins (σ6.set i none) H6 s7 → Q s7) →
              wpAny (model X.prog X.w) X.A (do bindName X.env nm .none; unbindBehindTheSuite X.env nm pos') (fun _ s7 => Q s7) X.xe s6 := fun {σ6 H6 Q} S6 hq => gone_ok (S6.unsuite ok) hN hi hl hq
          cases f with
          | next => exact hsp.elim fun σ6 q => q.elim fun H6 q => end_ q.1 fun s7 J7 => ⟨_, _, J7, q.2⟩
          | brk => exact hsp.elim fun σ6 q => q.elim fun H6 q => end_ q.1 fun s7 J7 => ⟨_, _, J7, q.2⟩
          | cont => exact hsp.elim fun σ6 q => q.elim fun H6 q => end_ q.1 fun s7 J7 => ⟨_, _, J7, q.2⟩
          | ret u =>
            obtain ⟨v6, σ6, H6, S6, r6, q6⟩ := hsp
            exact end_ S6 fun s7 J7 => ⟨_, _, _, J7, r6, q6⟩
        | false => exact ih (hno rfl)
    exact go hh w
  · cases f with
    | next => exact hsp.elim fun σ1 q => q.elim fun H1 q => wpAny_execs_nil ⟨σ1, H1, q.1.ofTry ok, q.2⟩
    | brk => exact hsp.elim fun σ1 q => q.elim fun H1 q => ⟨σ1, H1, q.1.ofTry ok, q.2⟩
    | cont => exact hsp.elim fun σ1 q => q.elim fun H1 q => ⟨σ1, H1, q.1.ofTry ok, q.2⟩
    | ret u =>
      obtain ⟨v, σ1, H1, J1, r, q⟩ := hsp
      exact ⟨v, σ1, H1, J1.ofTry ok, r, q⟩
end
end EvW

set_option maxRecDepth 100000
set_option maxHeartbeats 2000000
namespace Ev
open PySem PySem.Spec PyProof.Rows L2
section
variable {W : Wd} {X : Cx} {n : Nat} {C : Cl} {Wx : WX} {e0 : Em} {H0 : En} {pins : List (Addr × Obj)} {σ : L2.St} {H H1 : Hp} {s : Shared} {e e1 : Em} {μ : Mu} {A : E} {pos p : Pos} {D : Ends}
theorem snd_raise (h : Hyp W X n C Wx) {c : Nat} {i : ClI} {y : Str} {x : Expr} {ys : Es} (hi : W.T.cls[c]? = some i) (hx : i.isexc = true) (hne : i.flds ≠ []) (hn : i.name = y) (hg : Gl X y) (hd : (y == ("__debug__" : Str)) = false) (hs : noStar x = true) (ha : PA X [x] (rA W C Wx H0 ys)) :
    PS X (.Raise (some (.Call (.Name y p) [x] [] pos)) none pos') (rS W C Wx e0 H0 (.raise c ys)) := by
  refine ⟨fun pins s σ H D I ⟨e, μ, σd, x0, st, lo, q⟩ => ?_⟩
  have q : AftS W e0 H0 e (if C.hot = true then .stuck else (evEs C ys σd μ).st σd fun vs m => if vs.all nbD = true then (match excOf C.T c vs with | some fs => .exc c fs σd m | none => .stuck) else .stuck) D Wx := q
  by_cases hh : C.hot = true
  · rw [if_pos hh] at q; exact q.elim
  rw [if_neg hh] at q
  have calm : X.calm = true := h.warm.elim id fun z => absurd z.1 hh
  refine (L2N.ps_raise calm h.takes (pmk_one (Wx := Wx) (H0 := H0) h hi hx hne hn hg hd hs ha)).run pins s σ H D I ⟨e, μ, σd, st, lo, ?_⟩
  refine (AftS.of_st x0 lo q).imp fun vs m e1 H1 x1 st1 r => ?_
  split at r
  · rename_i hnb
    refine ⟨hnb, ?_⟩
    cases hf : excOf C.T c vs with
    | none => rw [hf] at r; exact r.elim
    | some fs =>
      rw [hf] at r
      refine ⟨fs, rfl, fun e2 H2 cls d x2 st2 xa => r e2 H2 σ cls d ((x0.trans x1).trans x2) x2.gr st2 ((lo.ex x1).ex x2) xa⟩
  · exact r.elim
structure Fl (X : Cx) : Prop where
  fn : ∀ x, X.fn x = true
  stk : X.stack = X.env :: X.outer
  frm : X.env.frame = some X.env.locals
theorem Hyp.inTry (h : Hyp W X n C Wx) {pn : List (Addr × Obj)} {xe : Value → Shared → Prop} {W' : WX} (hc : ¬ C.hot = true) (tk : L2N.Takes (X.tr pn xe) W') (ow : PassesOwn (model X.prog X.w) X.A X.env xe) : Hyp W (X.tr pn xe) n C W' :=
  ⟨h.prog, h.w, h.K, h.mg, h.base, h.T, h.txt, h.warm.imp id fun z => absurd z.1 hc, h.room, h.guards, h.nd, h.top, tk, ow, h.call, h.low, h.make, h.hcall, h.hlow, h.hmake⟩
theorem Hyp.inSuite (h : Hyp W X n C Wx) {a : Addr} {oe : Obj} {cls : Value} {d : Option Addr} {pn : List (Addr × Obj)} (hz : L2N.Zn cls d oe) (hf : ∃ vs, oe.data = .fields vs) : Hyp W (X.suite a ((a, oe) :: pn)) n C.heat Wf := by
  obtain ⟨vs, hv⟩ := hf
  refine ⟨h.prog, h.w, h.K, h.mg, h.base, h.T, h.txt, .inr ⟨rfl, (a, oe), ⟨rfl, vs, hv, hz.2.2 vs hv⟩, List.mem_cons_self⟩, ⟨h.room.dp, h.room.un⟩, h.guards, h.nd, h.top, ?_, PassesOwn.never, h.hcall, h.hlow, h.hmake, h.hcall, h.hlow, h.hmake⟩
  rintro u s' ⟨_, _, _, _, _, _, _, _, _, _, _, _, _, _, _, _, z⟩
  exact z
def suT (W : Wd) (C : Cl) (e0 : Em) (H0 : En) (b : Ss) : Addr → Value → Option Addr → TS := fun a cls d D σ H => ∃ c dx, cls = .ref (W.ca c) ∧ d = some dx ∧ rSs W C.heat Wf e0 { H0 with x := some (a, c, dx) } b D σ H
def clauses (W : Wd) (C : Cl) (e0 : Em) (H0 : En) : Hs → EvW.HdL
  | .nil => []
  | .cons c v b hs => (.ref (W.ca c), v, suT W C e0 H0 b) :: clauses W C e0 H0 hs
theorem RepS.chg {H0' : En} (hh : H0'.h = H0.h ∧ H0'.a = H0.a ∧ H0'.d = H0.d) : ∀ {l : L} {v : V}, (∀ c fs, l ≠ .exn c fs) → RepS W e H0 H l v → RepS W e H0' H l v
  | .val _, _, _, r => r
  | .own _, _, _, ⟨a, vs, q, h1, r, p1, p2, p3⟩ => ⟨a, vs, q, h1, r, p1, p2, by rw [hh.1]; exact p3⟩
  | .self _ _, _, _, ⟨a, dx, gs, i, ⟨q1, q2, q3⟩, h1, c, c2, f, z, p1, p2, p3⟩ => ⟨a, dx, gs, i, ⟨q1, by rw [hh.2.1]; exact q2, by rw [hh.2.2]; exact q3⟩, h1, c, c2, f, z, p1, p2, by rw [hh.1]; exact p3⟩
  | .exn c fs, _, ne, _ => absurd rfl (ne c fs)
theorem noX_some {o : Option L} {l : L} (h : noX o = some l) : o = some l ∧ ∀ c fs, l ≠ .exn c fs := by
  cases o with
  | none => cases h
  | some l' => cases l' <;> first | cases h; exact ⟨rfl, fun _ _ z => nomatch z⟩ | cases h
theorem offN_len (v : Option Nat) : (EvW.offN v σ).length = σ.length := by cases v <;> simp [EvW.offN]
theorem Lo.gone {H0' : En} (hh : H0'.h = H0.h ∧ H0'.a = H0.a ∧ H0'.d = H0.d) {σd : Sg} (lo : Lo W e H0' σd σ H) (v : Option Nat) : Lo W e H0 (gone v σd) (EvW.offN v σ) H := by
  have key : ∀ (j : Nat) (l : L), (Ev.gone v σd)[j]? = some (some l) → σd[j]? = some (some l) ∧ (EvW.offN v σ)[j]? = σ[j]? ∧ ∀ c fs, l ≠ .exn c fs := by
    intro j l hj
    unfold Ev.gone at hj
    rw [List.getElem?_map] at hj
    cases v with
    | none =>
      cases hq : σd[j]? with
      | none => rw [hq] at hj; cases hj
      | some o =>
        rw [hq] at hj
        obtain ⟨z1, z2⟩ := noX_some (Option.some.inj hj)
        exact ⟨by rw [z1], rfl, z2⟩
    | some i =>
      by_cases hji : j = i
      · subst hji
        by_cases hl : j < σd.length
        · rw [List.getElem?_set_self hl] at hj; cases hj
        · rw [List.getElem?_eq_none (by simpa using hl)] at hj; cases hj
      · rw [List.getElem?_set_ne (Ne.symm hji)] at hj
        cases hq : σd[j]? with
        | none => rw [hq] at hj; cases hj
        | some o =>
          rw [hq] at hj
          obtain ⟨z1, z2⟩ := noX_some (Option.some.inj hj)
          exact ⟨by rw [z1], by show (σ.set i none)[j]? = _; rw [List.getElem?_set_ne (Ne.symm hji)], z2⟩
  refine ⟨?_, fun j l hj => ?_, fun j j' l l' w hjj g1 g2 q1 q2 g3 => ?_⟩
  · rw [offN_len, lo.len]
    unfold Ev.gone
    cases v <;> simp
  · obtain ⟨k1, k2, k3⟩ := key j l hj
    obtain ⟨w, h1, h2⟩ := lo.at_ j l k1
    exact ⟨w, by rw [k2]; exact h1, h2.chg (H0' := H0) ⟨hh.1.symm, hh.2.1.symm, hh.2.2.symm⟩ k3⟩
  · obtain ⟨k1, k2, _⟩ := key j l g1
    obtain ⟨k4, k5, _⟩ := key j' l' g2
    rw [k2] at g3
    rw [k5]
    exact lo.ne j j' l l' w hjj k1 k4 q1 q2 g3
theorem Lo.enter (hx : H0.x = none) {σd : Sg} (lo : Lo W e H0 σd σ H) {v : Option Nat} {a : Addr} {c dx : Nat} {fs : List (Nat × Ev.D)} (r : RepS W e { H0 with x := some (a, c, dx) } H (.exn c fs) (.ref a)) :
    Lo W e { H0 with x := some (a, c, dx) } (suiteIn v c fs σd) (EvW.onN v a σ) H := by
  have old : ∀ (j : Nat) (l : L), σd[j]? = some (some l) → ∃ w, σ[j]? = some (some w) ∧ RepS W e { H0 with x := some (a, c, dx) } H l w := fun j l hj => by
    obtain ⟨w, h1, h2⟩ := lo.at_ j l hj
    refine ⟨w, h1, h2.chg (H0 := H0) (H0' := { H0 with x := some (a, c, dx) }) ⟨rfl, rfl, rfl⟩ fun c' fs' z => ?_⟩
    subst z
    obtain ⟨_, _, _, _, _, z, _⟩ := h2
    rw [hx] at z; cases z
  cases v with
  | none => exact ⟨lo.len, old, lo.ne⟩
  | some i =>
    have ne_i : ∀ {j : Nat} {l : L}, (σd.set i (some (.exn c fs)))[j]? = some (some l) → l.priv = true → j ≠ i := fun {j l} g q z => by
      subst z
      by_cases hl : j < σd.length
      · rw [List.getElem?_set_self hl] at g; cases g; cases q
      · rw [List.getElem?_eq_none (by simpa using hl)] at g; cases g
    refine ⟨by show (σ.set i _).length = (σd.set i _).length; simp [lo.len], fun j l hj => ?_, fun j j' l l' w hjj g1 g2 q1 q2 g3 => ?_⟩
    · have hj : (σd.set i (some (.exn c fs)))[j]? = some (some l) := hj
      show ∃ w, (σ.set i (some (.ref a)))[j]? = some (some w) ∧ _
      by_cases hji : j = i
      · subst hji
        by_cases hl : j < σd.length
        · rw [List.getElem?_set_self hl] at hj; cases hj
          exact ⟨.ref a, by rw [List.getElem?_set_self (by rw [lo.len]; exact hl)], r⟩
        · rw [List.getElem?_eq_none (by simpa using hl)] at hj; cases hj
      · rw [List.getElem?_set_ne (Ne.symm hji)] at hj ⊢
        exact old j l hj
    · have g1 : (σd.set i (some (.exn c fs)))[j]? = some (some l) := g1
      have g2 : (σd.set i (some (.exn c fs)))[j']? = some (some l') := g2
      have n1 := ne_i g1 q1
      have n2 := ne_i g2 q2
      have g3 : (σ.set i (some (.ref a)))[j]? = some (some w) := g3
      show (σ.set i (some (.ref a)))[j']? ≠ some (some w)
      rw [List.getElem?_set_ne (Ne.symm n1)] at g1 g3
      rw [List.getElem?_set_ne (Ne.symm n2)] at g2 ⊢
      exact lo.ne j j' l l' w hjj g1 g2 q1 q2 g3
theorem handlers_ok (h : Hyp W X n C Wx) (hx : H0.x = none) {c : Nat} {fs : List (Nat × Ev.D)} {cls : Value} {d : Option Addr} {σd : Sg} (x0 : Ex e0 H0.h e H) (st : St0 W e μ H) (lo : Lo W e H0 σd σ H) (xa : Exa W e H c fs cls d) :
    ∀ (hs : Hs) (_ : ∀ c', c' ∈ (hsCls hs) → ∃ i', W.T.cls[c']? = some i' ∧ i'.isexc = true), AftS W e0 H0 e (exHs C hs c fs σd μ) D Wx → EvW.wHds W.K Wx D (clauses W C e0 H0 hs) cls d σ H
  | .nil, _, q => q e H σ cls d x0 (Gr.refl e) st lo xa
  | .cons c' v b hs, hk, q => by
    obtain ⟨rfl, dx, gs, i, rfl, hdx, hi, hie, hf, g1, g2⟩ := id xa
    have ef := h.txt.exc c i hi hie
    obtain ⟨i', hi', hie'⟩ := hk c' (by simp [hsCls])
    refine ⟨isSubc W.T c c', ef.sub c' i' hi' hie', fun hb a ha => ?_, fun hb => ?_⟩
    · have q : AftS W e0 H0 e (if isSubc C.T c c' = true then suiteOut v (exSs C.heat b (suiteIn v c fs σd) μ) else exHs C hs c fs σd μ) D Wx := q
      rw [h.T, if_pos hb] at q
      refine ⟨c, dx, rfl, rfl, e, μ, suiteIn v c fs σd, x0, st, lo.enter hx ⟨a, dx, gs, i, rfl, rfl, hdx, hi, hie, hf, g1, g2⟩, ?_⟩
      cases hr : exSs C.heat b (suiteIn v c fs σd) μ with
      | nx σ1 m1 => rw [hr] at q; exact fun e2 H2 σ2 x2 gr2 st2 lo2 => q e2 H2 _ x2 gr2 st2 (Lo.gone (H0 := H0) (H0' := { H0 with x := some (a, c, dx) }) ⟨rfl, rfl, rfl⟩ lo2 v)
      | brk σ1 m1 => rw [hr] at q; exact fun e2 H2 σ2 x2 gr2 st2 lo2 => q e2 H2 _ x2 gr2 st2 (Lo.gone (H0 := H0) (H0' := { H0 with x := some (a, c, dx) }) ⟨rfl, rfl, rfl⟩ lo2 v)
      | ret d1 σ1 m1 => rw [hr] at q; exact fun e2 H2 v2 x2 gr2 st2 hv => q e2 H2 v2 x2 gr2 st2 hv
      | exc _ _ _ _ => rw [hr] at q; exact q.elim
      | stuck => rw [hr] at q; exact q.elim
    · have q : AftS W e0 H0 e (if isSubc C.T c c' = true then suiteOut v (exSs C.heat b (suiteIn v c fs σd) μ) else exHs C hs c fs σd μ) D Wx := q
      rw [h.T, if_neg (by rw [hb]; simp)] at q
      exact handlers_ok h hx x0 st lo xa hs (fun c2 h2 => hk c2 (by simp [hsCls, h2])) q
theorem snd_try (h : Hyp W X n C Wx) (pn : Pn W X C H0) (fl : Fl X) {b : Ss} {hs : Hs} {body : List Stmt} {h₀ : ExceptHandler} {hds : List ExceptHandler}
    (hb : ∀ (X' : Cx) (W' : WX), Hyp W X' n C W' → Pn W X' C H0 → X'.N = X.N → X'.env.scope = X.env.scope → Fl X' → PSs X' body (rSs W C W' e0 H0 b)) (hk : ∀ c', c' ∈ (hsCls hs) → ∃ i', W.T.cls[c']? = some i' ∧ i'.isexc = true)
    (hh : EvW.HdsX X (h₀ :: hds) (clauses W C e0 H0 hs)) : PS X (.Try body (h₀ :: hds) [] [] pos) (rS W C Wx e0 H0 (.try_ b hs)) := by
  refine ⟨fun pins s σ H D I ⟨e, μ, σd, x0, st, lo, q⟩ => ?_⟩
  have q : AftS W e0 H0 e (if C.hot = true then .stuck else (match exSs C b σd μ with | .exc c fs σ' m => exHs C hs c fs σ' m | r => r)) D Wx := q
  by_cases hc : C.hot = true
  · rw [if_pos hc] at q; exact q.elim
  rw [if_neg hc] at q
  have hx : H0.x = none := pn.cold (by simpa using hc)
  refine (EvW.ps_tryW (tb := fun W' => rSs W C W' e0 H0 b) fl.stk fl.frm h.nd h.takes (fun W' p2 xe tk ow => hb _ W' (h.inTry hc tk ow) ⟨pn.cold, fun a c dx z => by rw [hx] at z; cases z⟩ rfl rfl ⟨fl.fn, fl.stk, fl.frm⟩) hh).run pins s σ H D I ⟨e, μ, σd, x0, st, lo, ?_⟩
  cases hr : exSs C b σd μ with
  | nx σ1 m1 => rw [hr] at q; exact q
  | brk σ1 m1 => rw [hr] at q; exact q
  | ret d1 σ1 m1 => rw [hr] at q; exact q
  | stuck => rw [hr] at q; exact q.elim
  | exc c fs σ1 m1 =>
    rw [hr] at q
    intro e2 H2 σ2 cls d x2 gr2 st2 lo2 xa
    rw [h.K]
    exact handlers_ok h hx x2 st2 lo2 xa hs hk (AftS.later gr2 q)
end
end Ev

set_option maxRecDepth 100000
set_option maxHeartbeats 2000000
namespace Ev
open PySem PySem.Spec PyProof.Rows L2
structure Calls (W : Wd) (n : Nat) (C : Cl) : Prop where
  T : C.T = W.T
  call : FnPs W n C.hot C.call
  low : (∀ f ds μ, C.low f ds μ = .stuck) ∨ ∃ k, k + 1 ≤ n ∧ FnPs W k C.hot C.low
  make : (∀ f ds μ, C.make f ds μ = .stuck) ∨ ∃ k, k + 1 ≤ n ∧ InPs W k C.hot C.make
  hcall : FnPs W n true C.hcall
  hlow : (∀ f ds μ, C.hlow f ds μ = .stuck) ∨ ∃ k, k + 1 ≤ n ∧ FnPs W k true C.hlow
  hmake : (∀ f ds μ, C.hmake f ds μ = .stuck) ∨ ∃ k, k + 1 ≤ n ∧ InPs W k true C.hmake
def BodyOk (W : Wd) (i : FnI) (body : List Stmt) (scope : Scope) : Prop := ∀ (X : Cx) (n : Nat) (C : Cl) (Wx : WX) (e0 : Em) (H0 : En), Hyp W X n C Wx → Pn W X C H0 → X.N = i.names → X.env.scope = scope → Fl X → PSs X body (rSs W C Wx e0 H0 i.body)
section
variable {W : Wd} {n : Nat} {C : Cl}
theorem argsOf_self {i : FnI} {us : List D} (h : us.length = i.np) : argsOf i us = some us := by
  unfold argsOf
  rw [if_pos ⟨Nat.le_of_eq h, by omega⟩, h]
  rw [show i.np + i.dfl.length - i.np = i.dfl.length by omega, List.drop_length, List.append_nil]
theorem lo_start {e : Em} {H0 : En} {H : Hp} {N : List Str} {ds : List D} {vs : List V} (r : RepL W e ds vs) : Lo W e H0 (pad N.length (ds.map fun d => some (.val d))) (L2.start N vs) H := by
  have hl : vs.length = ds.length := r.length
  have at_ : ∀ (i : Nat) (l : L), (pad N.length (ds.map fun d => some (.val d)))[i]? = some (some l) → ∃ d, l = .val d ∧ ds[i]? = some d := by
    intro i l h
    unfold pad at h
    by_cases hi : i < ds.length
    · rw [List.getElem?_append_left (by simpa using hi)] at h
      rw [List.getElem?_map, List.getElem?_eq_getElem hi] at h
      cases h
      exact ⟨_, rfl, List.getElem?_eq_getElem hi⟩
    · rw [List.getElem?_append_right (by simpa using hi)] at h
      rw [List.getElem?_replicate] at h
      split at h <;> cases h
  refine ⟨?_, fun i l h => ?_, fun i j l l' v _ h _ p _ _ => ?_⟩
  · unfold pad L2.start
    simp [hl]
  · obtain ⟨d, rfl, hd⟩ := at_ i l h
    obtain ⟨v, hv, rv⟩ := r.get hd
    refine ⟨v, ?_, rv⟩
    have hi : i < vs.length := (List.getElem?_eq_some_iff.mp hv).1
    unfold L2.start
    rw [List.getElem?_append_left (by simpa using hi), List.getElem?_map, hv]; rfl
  · obtain ⟨d, rfl, _⟩ := at_ i l h
    cases p
theorem hyp_body {qual : Str} {scope : Scope} {f : Addr} {cdv : Value} {A : Around} {outer : List Env} {s : Shared} {H : Hp} {E : XK} {N ps : List Str} (T : Txt W) (c : Calls W n C) (S : FnScope N ps scope) (hr : L2H.RoomH (n + 34) (A.deeper (envOfC qual scope s.heap.objs.size f cdv))) (hgu : A.guards = some []) {X : Cx}
    (hX : IsCx C.hot (L2N.CX W.P W.w) W.P W.w W.K W.mg W.base N qual scope f cdv A outer s H E X) : Hyp W X n C (fun cls d _ H => E cls d H) ∧ X.N = N ∧ X.env.scope = scope ∧ Fl X := by
  rcases hX with rfl | ⟨hc, p, hot, rfl⟩
  · exact ⟨⟨rfl, rfl, rfl, rfl, rfl, c.T, T, .inl rfl, hr, hgu, S.nd, ⟨_, _, rfl, S.gen, S.co, rfl, rfl⟩, L2N.takes_of rfl rfl rfl rfl, passes_of rfl, c.call, c.low, c.make, c.hcall, c.hlow, c.hmake⟩, rfl, rfl, ⟨fun _ => rfl, rfl, rfl⟩⟩
  · exact ⟨⟨rfl, rfl, rfl, rfl, rfl, c.T, T, .inr ⟨hc, p, hot, List.mem_singleton.mpr rfl⟩, hr, hgu, S.nd, ⟨_, _, rfl, S.gen, S.co, rfl, rfl⟩, L2N.takes_of rfl rfl rfl rfl, passes_of rfl, c.call, c.low, c.make, c.hcall, c.hlow, c.hmake⟩, rfl, rfl, ⟨fun _ => rfl, rfl, rfl⟩⟩
theorem fnOk_fd {i : FnI} {body : List Stmt} {scope : Scope} {x qual : Str} {params : Arguments} {dvs : List V} {fd : FuncData} (T : Txt W) (c : Calls W n C) (sc : FnScope i.names (i.names.take i.np) scope) (np : (i.names.take i.np).length = i.np) (b : BodyOk W i body scope)
    (F : FunD W.K x qual params body scope dvs [] (fadr W.K W.T i.loc) fd) : FnG C.hot W.P W.w W.K W.mg W.base (L2N.CX W.P W.w) (n + 1 + 34) (fadr W.K W.T i.loc) fd (i.names.take i.np) (spF W i.np (runF C i)) := by
  refine fnG_of (k := n + 34) F sc (fun vs H Q E ⟨e, μ, ds, h1, _⟩ => by rw [h1, np]) fun cdv A outer s H vs Q E X hX hgu hr ⟨e, μ, ds, hl, st, rd, q⟩ => ?_
  obtain ⟨hy, hy1, hy2, hy3⟩ := hyp_body T c sc hr hgu hX
  refine ⟨_, b _ n C _ e ⟨H, 0, 0, none⟩ hy ⟨fun _ => rfl, fun _ _ _ z => nomatch z⟩ hy1 hy2 hy3, e, μ, pad i.names.length (ds.map fun d => some (.val d)), Ex.refl e H, st, lo_start rd, ?_⟩
  have hd : ds.length = i.np := by rw [← rd.length]; exact hl
  unfold runF at q
  rw [argsOf_self hd] at q
  have q : Aft W e H (match exSs C i.body (pad i.names.length (ds.map fun d => some (.val d))) μ with
    | .nx _ m => .ok .non m
    | .ret d _ m => .ok d m
    | .exc c fs _ m => .exc c fs m
    | _ => .stuck) (fun d m e' H' => ∀ v, Rep W e' d v → Q v H') E := q
  cases hr : exSs C i.body (pad i.names.length (ds.map fun d => some (.val d))) μ with
  | nx σ1 m1 => rw [hr] at q; exact fun e' H' σ' x' _ st' _ => q e' H' x' st' .non rfl
  | ret d σ1 m1 => rw [hr] at q; exact fun e' H' v x' _ st' hv => q e' H' x' st' v hv
  | exc c fs σ1 m1 => rw [hr] at q; exact fun e' H' σ' cls d x' _ st' _ z => q e' H' cls d x' st' z
  | brk σ1 m1 => rw [hr] at q; exact q.elim
  | stuck => rw [hr] at q; exact q.elim
theorem fnP_ok {i : FnI} {body : List Stmt} {scope : Scope} (T : Txt W) (c : Calls W n C) (t : FnT W i body scope) (b : BodyOk W i body scope) : FnP W (n + 1) C.hot i (runF C i) := by
  obtain ⟨x, qual, params, dvs, fd, F, bi⟩ := t.ex
  refine ⟨t.np, fun ds μ us h => ?_, fun ds μ h => ?_, fd, fnOk_fd T c t.sc t.np b F, bi⟩
  · unfold runF
    rw [h, argsOf_self (argsOf_full h).2.2.2]
  · unfold runF; rw [h]
theorem flds_of {ks : List Nat} {fs : List (Nat × D)} {ds : List D} (h : fldsOf ks fs = some ds) : ds.length = ks.length ∧ ∀ (j k : Nat), ks[j]? = some k → ∃ d, ds[j]? = some d ∧ fs.lookup k = some d := by
  unfold fldsOf at h
  induction ks generalizing ds with
  | nil => simp at h; subst h; exact ⟨rfl, fun j k hk => by simp at hk⟩
  | cons k0 ks ih =>
    rw [List.mapM_cons] at h
    cases h1 : fs.lookup k0 with
    | none => rw [h1] at h; simp at h
    | some d0 =>
      rw [h1] at h
      cases h2 : ks.mapM (fun k => fs.lookup k) with
      | none => rw [h2] at h; simp at h
      | some ds0 =>
        rw [h2] at h
        simp at h
        subst h
        obtain ⟨i1, i2⟩ := ih h2
        refine ⟨by simp [i1], fun j k hk => ?_⟩
        cases j with
        | zero => simp at hk; subst hk; exact ⟨d0, rfl, h1⟩
        | succ j => simp at hk; obtain ⟨d, a, b⟩ := i2 j k hk; exact ⟨d, by simpa using a, b⟩
theorem repL_of {W : Wd} {e : Em} : ∀ {ds : List D} {vs : List V}, vs.length = ds.length → (∀ (j : Nat) (d : D), ds[j]? = some d → ∃ v, vs[j]? = some v ∧ Rep W e d v) → RepL W e ds vs
  | [], [], _, _ => rfl
  | d :: ds, v :: vs, hl, h => by
    obtain ⟨v', h1, h2⟩ := h 0 d rfl
    cases h1
    exact .cons h2 (repL_of (by simpa using hl) fun j d' hd => by simpa using h (j + 1) d' (by simpa using hd))
  | [], _ :: _, hl, _ => by simp at hl
  | _ :: _, [], hl, _ => by simp at hl
theorem without_up {H : Hp} {a : Addr} : ∀ b u, without_ H a b = some u → H b = some u := fun b u h => by
  unfold without_ at h
  split at h
  · cases h
  · exact h
theorem inP_ok {i : FnI} {c : Nat} {k : ClI} {body : List Stmt} {scope : Scope} (T : Txt W) (cc : Calls W n C) (hk : W.T.cls[c]? = some k) (hkx : k.isexc = false) (t : FnT W i body scope) (b : BodyOk W i body scope) (hnp : 0 < i.np) : InP W (n + 1) C.hot c k i (runI C c k.flds i) := by
  obtain ⟨x, qual, params, dvs, fd, F, bi⟩ := t.ex
  have cf := T.cls c k hk hkx
  refine ⟨t.np, fun ds μ us h => ?_, fun ds μ h => ?_, fd, ?_, bi⟩
  · unfold runI
    rw [h, argsOf_self (us := .non :: us) (argsOf_full h).2.2.2]
  · unfold runI; rw [h]
  · refine fnG_of (k := n + 34) F t.sc (fun vs H Q E ⟨e, μ, ds, a, dx, us, _, h1, _⟩ => by rw [h1, t.np]) fun cdv A outer s H vs Q E X hX hgu hr ⟨e, μ, ds, a, dx, us, hvs, hl, hH, hg, hrr, st, rd, q⟩ => ?_
    subst hvs
    obtain ⟨hy, hy1, hy2, hy3⟩ := hyp_body T cc t.sc hr hgu hX
    have hd : (D.non :: ds).length = i.np := by rw [← hl]; simp [rd.length]
    unfold runI at q
    rw [argsOf_self hd] at q
    obtain ⟨xg, stg⟩ := st.grown (H1 := H) without_up
    refine ⟨_, b _ n C _ e ⟨without_ H a, a, dx, none⟩ hy ⟨fun _ => rfl, fun _ _ _ z => nomatch z⟩ hy1 hy2 hy3, e, μ, pad i.names.length (some (.self c []) :: ds.map fun d => some (.val d)), xg, stg, ?_, ?_⟩
    · -- the slots at the entry
      have lo1 := lo_start (W := W) (e := e) (H0 := ⟨without_ H a, a, dx, none⟩) (H := H) (N := i.names) (ds := .non :: ds) (vs := .non :: us) (.cons rfl rd)
      have hN : 0 < (i.names.take i.np).length := by rw [t.np]; exact hnp
      have e1 : pad i.names.length (some (L.self c []) :: ds.map fun d => some (.val d)) = (pad i.names.length ((D.non :: ds).map fun d => some (.val d))).set 0 (some (.self c [])) := by
        unfold pad; simp
      have e2 : L2.start i.names (.ref a :: us) = (L2.start i.names (.non :: us)).set 0 (some (.ref a)) := by
        unfold L2.start; simp
      rw [e1, e2]
      refine ⟨by simp [lo1.len], fun j l h => ?_, fun j j' l l' w hjj h1 h2 p1 p2 h3 => ?_⟩
      · cases j with
        | zero =>
          have hlen : 0 < (pad i.names.length ((D.non :: ds).map fun d => some (L.val d))).length := by unfold pad; simp
          rw [List.getElem?_set_self hlen] at h; cases h
          refine ⟨.ref a, by rw [List.getElem?_set_self (by rw [lo1.len]; exact hlen)], a, dx, [], k, ⟨rfl, rfl, rfl⟩, hH, hk, hkx, ⟨fun _ _ z => (nomatch z), fun _ _ => rfl⟩, Nat.zero_le _, hg, hrr, ?_⟩
          show without_ H a a = none
          unfold without_; rw [if_pos rfl]
        | succ j =>
          rw [List.getElem?_set_ne (by omega)] at h ⊢
          exact lo1.at_ _ _ h
      · have vl : ∀ {j : Nat} {l : L}, j ≠ 0 → ((pad i.names.length ((D.non :: ds).map fun d => some (L.val d))).set 0 (some (.self c [])))[j]? = some (some l) → l.priv = true → False := by
          intro j l hj h hp
          rw [List.getElem?_set_ne (Ne.symm hj)] at h
          unfold pad at h
          by_cases hi : j < ((D.non :: ds).map fun d => some (L.val d)).length
          · rw [List.getElem?_append_left hi, List.getElem?_map] at h
            cases hq : (D.non :: ds)[j]? with
            | none => rw [hq] at h; cases h
            | some d => rw [hq] at h; cases h; cases hp
          · rw [List.getElem?_append_right (by omega), List.getElem?_replicate] at h
            split at h <;> cases h
        by_cases hj : j = 0
        · by_cases hj' : j' = 0
          · omega
          · exact (vl hj' h2 p2).elim
        · exact (vl hj h1 p1).elim
    · have q : AftI W e (without_ H a) c k.flds a dx (match exSs C i.body (pad i.names.length (some (.self c []) :: ds.map fun d => some (.val d))) μ with
        | .nx σ m => selfOut c k.flds σ m
        | .exc c' fs σ m => excOut c σ c' fs m
        | _ => .stuck) Q E := q
      have back : ∀ {e' : Em} {H' : Hp} {m1 : Mu} {gs : List (Str × V)}, Ex e (without_ H a) e' H' → St0 W e' m1 H' → e'.G a = none → (∀ j, e'.r j ≠ some a) → H' a = some (.ins (W.ca c) dx gs) →
          Ex e (without_ H a) e' (without_ H' a) ∧ St0 W e' m1 (without_ H' a) ∧ upd (without_ H' a) a (.ins (W.ca c) dx gs) = H' := by
        intro e' H' m1 gs x' st' p1 p2 hHa
        have wo : ∀ b, b ≠ a → without_ H' a b = H' b := fun b hb => by unfold without_; rw [if_neg hb]
        have na : ∀ b u, without_ H a b = some u → b ≠ a := fun b u h z => by
          rw [z] at h; unfold without_ at h; rw [if_pos rfl] at h; cases h
        refine ⟨⟨x'.g, x'.r, x'.gn, x'.rn, fun b u h hn => by rw [wo b (na b u h)]; exact x'.keep b u h hn, fun b u h => by rw [wo b (na b u h)]; exact x'.dom b u h⟩, ⟨fun b u h => by rw [wo b (ne_of_none h p1)]; exact st'.sub b u h, fun j u h => ?_, st'.out, st'.inj, st'.free⟩, ?_⟩
        · obtain ⟨b, hb, hz⟩ := st'.cell j u h
          have hne : b ≠ a := fun z => p2 j (by rw [← z]; exact hb)
          refine ⟨b, hb, ?_⟩
          cases u with
          | lst xs => obtain ⟨ws, h1, h2⟩ := hz; exact ⟨ws, by rw [wo b hne]; exact h1, h2⟩
          | ins c2 fs2 => obtain ⟨dx2, gs2, j2, h1, h2⟩ := hz; exact ⟨dx2, gs2, j2, by rw [wo b hne]; exact h1, h2⟩
        · funext b
          by_cases hb : b = a
          · rw [hb, upd_same, hHa]
          · rw [upd_ne hb, wo b hb]
      have self0 : ∀ {e' : Em} {H' : Hp} {σ' : L2.St} {σ1 : Sg} {c2 : Nat} {fs : List (Nat × D)} {r : Sg}, σ1 = some (.self c2 fs) :: r → c2 = c → Lo W e' ⟨without_ H a, a, dx, none⟩ σ1 σ' H' → ∃ gs, H' a = some (.ins (W.ca c) dx gs) ∧ FldsM W e' k.flds fs gs ∧ e'.G a = none ∧ ∀ j, e'.r j ≠ some a := by
        intro e' H' σ' σ1 c2 fs r hσ hc lo'
        subst hσ hc
        obtain ⟨v, _, a', dx', gs, i', ⟨_, sa1, sa2⟩, h1, h2, h3, h4, _, p1, p2, _⟩ := lo'.at_ 0 _ rfl
        have sa1 : a = a' := sa1
        have sa2 : dx = dx' := sa2
        subst sa1 sa2
        rw [hk] at h2; cases h2
        exact ⟨gs, h1, h4, p1, p2⟩
      cases hr : exSs C i.body (pad i.names.length (some (.self c []) :: ds.map fun d => some (.val d))) μ with
      | nx σ1 m1 =>
        rw [hr] at q
        intro e' H' σ' x' _ st' lo'
        have q : AftI W e (without_ H a) c k.flds a dx (selfOut c k.flds σ1 m1) Q E := q
        unfold selfOut at q
        split at q
        · rename_i c2 fs r _
          split at q
          · rename_i hc
            cases hf : fldsOf k.flds fs with
            | none => rw [hf] at q; exact q.elim
            | some ds' =>
              rw [hf] at q
              obtain ⟨gs, h1, h4, p1, p2⟩ := self0 rfl hc lo'
              obtain ⟨y1, y2, y3⟩ := back x' st' p1 p2 h1
              obtain ⟨f1, f2⟩ := flds_of hf
              have at2 : ∀ (j kk : Nat), k.flds[j]? = some kk → ∃ d v, ds'[j]? = some d ∧ gs.lookup (an W.T kk) = some v ∧ Rep W e' d v := fun j kk hj => by
                obtain ⟨d, a1, a2⟩ := f2 j kk hj
                obtain ⟨_, v, a3, a4⟩ := h4.at_ kk d a2
                exact ⟨d, v, a1, a3, a4⟩
              have hvs : ∀ (j kk : Nat), k.flds[j]? = some kk → (k.flds.map fun kk => (gs.lookup (an W.T kk)).getD .non)[j]? = some ((gs.lookup (an W.T kk)).getD .non) := fun j kk hj => by rw [List.getElem?_map, hj]; rfl
              have z := q e' (without_ H' a) gs (k.flds.map fun kk => (gs.lookup (an W.T kk)).getD .non) ds' y1 y2 rfl ⟨by simp, fun j kk hj => ?_, fun n hn => h4.no n fun kk hk' _ => hn kk hk'⟩ (repL_of (by simp [f1]) fun j d hd => ?_) p1 p2
              · rw [y3] at z; exact z
              · obtain ⟨d, v, _, a3, _⟩ := at2 j kk hj
                exact ⟨v, by rw [hvs j kk hj, a3]; rfl, a3⟩
              · have hj : j < k.flds.length := by rw [← f1]; exact (List.getElem?_eq_some_iff.mp hd).1
                obtain ⟨d', v, a1, a3, a4⟩ := at2 j _ (List.getElem?_eq_getElem hj)
                rw [hd] at a1; cases a1
                exact ⟨v, by rw [hvs j _ (List.getElem?_eq_getElem hj), a3]; rfl, a4⟩
          · exact q.elim
        · exact q.elim
      | exc c' fs1 σ1 m1 =>
        rw [hr] at q
        intro e' H' σ' cls d x' _ st' lo' z
        have q : AftI W e (without_ H a) c k.flds a dx (excOut c σ1 c' fs1 m1) Q E := q
        unfold excOut at q
        split at q
        · rename_i c2 fs r
          split at q
          · rename_i hc
            obtain ⟨gs, h1, h4, p1, p2⟩ := self0 rfl hc lo'
            obtain ⟨y1, y2, y3⟩ := back x' st' p1 p2 h1
            obtain ⟨z1, dx', gs', i', z2, z3, z4⟩ := z
            have hne : dx' ≠ a := fun w => by rw [w, h1] at z3; cases z3
            have zz := q e' (without_ H' a) gs cls d y1 y2 ⟨z1, dx', gs', i', z2, by unfold without_; rw [if_neg hne]; exact z3, z4⟩ p1 p2 (fun w => hne (by rw [z2] at w; cases w; rfl))
            rw [y3] at zz
            exact zz
          · exact q.elim
        · exact q.elim
      | ret d σ1 m1 => rw [hr] at q; exact q.elim
      | brk σ1 m1 => rw [hr] at q; exact q.elim
      | stuck => rw [hr] at q; exact q.elim
end
end Ev

set_option maxRecDepth 100000
set_option maxHeartbeats 2000000
namespace Ev
open PySem PySem.Spec PyProof.Rows L2
structure Defs (W : Wd) : Prop where
  ok : ∀ (f : Nat) (i : FnI), W.T.fns[f]? = some i → i.ok = true → ∃ body scope, FnT W i body scope ∧ BodyOk W i body scope
  init : ∀ (c : Nat) (k : ClI) (i : FnI), W.T.cls[c]? = some k → k.isval = true → W.T.fns[k.init]? = some i → 0 < i.np
section
variable {W : Wd} {n : Nat} {C : Cl}
theorem fnPs_callT (T : Txt W) (F : Defs W) (c : Calls W n C) : FnPs W (n + 1) C.hot (callT W.T C) := by
  intro f ds μ
  cases hf : W.T.fns[f]? with
  | none => left; unfold callT; rw [hf]
  | some i =>
    cases ho : i.ok with
    | false => left; unfold callT; rw [hf]; show (if i.ok = true then _ else _) = _; rw [ho]; rfl
    | true =>
      right
      obtain ⟨body, scope, t, b⟩ := F.ok f i hf ho
      refine ⟨i, rfl, ho, ?_⟩
      have e : callT W.T C f = runF C i := by
        funext vs μ
        unfold callT
        rw [hf]
        show (if i.ok = true then _ else _) = _
        rw [if_pos ho]
      rw [e]
      exact fnP_ok T c t b
theorem inPs_makeT (T : Txt W) (F : Defs W) (c : Calls W n C) : InPs W (n + 1) C.hot (makeT W.T C) := by
  intro k ds μ
  cases hk : W.T.cls[k]? with
  | none => left; unfold makeT; rw [hk]
  | some kl =>
    cases hf : W.T.fns[kl.init]? with
    | none => left; simp only [makeT, hk, hf]
    | some i =>
      have e0 : ∀ vs μ, makeT W.T C k vs μ = if (i.ok && !kl.isexc) = true then (if kl.isval = true then runI C k kl.flds i vs μ else (runF C i (.obj μ.length :: vs) (μ ++ [.ins k []])).bind fun r m => (match r with
        | .non => .ok (.obj μ.length) m
        | _ => .stuck)) else .stuck := by
        intro vs μ
        simp only [makeT, hk, hf]
        try rfl
      by_cases hz : (i.ok && !kl.isexc) = true
      · right
        have hz' := hz
        rw [Bool.and_eq_true] at hz'
        have hx : kl.isexc = false := by simpa using hz'.2
        obtain ⟨body, scope, t, b⟩ := F.ok kl.init i hf hz'.1
        refine ⟨kl, i, rfl, hx, hf, hz'.1, ?_⟩
        cases hv : kl.isval with
        | true =>
          left
          have e : makeT W.T C k = runI C k kl.flds i := by
            funext vs μ
            rw [e0, if_pos hz, if_pos hv]
          rw [e]
          exact ⟨rfl, inP_ok T c hk hx t b (F.init k kl i hk hv hf)⟩
        | false =>
          right
          refine ⟨rfl, runF C i, fnP_ok T c t b, fun vs μ => ?_⟩
          rw [e0, if_pos hz, if_neg (by rw [hv]; simp)]
          try rfl
      · left
        rw [e0, if_neg hz]
theorem calls_ok (T : Txt W) (F : Defs W) (n : Nat) : ∀ h, Calls W n (lev W.T h n) := by
  induction n using Nat.strongRecOn with
  | ind n ih =>
    intro h
    match n, ih with
    | 0, _ => exact ⟨rfl, fun f ds μ => .inl rfl, .inl fun _ _ _ => rfl, .inl fun _ _ _ => rfl, fun f ds μ => .inl rfl, .inl fun _ _ _ => rfl, .inl fun _ _ _ => rfl⟩
    | 1, ih => exact ⟨rfl, fnPs_callT T F (ih 0 (by omega) h), .inl fun _ _ _ => rfl, .inl fun _ _ _ => rfl, fnPs_callT T F (ih 0 (by omega) true), .inl fun _ _ _ => rfl, .inl fun _ _ _ => rfl⟩
    | n + 2, ih =>
      have c := ih n (by omega)
      exact ⟨rfl, fnPs_callT T F (ih (n + 1) (by omega) h), .inr ⟨n + 1, by omega, fnPs_callT T F (c h)⟩, .inr ⟨n + 1, by omega, inPs_makeT T F (c h)⟩, fnPs_callT T F (ih (n + 1) (by omega) true), .inr ⟨n + 1, by omega, fnPs_callT T F (c true)⟩, .inr ⟨n + 1, by omega, inPs_makeT T F (c true)⟩⟩
end
end Ev

set_option maxRecDepth 100000
set_option maxHeartbeats 2000000
namespace Ev
open PySem PySem.Spec PyProof.Rows L2
def visB : Option NameKind → Bool
  | some .local => true
  | some .cell => true
  | some .free => true
  | _ => false
def locB (fl : Bool) : Option NameKind → Bool
  | some .local => true
  | some .cell => fl
  | _ => false
def glB : Option NameKind → Bool
  | some .globalImplicit => true
  | _ => false
def nmOk (N : List Str) (sc : Scope) (i : Nat) (y : Str) : Bool := decide (N[i]? = some y) && visB (sc.names.lookup y) && !(y == ("__debug__" : Str)) && !(y == ("__classdict__" : Str))
def stOk (N : List Str) (sc : Scope) (fl : Bool) (i : Nat) (y : Str) : Bool := decide (N[i]? = some y) && locB fl (sc.names.lookup y)
def glOk (sc : Scope) (y : Str) : Bool := glB (sc.names.lookup y) && !(y == ("__debug__" : Str))
def kdCk (T : Tb) (sc : Scope) (k : Kd) : Expr → Bool
  | .Name y _ => glOk sc y && (match k with
    | .cls c => decide ((T.cls[c]?).map (·.name) = some y)
    | k => decide ((kdN k).map Str.ofString = some y))
  | _ => false
def notComp : Expr → Bool
  | .ListComp _ _ _ _ => false
  | .SetComp _ _ _ _ => false
  | .DictComp _ _ _ _ _ => false
  | _ => true
def notSet : Expr → Bool
  | .Set _ _ _ => false
  | _ => true
mutual
def tgSl : Tg → List Nat
  | .name i => [i]
  | .tup ts => tgsSl ts
def tgsSl : Tgs → List Nat
  | .nil => []
  | .cons t ts => tgSl t ++ tgsSl ts
end
mutual
def chkTg (N : List Str) (sc : Scope) (fl : Bool) : Nat → Tg → Expr → Bool
  | 0, _, _ => false
  | n + 1, t, x => match t, x with
    | .name i, .Name y _ => stOk N sc fl i y
    | .tup ts, .Tuple es _ _ => es.all noStar && chkTgs N sc fl n ts es
    | _, _ => false
def chkTgs (N : List Str) (sc : Scope) (fl : Bool) : Nat → Tgs → List Expr → Bool
  | 0, _, _ => false
  | n + 1, ts, es => match ts, es with
    | .nil, [] => true
    | .cons t ts, x :: xs => chkTg N sc fl n t x && chkTgs N sc fl n ts xs
    | _, _ => false
end
def blkB (N : List Str) (sc scope : Scope) (vs : List Nat) : Bool := blkC N sc scope (vs.map fun v => (N.getD v "", v))
mutual
def chkE (N : List Str) (T : Tb) : Nat → Scope → E → Expr → Bool
  | 0, _, _, _ => false
  | n + 1, sc, a, x => match a, x with
    | .var i, .Name y _ => nmOk N sc i y
    | .lit (.int i), .Constant (.int j) _ _ => decide (i = j)
    | .lit (.bl i), .Constant (.bool j) _ _ => decide (i = j)
    | .lit .non, .Constant .none _ _ => true
    | .lit (.str i), .Constant (.str j) _ _ => decide (i = j)
    | .neg a, .UnaryOp .USub x _ => chkE N T n sc a x
    | .not a, .UnaryOp .Not x _ => chkE N T n sc a x
    | .bin k a b, .BinOp x op y _ => decide (op = opB2 k) && chkE N T n sc a x && chkE N T n sc b y
    | .cmp k a b, .Compare x [op] [y] _ => decide (op = opC k) && !behindInMarks op y && chkE N T n sc a x && chkE N T n sc b y
    | .chain k k' a b c, .Compare x [op, op'] [y, z] _ => decide (op = opC k) && decide (op' = opC k') && !lastMarks [op, op'] [y, z] && chkE N T n sc a x && chkE N T n sc b y && chkE N T n sc c z
    | .bop true a b, .BoolOp .And (x :: y :: r) _ => chkE N T n sc a x && chkB N T n sc true b (y :: r)
    | .bop false a b, .BoolOp .Or (x :: y :: r) _ => chkE N T n sc a x && chkB N T n sc false b (y :: r)
    | .ite t a b, .IfExp c x y _ => chkT N T n sc t c && chkE N T n sc a x && chkE N T n sc b y
    | .tup xs, .Tuple es _ _ => chkEs N T n sc xs es
    | .lst xs, .List es _ => chkEs N T n sc xs es
    | .cell xs, .List es _ => chkEs N T n sc xs es
    | .attr a k, .Attribute x f _ => decide (an T k = f) && baseOk x && chkE N T n sc a x
    | .idx a b, .Subscript x y _ => notSl y && chkE N T n sc a x && chkE N T n sc b y
    | .sl a lo hi, .Subscript x (.Slice l h none _) _ => chkE N T n sc a x && chkO N T n sc lo l && chkO N T n sc hi h
    | .call f xs, .Call (.Name y _) es [] _ => glOk sc y && decide ((T.fns[f]?).map (·.loc) = some (y, none)) && es.all noStar && chkEs N T n sc xs es
    | .make c xs, .Call (.Name y _) es [] _ => glOk sc y && decide ((T.cls[c]?).map (·.name) = some y) && es.all noStar && chkEs N T n sc xs es
    | .meth a k xs, .Call (.Attribute x m apos) es [] pos => decide (an T k = m) && baseOk x && (apos.endLine == pos.line) && decide (es.length < 30) && es.all noStar && chkE N T n sc a x && chkEs N T n sc xs es
    | .blt k xs, .Call (.Name y _) (e :: es) [] _ => glOk sc y && decide (y = Str.ofString (blN k)) && (e :: es).all noStar && chkEs N T n sc xs (e :: es)
    | .bmeth a .count (.cons false b .nil), .Call (.Attribute x m apos) [y] [] pos => decide (m = ("count" : Str)) && baseOk x && (apos.endLine == pos.line) && noStar y && chkE N T n sc a x && chkE N T n sc b y
    | .isin a false [k], .Call (.Name y _) [x, c] [] _ => glOk sc y && decide (y = ("isinstance" : Str)) && noStar x && kdCk T sc k c && chkE N T n sc a x
    | .fstr xs, .JoinedStr (y :: z :: r) _ => fsOk xs && chkFs N T n sc xs (y :: z :: r)
    | .comp a t it cond vs, .ListComp elt [⟨tg, iter, ifs, 0⟩] scope _ => chkIt N T n sc it iter && notSet iter && blkB N sc scope vs && tgIn vs t && chkTg N (relS scope sc) false n t tg && chkTo N T n (relS scope sc) cond ifs && chkE N T n (relS scope sc) a elt
    | _, _ => false
def chkB (N : List Str) (T : Tb) : Nat → Scope → Bool → E → List Expr → Bool
  | 0, _, _, _, _ => false
  | n + 1, sc, k, b, xs => match xs with
    | [y] => chkE N T n sc b y
    | y :: z :: r => (match b with
      | .bop k' a b' => (k' == k) && chkE N T n sc a y && chkB N T n sc k b' (z :: r)
      | _ => false)
    | [] => false
def chkT (N : List Str) (T : Tb) : Nat → Scope → Ev.T → Expr → Bool
  | 0, _, _, _ => false
  | n + 1, sc, t, x => match t, x with
    | .not t, .UnaryOp .Not x _ => chkT N T n sc t x
    | .bop true t u, .BoolOp .And (x :: y :: r) _ => chkT N T n sc t x && chkTB N T n sc true u (y :: r)
    | .bop false t u, .BoolOp .Or (x :: y :: r) _ => chkT N T n sc t x && chkTB N T n sc false u (y :: r)
    | .e (.cmp k a b), .Compare x [op] [y] _ => decide (op = opC k) && !behindInMarks op y && chkE N T n sc a x && chkE N T n sc b y
    | .e a, .Name y p => chkE N T n sc a (.Name y p)
    | .e a, .Constant c j p => chkE N T n sc a (.Constant c j p)
    | .e a, .Call f es kw p => chkE N T n sc a (.Call f es kw p)
    | .e a, .Attribute x f p => chkE N T n sc a (.Attribute x f p)
    | .e a, .Subscript x y p => chkE N T n sc a (.Subscript x y p)
    | .e a, .BinOp x op y p => chkE N T n sc a (.BinOp x op y p)
    | .e a, .ListComp x g s p => chkE N T n sc a (.ListComp x g s p)
    | _, _ => false
def chkTB (N : List Str) (T : Tb) : Nat → Scope → Bool → Ev.T → List Expr → Bool
  | 0, _, _, _, _ => false
  | n + 1, sc, k, b, xs => match xs with
    | [y] => chkT N T n sc b y
    | y :: z :: r => (match b with
      | .bop k' a b' => (k' == k) && chkT N T n sc a y && chkTB N T n sc k b' (z :: r)
      | _ => false)
    | [] => false
def chkEs (N : List Str) (T : Tb) : Nat → Scope → Es → List Expr → Bool
  | 0, _, _, _ => false
  | n + 1, sc, xs, es => match xs, es with
    | .nil, [] => true
    | .cons true a as, .Starred x _ :: r => chkE N T n sc a x && chkEs N T n sc as r
    | .cons false a as, x :: r => noStar x && chkE N T n sc a x && chkEs N T n sc as r
    | _, _ => false
def chkFs (N : List Str) (T : Tb) : Nat → Scope → Es → List Expr → Bool
  | 0, _, _, _ => false
  | n + 1, sc, xs, es => match xs, es with
    | .nil, [] => true
    | .cons true a as, .FormattedValue x (-1) none _ :: r => chkE N T n sc a x && chkFs N T n sc as r
    | .cons false a as, x :: r => chkE N T n sc a x && chkFs N T n sc as r
    | _, _ => false
def chkO (N : List Str) (T : Tb) : Nat → Scope → Eo → Option Expr → Bool
  | 0, _, _, _ => false
  | n + 1, sc, o, x => match o, x with
    | .none, none => true
    | .some a, some x => chkE N T n sc a x
    | _, _ => false
def chkTo (N : List Str) (T : Tb) : Nat → Scope → To → List Expr → Bool
  | 0, _, _, _ => false
  | n + 1, sc, o, xs => match o, xs with
    | .none, [] => true
    | .some t, [x] => chkT N T n sc t x
    | _, _ => false
def chkIt (N : List Str) (T : Tb) : Nat → Scope → Ev.It → Expr → Bool
  | 0, _, _, _ => false
  | n + 1, sc, it, x => match it, x with
    | .rng a, .Call (.Name y _) [l] [] _ => glOk sc y && decide (y = ("range" : Str)) && noStar l && chkE N T n sc a l
    | .seq a, x => chkE N T n sc a x
    | _, _ => false
end
end Ev

set_option maxRecDepth 100000
set_option maxHeartbeats 2000000
namespace Ev
open PySem PySem.Spec PyProof.Rows L2
section
variable {W : Wd} {X : Cx} {n : Nat} {C : Cl} {Wx : WX} {H0 : En} {N : List Str} {sc : Scope}
theorem and2 {a b : Bool} (h : (a && b) = true) : a = true ∧ b = true := by rwa [Bool.and_eq_true] at h
theorem nm_ok {i : Nat} {y : Str} (hN : X.N = N) (hsc : X.env.scope = sc) (h : nmOk N sc i y = true) : X.N[i]? = some y ∧ Vis X.env.scope y ∧ (y == ("__debug__" : Str)) = false ∧ (y == ("__classdict__" : Str)) = false := by
  unfold nmOk at h
  obtain ⟨h, h4⟩ := and2 h
  obtain ⟨h, h3⟩ := and2 h
  obtain ⟨h1, h2⟩ := and2 h
  refine ⟨by rw [hN]; exact of_decide_eq_true h1, ?_, by simpa using h3, by simpa using h4⟩
  rw [hsc]
  unfold Vis
  cases q : sc.names.lookup y with
  | none => rw [q] at h2; cases h2
  | some k => rw [q] at h2; cases k <;> first | exact .inl rfl | exact .inr (.inl rfl) | exact .inr (.inr rfl) | cases h2
theorem st_ok {fl : Bool} {i : Nat} {y : Str} (hN : X.N = N) (hsc : X.env.scope = sc) (hf : fl = true → ∀ x, X.fn x = true) (h : stOk N sc fl i y = true) : X.N[i]? = some y ∧ L2.Loc X.env.scope y ∧ (X.fn y = true ∨ X.env.scope.names.lookup y = some .local) := by
  unfold stOk at h
  obtain ⟨h1, h2⟩ := and2 h
  refine ⟨by rw [hN]; exact of_decide_eq_true h1, ?_⟩
  rw [hsc]
  unfold L2.Loc
  cases q : sc.names.lookup y with
  | none => rw [q] at h2; cases h2
  | some k =>
    rw [q] at h2
    cases k with
    | «local» => exact ⟨.inl rfl, .inr rfl⟩
    | cell => exact ⟨.inr rfl, .inl (hf h2 y)⟩
    | _ => cases h2
theorem gl_ok {y : Str} (hsc : X.env.scope = sc) (h : glOk sc y = true) : Gl X y ∧ (y == ("__debug__" : Str)) = false := by
  unfold glOk at h
  obtain ⟨h1, h2⟩ := and2 h
  refine ⟨?_, by simpa using h2⟩
  show X.env.scope.names.lookup y = some .globalImplicit
  rw [hsc]
  cases q : sc.names.lookup y with
  | none => rw [q] at h1; cases h1
  | some k => rw [q] at h1; cases k <;> first | rfl | cases h1
theorem kd_ok {k : Kd} {x : Expr} (hsc : X.env.scope = sc) (h : kdCk W.T sc k x = true) : KdName X W.T k x := by
  unfold kdCk at h
  split at h
  · rename_i y p
    obtain ⟨h1, h2⟩ := and2 h
    obtain ⟨g1, g2⟩ := gl_ok hsc h1
    refine ⟨g1, g2, ?_⟩
    cases k <;> exact of_decide_eq_true h2
  · cases h
theorem foldB {x : Expr} {env : Env} (h : notSet x = true) : ∀ v, foldedSetIterable x env v = pure v := by
  intro v
  cases x <;> first | rfl | cases h
def tgsLen : Tgs → Nat
  | .nil => 0
  | .cons _ ts => tgsLen ts + 1
theorem bindTs_len : ∀ {ts : Tgs} {ds : List D} {σd σd' : Sg}, bindTs ts ds σd = some σd' → ds.length = tgsLen ts
  | .nil, [], _, _, _ => rfl
  | .nil, _ :: _, _, _, h => by cases h
  | .cons t ts, [], _, _, h => by cases h
  | .cons t ts, d :: ds, σd, σd', h => by
    have h : (bindT t d σd).bind (fun σ' => bindTs ts ds σ') = some σd' := h
    cases q : bindT t d σd with
    | none => rw [q] at h; cases h
    | some σ1 => rw [q] at h; show ds.length + 1 = tgsLen ts + 1; rw [bindTs_len h]
theorem chkTgs_len {fl : Bool} : ∀ {k : Nat} {ts : Tgs} {es : List Expr}, chkTgs N sc fl k ts es = true → es.length = tgsLen ts
  | 0, _, _, h => by cases h
  | k + 1, .nil, [], _ => rfl
  | k + 1, .nil, _ :: _, h => by cases h
  | k + 1, .cons t ts, [], h => by cases h
  | k + 1, .cons t ts, x :: xs, h => by
    have h : (chkTg N sc fl k t x && chkTgs N sc fl k ts xs) = true := h
    show xs.length + 1 = tgsLen ts + 1
    rw [chkTgs_len (and2 h).2]
theorem chk_tg {fl : Bool} (h : Hyp W X n C Wx) (hN : X.N = N) (hsc : X.env.scope = sc) (hf : fl = true → ∀ x, X.fn x = true) : ∀ (k : Nat), (∀ t x, chkTg N sc fl k t x = true → PG X x (rG W H0 t)) ∧ (∀ ts es, es.all noStar = true → chkTgs N sc fl k ts es = true → PGs X es (rGs W H0 ts)) := by
  intro k
  induction k with
  | zero => exact ⟨fun _ _ h => (nomatch h), fun _ _ _ h => (nomatch h)⟩
  | succ k ih =>
    refine ⟨fun t x hc => ?_, fun ts es hs hc => ?_⟩
    · cases t with
      | name i =>
        cases x with
        | Name y p => obtain ⟨h1, h2, h3⟩ := st_ok hN hsc hf hc; exact snd_gname h h1 h2 h3
        | _ => cases hc
      | tup ts =>
        cases x with
        | Tuple es kk p =>
          have hc : (es.all noStar && chkTgs N sc fl k ts es) = true := hc
          obtain ⟨h1, h2⟩ := and2 hc
          exact snd_gtup h h1 (ih.2 ts es h1 h2) fun ds σd σd' hb => by rw [bindTs_len hb, chkTgs_len h2]
        | _ => cases hc
    · cases ts with
      | nil => cases es with
        | nil => exact snd_gnil
        | cons _ _ => cases hc
      | cons t ts => cases es with
        | nil => cases hc
        | cons x xs =>
          have hc : (chkTg N sc fl k t x && chkTgs N sc fl k ts xs) = true := hc
          obtain ⟨h1, h2⟩ := and2 hc
          rw [List.all_cons] at hs
          obtain ⟨s1, s2⟩ := and2 hs
          exact snd_gcons s1 (ih.1 t x h1) (ih.2 ts xs s2 h2)
end
end Ev

set_option maxRecDepth 100000
set_option maxHeartbeats 4000000
namespace Ev
open PySem PySem.Spec PyProof.Rows L2
structure CkAll (W : Wd) (N : List Str) (k : Nat) : Prop where
  E : ∀ (X : Cx) (n : Nat) (C : Cl) (Wx : WX) (H0 : En) (sc : Scope) (a : E) (x : Expr), Hyp W X n C Wx → Pn W X C H0 → X.N = N → X.env.scope = sc → chkE N W.T k sc a x = true → PE X x (rE W C Wx H0 a)
  B : ∀ (X : Cx) (n : Nat) (C : Cl) (Wx : WX) (H0 : En) (sc : Scope) (b : Bool) (a : Ev.E) (xs : List Expr) (p : Pos), Hyp W X n C Wx → Pn W X C H0 → X.N = N → X.env.scope = sc → chkB N W.T k sc b a xs = true → PE X (.BoolOp (if b then .And else .Or) xs p) (rE W C Wx H0 a)
  T : ∀ (X : Cx) (n : Nat) (C : Cl) (Wx : WX) (H0 : En) (sc : Scope) (a : Ev.T) (x : Expr), Hyp W X n C Wx → Pn W X C H0 → X.N = N → X.env.scope = sc → chkT N W.T k sc a x = true → PT X x (rT W C Wx H0 a)
  TB : ∀ (X : Cx) (n : Nat) (C : Cl) (Wx : WX) (H0 : En) (sc : Scope) (b : Bool) (a : Ev.T) (xs : List Expr) (p : Pos), Hyp W X n C Wx → Pn W X C H0 → X.N = N → X.env.scope = sc → chkTB N W.T k sc b a xs = true → PW X (.BoolOp (if b then .And else .Or) xs p) (rT W C Wx H0 a)
  Es : ∀ (X : Cx) (n : Nat) (C : Cl) (Wx : WX) (H0 : En) (sc : Scope) (as : Es) (xs : List Expr), Hyp W X n C Wx → Pn W X C H0 → X.N = N → X.env.scope = sc → chkEs N W.T k sc as xs = true → PA X xs (rA W C Wx H0 as)
  Fs : ∀ (X : Cx) (n : Nat) (C : Cl) (Wx : WX) (H0 : En) (sc : Scope) (as : Ev.Es) (xs : List Expr), Hyp W X n C Wx → Pn W X C H0 → X.N = N → X.env.scope = sc → chkFs N W.T k sc as xs = true → PJ X xs (tFs W C Wx H0 as)
  O : ∀ (X : Cx) (n : Nat) (C : Cl) (Wx : WX) (H0 : En) (sc : Scope) (o : Eo) (x : Option Expr), Hyp W X n C Wx → Pn W X C H0 → X.N = N → X.env.scope = sc → chkO N W.T k sc o x = true → PO X x (rO W C Wx H0 o)
  To : ∀ (X : Cx) (n : Nat) (C : Cl) (Wx : WX) (H0 : En) (sc : Scope) (o : To) (xs : List Expr), Hyp W X n C Wx → Pn W X C H0 → X.N = N → X.env.scope = sc → chkTo N W.T k sc o xs = true → PTs X xs (rTo W C Wx H0 o)
  I : ∀ (X : Cx) (n : Nat) (C : Cl) (Wx : WX) (H0 : En) (sc : Scope) (brw : Bool) (tg : Expr) (it : Ev.It) (x : Expr), Hyp W X n C Wx → Pn W X C H0 → X.N = N → X.env.scope = sc → chkIt N W.T k sc it x = true → EvW.PIW X tg x (rI W C Wx H0 brw it)
theorem chkEs_nil {N : List Str} {T : Tb} {sc : Scope} : ∀ {k : Nat} {as : Es} {es : List Expr}, chkEs N T k sc as es = true → es = [] → as = .nil
  | 0, _, _, h, _ => by cases h
  | k + 1, .nil, _, _, _ => rfl
  | k + 1, .cons true _ _, [], h, _ => by cases h
  | k + 1, .cons false _ _, [], h, _ => by cases h
  | k + 1, .cons _ _ _, _ :: _, _, z => by cases z
theorem chk_var {N : List Str} {T : Tb} {sc : Scope} {k i : Nat} {x : Expr} (h : chkE N T k sc (.var i) x = true) : ∃ y p, x = .Name y p ∧ nmOk N sc i y = true := by
  cases k with
  | zero => cases h
  | succ k => cases x with
    | Name y p => exact ⟨y, p, rfl, h⟩
    | _ => cases h
theorem Pn.blk {W : Wd} {X : Cx} {C : Cl} {H0 : En} (p : Pn W X C H0) (s0 : Shared) (H2 : Hp) (scope : Scope) (env : Env) (fp : List Addr) : Pn W (EvW.blkW X s0 H2 scope env fp) C H0 := ⟨p.cold, p.pin⟩
theorem isVar_eq {a : E} {i : Nat} (h : a.isVar = some i) : a = .var i := by cases a <;> cases h; rfl
section
variable {W : Wd} {N : List Str}
theorem ck_E {k : Nat} (ih : CkAll W N k) (X : Cx) (n : Nat) (C : Cl) (Wx : WX) (H0 : En) (sc : Scope) (a : E) (x : Expr) (h : Hyp W X n C Wx) (pn : Pn W X C H0) (hN : X.N = N) (hsc : X.env.scope = sc) (hc : chkE N W.T (k + 1) sc a x = true) : PE X x (rE W C Wx H0 a) := by
  have ie := fun a x (z : chkE N W.T k sc a x = true) => ih.E X n C Wx H0 sc a x h pn hN hsc z
  have ies := fun a x (z : chkEs N W.T k sc a x = true) => ih.Es X n C Wx H0 sc a x h pn hN hsc z
  unfold chkE at hc
  split at hc
  · obtain ⟨h1, h2, h3, h4⟩ := nm_ok hN hsc hc; exact snd_var h1 h2 h3 h4
  · cases of_decide_eq_true hc; exact snd_int
  · cases of_decide_eq_true hc; exact snd_bl
  · exact snd_non
  · cases of_decide_eq_true hc; exact snd_str
  · exact snd_neg h (ie _ _ hc)
  · exact snd_not h (ie _ _ hc)
  · obtain ⟨hc, h3⟩ := and2 hc
    obtain ⟨h1, h2⟩ := and2 hc
    cases of_decide_eq_true h1
    exact snd_bin h _ (ie _ _ h2) (ie _ _ h3)
  · obtain ⟨hc, h4⟩ := and2 hc
    obtain ⟨hc, h3⟩ := and2 hc
    obtain ⟨h1, h2⟩ := and2 hc
    cases of_decide_eq_true h1
    exact snd_cmp h _ (ie _ _ h3) (ie _ _ h4) (by simpa using h2)
  · obtain ⟨hc, h6⟩ := and2 hc
    obtain ⟨hc, h5⟩ := and2 hc
    obtain ⟨hc, h4⟩ := and2 hc
    obtain ⟨hc, h3⟩ := and2 hc
    obtain ⟨h1, h2⟩ := and2 hc
    cases of_decide_eq_true h1
    cases of_decide_eq_true h2
    exact snd_chain h _ _ (ie _ _ h4) (ie _ _ h5) (ie _ _ h6) (by simpa using h3)
  · obtain ⟨h1, h2⟩ := and2 hc
    exact snd_and h (ie _ _ h1) (ih.B X n C Wx H0 sc true _ _ _ h pn hN hsc h2)
  · obtain ⟨h1, h2⟩ := and2 hc
    exact snd_or h (ie _ _ h1) (ih.B X n C Wx H0 sc false _ _ _ h pn hN hsc h2)
  · obtain ⟨hc, h3⟩ := and2 hc
    obtain ⟨h1, h2⟩ := and2 hc
    exact snd_ite (ih.T X n C Wx H0 sc _ _ h pn hN hsc h1) (ie _ _ h2) (ie _ _ h3)
  · exact snd_tup (ies _ _ hc)
  · exact snd_lst (ies _ _ hc)
  · exact snd_cell (ies _ _ hc)
  · obtain ⟨hc, h3⟩ := and2 hc
    obtain ⟨h1, h2⟩ := and2 hc
    refine snd_attr h pn (of_decide_eq_true h1) h2 (ie _ _ h3) fun i hi => ?_
    cases isVar_eq hi
    obtain ⟨y, p, rfl, hy⟩ := chk_var h3
    obtain ⟨g1, g2, g3, g4⟩ := nm_ok hN hsc hy
    exact ⟨y, p, rfl, g1, g2, g3, g4⟩
  · obtain ⟨hc, h3⟩ := and2 hc
    obtain ⟨h1, h2⟩ := and2 hc
    exact snd_idx h (ie _ _ h2) (ie _ _ h3) h1
  · obtain ⟨hc, h3⟩ := and2 hc
    obtain ⟨h1, h2⟩ := and2 hc
    exact snd_sl h (ie _ _ h1) (ih.O X n C Wx H0 sc _ _ h pn hN hsc h2) (ih.O X n C Wx H0 sc _ _ h pn hN hsc h3)
  · obtain ⟨hc, h4⟩ := and2 hc
    obtain ⟨hc, h3⟩ := and2 hc
    obtain ⟨h1, h2⟩ := and2 hc
    obtain ⟨g1, g2⟩ := gl_ok hsc h1
    exact snd_call h g1 (of_decide_eq_true h2) g2 h3 (chkEs_nil h4) (ies _ _ h4)
  · obtain ⟨hc, h4⟩ := and2 hc
    obtain ⟨hc, h3⟩ := and2 hc
    obtain ⟨h1, h2⟩ := and2 hc
    obtain ⟨g1, g2⟩ := gl_ok hsc h1
    exact snd_make h g1 (of_decide_eq_true h2) g2 h3 (chkEs_nil h4) (ies _ _ h4)
  · obtain ⟨hc, h7⟩ := and2 hc
    obtain ⟨hc, h6⟩ := and2 hc
    obtain ⟨hc, h5⟩ := and2 hc
    obtain ⟨hc, h4⟩ := and2 hc
    obtain ⟨hc, h3⟩ := and2 hc
    obtain ⟨h1, h2⟩ := and2 hc
    exact snd_meth h (of_decide_eq_true h1) h2 h3 h4 (ie _ _ h6) h5 (chkEs_nil h7) (ies _ _ h7)
  · obtain ⟨hc, h4⟩ := and2 hc
    obtain ⟨hc, h3⟩ := and2 hc
    obtain ⟨h1, h2⟩ := and2 hc
    obtain ⟨g1, g2⟩ := gl_ok hsc h1
    exact snd_blt h _ (of_decide_eq_true h2) g1 h3 (ies _ _ h4)
  · obtain ⟨hc, h6⟩ := and2 hc
    obtain ⟨hc, h5⟩ := and2 hc
    obtain ⟨hc, h4⟩ := and2 hc
    obtain ⟨hc, h3⟩ := and2 hc
    obtain ⟨h1, h2⟩ := and2 hc
    cases of_decide_eq_true h1
    exact snd_count h h2 h3 h4 (ie _ _ h5) (ie _ _ h6)
  · obtain ⟨hc, h5⟩ := and2 hc
    obtain ⟨hc, h4⟩ := and2 hc
    obtain ⟨hc, h3⟩ := and2 hc
    obtain ⟨h1, h2⟩ := and2 hc
    obtain ⟨g1, g2⟩ := gl_ok hsc h1
    refine snd_isin h pn (of_decide_eq_true h2) g1 (kd_ok hsc h4) h3 (ie _ _ h5) fun i hi => ?_
    cases isVar_eq hi
    obtain ⟨y, p, rfl, hy⟩ := chk_var h5
    obtain ⟨g1, g2, g3, g4⟩ := nm_ok hN hsc hy
    exact ⟨y, p, rfl, g1, g2, g3, g4⟩
  · obtain ⟨h1, h2⟩ := and2 hc
    exact snd_fstr h1 (ih.Fs X n C Wx H0 sc _ _ h pn hN hsc h2)
  · rename_i ca ct cit cc cvs celt ctg citer cifs cscope cpos
    obtain ⟨hc, h7⟩ := and2 hc
    obtain ⟨hc, h6⟩ := and2 hc
    obtain ⟨hc, h5⟩ := and2 hc
    obtain ⟨hc, h4⟩ := and2 hc
    obtain ⟨hc, h3⟩ := and2 hc
    obtain ⟨h1, h2⟩ := and2 hc
    have bo : BlkOk X.N X.env.scope cscope (cvs.map fun v => (N.getD v "", v)) := by rw [hN, hsc]; exact blkOk_by h3
    refine snd_comp h (ih.I X n C Wx H0 sc true _ _ _ h pn hN hsc h1) bo (by simp [Function.comp_def]) h4 (fun s2 H2 C2 cl fp => ?_) (fun s2 H2 C2 cl fp => ?_) (fun s2 H2 C2 cl fp => ?_) (foldB h2)
    · exact (chk_tg (fl := false) (sc := relS cscope sc) (h.blk s2 H2 cscope _ fp) hN (by rw [← hsc]; rfl) (fun z => nomatch z) k).1 _ _ h5
    · exact ih.To _ n C Wf H0 (relS cscope sc) _ _ (h.blk s2 H2 cscope _ fp) (pn.blk s2 H2 cscope _ fp) hN (by rw [← hsc]; rfl) h6
    · exact ih.E _ n C Wf H0 (relS cscope sc) _ _ (h.blk s2 H2 cscope _ fp) (pn.blk s2 H2 cscope _ fp) hN (by rw [← hsc]; rfl) h7
  · cases hc
theorem ck_B {k : Nat} (ih : CkAll W N k) (X : Cx) (n : Nat) (C : Cl) (Wx : WX) (H0 : En) (sc : Scope) (b : Bool) (a : Ev.E) (xs : List Expr) (p : Pos) (h : Hyp W X n C Wx) (pn : Pn W X C H0) (hN : X.N = N) (hsc : X.env.scope = sc) (hc : chkB N W.T (k + 1) sc b a xs = true) : PE X (.BoolOp (if b then .And else .Or) xs p) (rE W C Wx H0 a) := by
  match xs, hc with
  | [], hc => cases hc
  | [y], hc => exact snd_one (ih.E X n C Wx H0 sc a y h pn hN hsc hc)
  | y :: z :: r, hc =>
    cases a with
    | bop k' a b' =>
      have hc : ((k' == b) && chkE N W.T k sc a y && chkB N W.T k sc b b' (z :: r)) = true := hc
      obtain ⟨hc, h3⟩ := and2 hc
      obtain ⟨h1, h2⟩ := and2 hc
      cases beq_iff_eq.mp h1
      have i1 := ih.E X n C Wx H0 sc a y h pn hN hsc h2
      have i2 := ih.B X n C Wx H0 sc b b' (z :: r) p h pn hN hsc h3
      cases b with
      | true => exact snd_and h i1 i2
      | false => exact snd_or h i1 i2
    | _ => cases hc
theorem ck_T {k : Nat} (ih : CkAll W N k) (X : Cx) (n : Nat) (C : Cl) (Wx : WX) (H0 : En) (sc : Scope) (a : Ev.T) (x : Expr) (h : Hyp W X n C Wx) (pn : Pn W X C H0) (hN : X.N = N) (hsc : X.env.scope = sc) (hc : chkT N W.T (k + 1) sc a x = true) : PT X x (rT W C Wx H0 a) := by
  have ie := fun a x (z : chkE N W.T k sc a x = true) => ih.E X n C Wx H0 sc a x h pn hN hsc z
  unfold chkT at hc
  split at hc
  · exact sndT_not (ih.T X n C Wx H0 sc _ _ h pn hN hsc hc)
  · obtain ⟨h1, h2⟩ := and2 hc
    exact (sndW_and (ih.T X n C Wx H0 sc _ _ h pn hN hsc h1) (ih.TB X n C Wx H0 sc true _ _ _ h pn hN hsc h2)).pt
  · obtain ⟨h1, h2⟩ := and2 hc
    exact (sndW_or (ih.T X n C Wx H0 sc _ _ h pn hN hsc h1) (ih.TB X n C Wx H0 sc false _ _ _ h pn hN hsc h2)).pt
  · obtain ⟨hc, h4⟩ := and2 hc
    obtain ⟨hc, h3⟩ := and2 hc
    obtain ⟨h1, h2⟩ := and2 hc
    cases of_decide_eq_true h1
    exact sndT_cmp h _ (ie _ _ h3) (ie _ _ h4) (by simpa using h2)
  · exact sndT_val h (ie _ _ hc) fun _ => rfl
  · exact sndT_val h (ie _ _ hc) fun _ => rfl
  · exact sndT_val h (ie _ _ hc) fun _ => rfl
  · exact sndT_val h (ie _ _ hc) fun _ => rfl
  · exact sndT_val h (ie _ _ hc) fun _ => rfl
  · exact sndT_val h (ie _ _ hc) fun _ => rfl
  · exact sndT_val h (ie _ _ hc) fun _ => rfl
  · cases hc
theorem ck_TB {k : Nat} (ih : CkAll W N k) (X : Cx) (n : Nat) (C : Cl) (Wx : WX) (H0 : En) (sc : Scope) (b : Bool) (a : Ev.T) (xs : List Expr) (p : Pos) (h : Hyp W X n C Wx) (pn : Pn W X C H0) (hN : X.N = N) (hsc : X.env.scope = sc) (hc : chkTB N W.T (k + 1) sc b a xs = true) : PW X (.BoolOp (if b then .And else .Or) xs p) (rT W C Wx H0 a) := by
  match xs, hc with
  | [], hc => cases hc
  | [y], hc => exact sndW_one (ih.T X n C Wx H0 sc a y h pn hN hsc hc)
  | y :: z :: r, hc =>
    cases a with
    | bop k' a b' =>
      have hc : ((k' == b) && chkT N W.T k sc a y && chkTB N W.T k sc b b' (z :: r)) = true := hc
      obtain ⟨hc, h3⟩ := and2 hc
      obtain ⟨h1, h2⟩ := and2 hc
      cases beq_iff_eq.mp h1
      have i1 := ih.T X n C Wx H0 sc a y h pn hN hsc h2
      have i2 := ih.TB X n C Wx H0 sc b b' (z :: r) p h pn hN hsc h3
      cases b with
      | true => exact sndW_and i1 i2
      | false => exact sndW_or i1 i2
    | _ => cases hc
theorem ck_all : ∀ k, CkAll W N k := by
  intro k
  induction k with
  | zero => exact ⟨by intros; contradiction, by intros; contradiction, by intros; contradiction, by intros; contradiction, by intros; contradiction, by intros; contradiction, by intros; contradiction, by intros; contradiction, by intros; contradiction⟩
  | succ k ih =>
    refine ⟨ck_E ih, ck_B ih, ck_T ih, ck_TB ih, fun X n C Wx H0 sc as xs h pn hN hsc hc => ?_, fun X n C Wx H0 sc as xs h pn hN hsc hc => ?_, fun X n C Wx H0 sc o x h pn hN hsc hc => ?_, fun X n C Wx H0 sc o xs h pn hN hsc hc => ?_, fun X n C Wx H0 sc brw tg it x h pn hN hsc hc => ?_⟩
    · unfold chkEs at hc
      split at hc
      · exact snd_nil
      · obtain ⟨h1, h2⟩ := and2 hc
        exact snd_star h (ih.E X n C Wx H0 sc _ _ h pn hN hsc h1) (ih.Es X n C Wx H0 sc _ _ h pn hN hsc h2)
      · obtain ⟨hc, h3⟩ := and2 hc
        obtain ⟨h1, h2⟩ := and2 hc
        exact snd_cons h1 (ih.E X n C Wx H0 sc _ _ h pn hN hsc h2) (ih.Es X n C Wx H0 sc _ _ h pn hN hsc h3)
      · cases hc
    · unfold chkFs at hc
      split at hc
      · exact .nil
      · obtain ⟨h1, h2⟩ := and2 hc
        exact .cons (pe_fmt (ih.E X n C Wx H0 sc _ _ h pn hN hsc h1)) (ih.Fs X n C Wx H0 sc _ _ h pn hN hsc h2)
      · obtain ⟨h1, h2⟩ := and2 hc
        exact .cons (ih.E X n C Wx H0 sc _ _ h pn hN hsc h1) (ih.Fs X n C Wx H0 sc _ _ h pn hN hsc h2)
      · cases hc
    · unfold chkO at hc
      split at hc
      · exact snd_onone
      · exact snd_osome (ih.E X n C Wx H0 sc _ _ h pn hN hsc hc)
      · cases hc
    · unfold chkTo at hc
      split at hc
      · exact snd_tnone
      · exact snd_tsome (ih.T X n C Wx H0 sc _ _ h pn hN hsc hc)
      · cases hc
    · unfold chkIt at hc
      split at hc
      · obtain ⟨hc, h4⟩ := and2 hc
        obtain ⟨hc, h3⟩ := and2 hc
        obtain ⟨h1, h2⟩ := and2 hc
        obtain ⟨g1, g2⟩ := gl_ok hsc h1
        exact snd_rng h (of_decide_eq_true h2) g1 h3 (ih.E X n C Wx H0 sc _ _ h pn hN hsc h4)
      · exact snd_sq h (ih.E X n C Wx H0 sc _ _ h pn hN hsc hc)
      · cases hc
end
end Ev

set_option maxRecDepth 100000
set_option maxHeartbeats 4000000
namespace Ev
open PySem PySem.Spec PyProof.Rows L2
def isStar : Expr → Bool
  | .Starred _ _ => true
  | _ => false
theorem sw_par {x y : Str} {px py pt pt2 : Pos} {kt k2 : Nat} {u v : Expr} {env : Env} (hk : env.scope.kind = .function) (hx : env.scope.names.lookup x = some .local) (hy : env.scope.names.lookup y = some .local) (hl : (py.line == px.line) = true) (hne : x ≠ y)
    (hu : noStar u = true) (hv : noStar v = true) (hf : [u, v].all (foldedForSure 8) = false) (hc : [u, v].all (constantsAlone 8) = false) :
    swappedStores [.Tuple [.Name x px, .Name y py] kt pt] (.Tuple [u, v] k2 pt2) env = pure (some [x, y]) := by
  have hs : ([u, v].any fun | .Starred .. => true | _ => false) = false := by
    have st : ∀ z : Expr, noStar z = true → isStar z = false := fun z hz => by cases z <;> first | rfl | exact absurd hz (by simp [noStar])
    show (isStar u || (isStar v || false)) = false
    rw [st u hu, st v hv]; rfl
  have hb : env.blockKind = .function := by unfold Env.blockKind; rw [hk]; rfl
  have h1 : env.kindOf x = some .local := hx
  have h2 : env.kindOf y = some .local := hy
  have hl' : py.line = px.line := by simpa using hl
  have he : ([x, y] : List Str).eraseDups = [x, y] := by
    simp [List.eraseDups_cons, hne, Ne.symm hne]
  unfold swappedStores
  dsimp only
  rw [hb, if_neg (by simp)]
  refine Eq.trans (if_neg (fun z => Bool.false_ne_true (hs.symm.trans z))) ?_
  simp only [List.filterMap_cons, List.filterMap_nil, h1, h2, List.head?_cons, Option.map_some, Option.getD_some, Expr.pos, hl', hf, hc]
  simp [he]
def swB (tg x : Expr) : Bool := notComp x || (match tg with | .Name _ _ => false | _ => true)
def swpB (tg x : Expr) : Bool := match tg, x with
  | .Tuple _ _ _, .Tuple _ _ _ => false
  | .List _ _, .Tuple _ _ _ => false
  | _, _ => true
theorem sw_ok {tg x : Expr} {l : Nat} {env : Env} (h : swB tg x = true) : swapsWithSole [tg] x l env = pure false := by
  unfold swB at h
  cases x <;> first | rfl | (cases tg <;> first | rfl | cases h)
theorem swp_ok {tg x : Expr} {env : Env} (h : swpB tg x = true) : swappedStores [tg] x env = pure none := by
  cases tg <;> first | rfl | (cases x <;> first | rfl | cases h)
def chkLc (N : List Str) (T : Tb) (n : Nat) (sc : Scope) (a : E) (t : Tg) (it : Ev.It) (cond : To) (vs : List Nat) (elt tg iter : Expr) (ifs : List Expr) (scope : Scope) : Bool :=
  chkIt N T n sc it iter && notSet iter && blkB N sc scope vs && tgIn vs t && chkTg N (relS scope sc) false n t tg && chkTo N T n (relS scope sc) cond ifs && chkE N T n (relS scope sc) a elt
def chkNm (N : List Str) (sc scope : Scope) (i : Nat) (y : Str) (py pos : Pos) : Bool :=
  decide (N[i]? = some y) && decide (sc.names.lookup y = some .local) && decide (sc.kind = .function) && (py.line == pos.line) && !(scope.names.any fun (n, k) => n == y && (k == .local || k == .cell))
def excN (T : Tb) (c : Nat) (y : Str) : Bool := match T.cls[c]? with
  | some i => i.isexc && decide (i.name = y) && !i.flds.isEmpty
  | none => false
theorem excN_ok {T : Tb} {c : Nat} {y : Str} (h : excN T c y = true) : ∃ i, T.cls[c]? = some i ∧ i.isexc = true ∧ i.name = y ∧ i.flds ≠ [] := by
  unfold excN at h
  split at h
  · rename_i i hi
    obtain ⟨h, h3⟩ := and2 h
    obtain ⟨h1, h2⟩ := and2 h
    exact ⟨i, hi, h1, of_decide_eq_true h2, fun z => by rw [z] at h3; cases h3⟩
  · cases h
mutual
def chkS (N : List Str) (T : Tb) : Nat → Scope → S → Stmt → Bool
  | 0, _, _, _ => false
  | n + 1, sc, a, x => match a, x with
    | .par (.cons (.name i) (.cons (.name j) .nil)) ys, .Assign [.Tuple [.Name x px, .Name y py] kt pt] (.Tuple [u, v] k2 pt2) pos =>
      decide (N[i]? = some x) && decide (N[j]? = some y) && decide (i ≠ j) && decide (x ≠ y) && decide (sc.names.lookup x = some .local) && decide (sc.names.lookup y = some .local) && decide (sc.kind = .function) && (py.line == px.line) &&
        noStar u && noStar v && !([u, v].all (foldedForSure 8)) && !([u, v].all (constantsAlone 8)) && chkEs N T n sc ys [u, v]
    | .setf (.var i) k e, .Assign [.Attribute (.Name y px) f pos'] z pos => decide (an T k = f) && nmOk N sc i y && notComp z && chkE N T n sc e z
    | .seti a b e, .Assign [.Subscript u v sp] z pos => notSl v && chkE N T n sc e z && chkE N T n sc a u && chkE N T n sc b v
    | .asg (.name i) (.comp a t it cond vs), .Assign [.Name y py] (.ListComp elt [⟨tg, iter, ifs, 0⟩] scope pos) spos => chkNm N sc scope i y py pos && chkLc N T n sc a t it cond vs elt tg iter ifs scope
    | .ownc i (.comp a t it cond vs), .Assign [.Name y py] (.ListComp elt [⟨tg, iter, ifs, 0⟩] scope pos) spos => chkNm N sc scope i y py pos && chkLc N T n sc a t it cond vs elt tg iter ifs scope
    | .own i ys, .Assign [.Name y py] (.List es lpos) pos => decide (N[i]? = some y) && decide (sc.names.lookup y = some .local) && chkEs N T n sc ys es
    | .app i e, .Expr (.Call (.Attribute (.Name y py) m apos) [z] [] cpos) pos => decide (m = ("append" : Str)) && nmOk N sc i y && (apos.endLine == cpos.line) && noStar z && chkE N T n sc e z
    | .ext i (.comp a t it cond vs), .Expr (.Call (.Attribute (.Name y py) m apos) [.ListComp elt [⟨tg, iter, ifs, 0⟩] scope lpos] [] cpos) pos => decide (m = ("extend" : Str)) && nmOk N sc i y && (apos.endLine == cpos.line) && chkLc N T n sc a t it cond vs elt tg iter ifs scope
    | .asg t e, .Assign [tg] z pos => noStar tg && swB tg z && swpB tg z && chkTg N sc true n t tg && chkE N T n sc e z
    | .ret e, .Return (some z) _ => chkE N T n sc e z
    | .retn, .Return none _ => true
    | .exp e, .Expr z _ => notComp z && chkE N T n sc e z
    | .ite t us vs, .If c u v _ => chkT N T n sc t c && chkSs N T n sc us u && chkSs N T n sc vs v
    | .for_ t it bs, .For tg iter body [] _ => notSet iter && chkIt N T n sc it iter && chkTg N sc true n t tg && chkSs N T n sc bs body
    | .while_ t bs, .While c body [] _ => chkT N T n sc t c && chkSs N T n sc bs body
    | .brk, .Break _ => true
    | .pass, .Pass _ => true
    | .raise c ys, .Raise (some (.Call (.Name y _) [z] [] _)) none _ => glOk sc y && excN T c y && noStar z && chkEs N T n sc ys [z]
    | .try_ b hs, .Try body (h :: hds) [] [] _ => chkSs N T n sc b body && chkHs N T n sc hs (h :: hds)
    | .sup _ _, _ => true
    | _, _ => false
def chkSs (N : List Str) (T : Tb) : Nat → Scope → Ss → List Stmt → Bool
  | 0, _, _, _ => false
  | n + 1, sc, as, xs => match as, xs with
    | .nil, [] => true
    | .cons (.frz _) as, xs => chkSs N T n sc as xs
    | .cons a as, x :: xs => chkS N T n sc a x && chkSs N T n sc as xs
    | _, _ => false
def chkHs (N : List Str) (T : Tb) : Nat → Scope → Hs → List ExceptHandler → Bool
  | 0, _, _, _ => false
  | n + 1, sc, hs, xs => match hs, xs with
    | .nil, [] => true
    | .cons c none b hs, .ExceptHandler (some (.Name x _)) none (z :: zs) _ :: hds => glOk sc x && excN T c x && chkSs N T n sc b (z :: zs) && chkHs N T n sc hs hds
    | .cons c (some i) b hs, .ExceptHandler (some (.Name x _)) (some y) (z :: zs) _ :: hds => glOk sc x && excN T c x && decide (N[i]? = some y) && decide (sc.names.lookup y = some .local) && chkSs N T n sc b (z :: zs) && chkHs N T n sc hs hds
    | _, _ => false
end
structure CkSt (W : Wd) (N : List Str) (k : Nat) : Prop where
  S : ∀ (X : Cx) (n : Nat) (C : Cl) (Wx : WX) (e0 : Em) (H0 : En) (sc : Scope) (a : S) (x : Stmt), Hyp W X n C Wx → Pn W X C H0 → X.N = N → X.env.scope = sc → Fl X → chkS N W.T k sc a x = true → PS X x (rS W C Wx e0 H0 a)
  Ss : ∀ (X : Cx) (n : Nat) (C : Cl) (Wx : WX) (e0 : Em) (H0 : En) (sc : Scope) (a : Ss) (x : List Stmt), Hyp W X n C Wx → Pn W X C H0 → X.N = N → X.env.scope = sc → Fl X → chkSs N W.T k sc a x = true → PSs X x (rSs W C Wx e0 H0 a)
  Hs : ∀ (X : Cx) (n : Nat) (C : Cl) (Wx : WX) (e0 : Em) (H0 : En) (sc : Scope) (hs : Hs) (x : List ExceptHandler), Hyp W X n C Wx → X.N = N → X.env.scope = sc → Fl X → chkHs N W.T k sc hs x = true →
    EvW.HdsX X x (clauses W C e0 H0 hs) ∧ ∀ c', c' ∈ hsCls hs → ∃ i', W.T.cls[c']? = some i' ∧ i'.isexc = true
section
variable {W : Wd} {N : List Str}
theorem not_of {b : Bool} (h : (!b) = true) : b = false := by cases b <;> first | rfl | cases h
theorem att_sw {o : Expr} {f : Str} {p : Pos} {x : Expr} {l : Nat} {env : Env} (h : notComp x = true) : swapsWith x (some (.Attribute o f p)) l env = pure false := by cases x <;> first | rfl | cases h
theorem exp_sw {x : Expr} {l : Nat} {env : Env} (h : notComp x = true) : swapsWith x none l env = pure false := by cases x <;> first | rfl | cases h
theorem lc_hyps {X : Cx} {n : Nat} {C : Cl} {Wx : WX} {H0 : En} {sc scope : Scope} {k : Nat} {a : E} {t : Tg} {it : Ev.It} {cond : To} {vs : List Nat} {elt tg iter : Expr} {ifs : List Expr} (h : Hyp W X n C Wx) (pn : Pn W X C H0) (hN : X.N = N) (hsc : X.env.scope = sc) (hc : chkLc N W.T k sc a t it cond vs elt tg iter ifs scope = true) :
    EvW.PIW X tg iter (rI W C Wx H0 true it) ∧ BlkOk X.N X.env.scope scope (vs.map fun v => (N.getD v "", v)) ∧ tgIn vs t = true ∧
    (∀ (s : Shared) (H : Hp) (C' : Addr) (cl : List (Str × Addr)) (fp : List Addr), PG (EvW.blkW X s H scope (compEnvC scope cl C' X.env) fp) tg (rG W H0 t)) ∧ (∀ (s : Shared) (H : Hp) (C' : Addr) (cl : List (Str × Addr)) (fp : List Addr), PTs (EvW.blkW X s H scope (compEnvC scope cl C' X.env) fp) ifs (rTo W C Wf H0 cond)) ∧
    (∀ (s : Shared) (H : Hp) (C' : Addr) (cl : List (Str × Addr)) (fp : List Addr), PE (EvW.blkW X s H scope (compEnvC scope cl C' X.env) fp) elt (rE W C Wf H0 a)) ∧ ∀ x, foldedSetIterable iter X.env x = pure x := by
  unfold chkLc at hc
  obtain ⟨hc, h7⟩ := and2 hc
  obtain ⟨hc, h6⟩ := and2 hc
  obtain ⟨hc, h5⟩ := and2 hc
  obtain ⟨hc, h4⟩ := and2 hc
  obtain ⟨hc, h3⟩ := and2 hc
  obtain ⟨h1, h2⟩ := and2 hc
  have al := ck_all (W := W) (N := N) k
  refine ⟨al.I X n C Wx H0 sc true _ _ _ h pn hN hsc h1, by rw [hN, hsc]; exact blkOk_by h3, h4, fun s2 H2 C2 cl fp => ?_, fun s2 H2 C2 cl fp => ?_, fun s2 H2 C2 cl fp => ?_, foldB h2⟩
  · exact (chk_tg (fl := false) (sc := relS scope sc) (h.blk s2 H2 scope _ fp) hN (by rw [← hsc]; rfl) (fun z => nomatch z) k).1 _ _ h5
  · exact al.To _ n C Wf H0 (relS scope sc) _ _ (h.blk s2 H2 scope _ fp) (pn.blk s2 H2 scope _ fp) hN (by rw [← hsc]; rfl) h6
  · exact al.E _ n C Wf H0 (relS scope sc) _ _ (h.blk s2 H2 scope _ fp) (pn.blk s2 H2 scope _ fp) hN (by rw [← hsc]; rfl) h7
theorem nm_hyps {X : Cx} {sc scope : Scope} {i : Nat} {y : Str} {py pos : Pos} {elt : Expr} {gs : List Comprehension} {l : Nat} (hN : X.N = N) (hsc : X.env.scope = sc) (hc : chkNm N sc scope i y py pos = true) :
    X.N[i]? = some y ∧ X.env.scope.names.lookup y = some .local ∧ swapsWith (.ListComp elt gs scope pos) (some (.Name y py)) l X.env = pure true := by
  unfold chkNm at hc
  obtain ⟨hc, h5⟩ := and2 hc
  obtain ⟨hc, h4⟩ := and2 hc
  obtain ⟨hc, h3⟩ := and2 hc
  obtain ⟨h1, h2⟩ := and2 hc
  have h2' := of_decide_eq_true h2
  have h3' := of_decide_eq_true h3
  refine ⟨by rw [hN]; exact of_decide_eq_true h1, by rw [hsc]; exact h2', sw_true (by rw [hsc]; exact h3') (by rw [hsc]; exact h2') h4 (not_of h5)⟩
theorem ck_S {k : Nat} (ih : CkSt W N k) (X : Cx) (n : Nat) (C : Cl) (Wx : WX) (e0 : Em) (H0 : En) (sc : Scope) (a : S) (x : Stmt) (h : Hyp W X n C Wx) (pn : Pn W X C H0) (hN : X.N = N) (hsc : X.env.scope = sc) (hf : Fl X) (hc : chkS N W.T (k + 1) sc a x = true) : PS X x (rS W C Wx e0 H0 a) := by
  have ie := fun a x (z : chkE N W.T k sc a x = true) => (ck_all (W := W) (N := N) k).E X n C Wx H0 sc a x h pn hN hsc z
  have it := fun a x (z : chkT N W.T k sc a x = true) => (ck_all (W := W) (N := N) k).T X n C Wx H0 sc a x h pn hN hsc z
  have is := fun a x (z : chkSs N W.T k sc a x = true) => ih.Ss X n C Wx e0 H0 sc a x h pn hN hsc hf z
  unfold chkS at hc
  split at hc
  · obtain ⟨hc, h13⟩ := and2 hc
    obtain ⟨hc, h12⟩ := and2 hc
    obtain ⟨hc, h11⟩ := and2 hc
    obtain ⟨hc, h10⟩ := and2 hc
    obtain ⟨hc, h9⟩ := and2 hc
    obtain ⟨hc, h8⟩ := and2 hc
    obtain ⟨hc, h7⟩ := and2 hc
    obtain ⟨hc, h6⟩ := and2 hc
    obtain ⟨hc, h5⟩ := and2 hc
    obtain ⟨hc, h4⟩ := and2 hc
    obtain ⟨hc, h3⟩ := and2 hc
    obtain ⟨h1, h2⟩ := and2 hc
    subst hsc hN
    exact snd_par h (of_decide_eq_true h1) (of_decide_eq_true h2) (of_decide_eq_true h3) (of_decide_eq_true h5) (of_decide_eq_true h6) ((ck_all (W := W) k).Es X n C Wx H0 _ _ _ h pn rfl rfl h13)
      (sw_par (of_decide_eq_true h7) (of_decide_eq_true h5) (of_decide_eq_true h6) h8 (of_decide_eq_true h4) h9 h10 (not_of h11) (not_of h12))
  · obtain ⟨hc, h4⟩ := and2 hc
    obtain ⟨hc, h3⟩ := and2 hc
    obtain ⟨h1, h2⟩ := and2 hc
    obtain ⟨g1, g2, g3, g4⟩ := nm_ok hN hsc h2
    exact snd_setf h (of_decide_eq_true h1) g1 g2 g3 g4 (ie _ _ h4) (att_sw h3)
  · obtain ⟨hc, h4⟩ := and2 hc
    obtain ⟨hc, h3⟩ := and2 hc
    obtain ⟨h1, h2⟩ := and2 hc
    exact snd_seti h h1 (ie _ _ h2) (ie _ _ h3) (ie _ _ h4)
  · obtain ⟨h1, h2⟩ := and2 hc
    obtain ⟨n1, n2, n3⟩ := nm_hyps hN hsc h1
    obtain ⟨l1, l2, l3, l4, l5, l6, l7⟩ := lc_hyps (C := C) (Wx := Wx) (H0 := H0) h pn hN hsc h2
    exact snd_setLc h false n1 n2 n3 l1 l2 (by simp [Function.comp_def]) l3 l4 l5 l6 l7
  · obtain ⟨h1, h2⟩ := and2 hc
    obtain ⟨n1, n2, n3⟩ := nm_hyps hN hsc h1
    obtain ⟨l1, l2, l3, l4, l5, l6, l7⟩ := lc_hyps (C := C) (Wx := Wx) (H0 := H0) h pn hN hsc h2
    exact snd_setLc h true n1 n2 n3 l1 l2 (by simp [Function.comp_def]) l3 l4 l5 l6 l7
  · obtain ⟨hc, h3⟩ := and2 hc
    obtain ⟨h1, h2⟩ := and2 hc
    have h2' := of_decide_eq_true h2
    exact snd_own h (by rw [hN]; exact of_decide_eq_true h1) (by rw [hsc]; exact h2') ((ck_all (W := W) (N := N) k).Es X n C Wx H0 sc _ _ h pn hN hsc h3)
  · obtain ⟨hc, h5⟩ := and2 hc
    obtain ⟨hc, h4⟩ := and2 hc
    obtain ⟨hc, h3⟩ := and2 hc
    obtain ⟨h1, h2⟩ := and2 hc
    cases of_decide_eq_true h1
    obtain ⟨g1, g2, g3, g4⟩ := nm_ok hN hsc h2
    exact snd_app h g1 g2 g3 g4 h3 h4 (ie _ _ h5)
  · obtain ⟨hc, h4⟩ := and2 hc
    obtain ⟨hc, h3⟩ := and2 hc
    obtain ⟨h1, h2⟩ := and2 hc
    cases of_decide_eq_true h1
    obtain ⟨g1, g2, g3, g4⟩ := nm_ok hN hsc h2
    obtain ⟨l1, l2, l3, l4, l5, l6, l7⟩ := lc_hyps (C := C) (Wx := Wx) (H0 := H0) h pn hN hsc h4
    exact snd_ext h g1 g2 g3 g4 h3 l1 l2 (by simp [Function.comp_def]) l3 l4 l5 l6 l7
  · obtain ⟨hc, h5⟩ := and2 hc
    obtain ⟨hc, h4⟩ := and2 hc
    obtain ⟨hc, h3⟩ := and2 hc
    obtain ⟨h1, h2⟩ := and2 hc
    exact snd_asg h1 (ie _ _ h5) ((chk_tg (fl := true) h hN hsc (fun _ => hf.fn) k).1 _ _ h4) (sw_ok h2) (swp_ok h3)
  · exact snd_ret (ie _ _ hc)
  · exact snd_retn
  · obtain ⟨h1, h2⟩ := and2 hc
    exact snd_exp (ie _ _ h2) (exp_sw h1)
  · obtain ⟨hc, h3⟩ := and2 hc
    obtain ⟨h1, h2⟩ := and2 hc
    exact snd_if (it _ _ h1) (is _ _ h2) (is _ _ h3)
  · obtain ⟨hc, h4⟩ := and2 hc
    obtain ⟨hc, h3⟩ := and2 hc
    obtain ⟨h1, h2⟩ := and2 hc
    exact snd_for h ((ck_all (W := W) (N := N) k).I X n C Wx H0 sc false _ _ _ h pn hN hsc h2) ((chk_tg (fl := true) h hN hsc (fun _ => hf.fn) k).1 _ _ h3) (is _ _ h4) (foldB h1)
  · obtain ⟨h1, h2⟩ := and2 hc
    exact snd_while h (it _ _ h1) (is _ _ h2)
  · exact snd_brk
  · exact snd_pass
  · obtain ⟨hc, h4⟩ := and2 hc
    obtain ⟨hc, h3⟩ := and2 hc
    obtain ⟨h1, h2⟩ := and2 hc
    obtain ⟨g1, g2⟩ := gl_ok hsc h1
    obtain ⟨i, hi, hx, hn, hne⟩ := excN_ok h2
    exact snd_raise h hi hx hne hn g1 g2 h3 ((ck_all (W := W) (N := N) k).Es X n C Wx H0 sc _ _ h pn hN hsc h4)
  · obtain ⟨h1, h2⟩ := and2 hc
    obtain ⟨g1, g2⟩ := ih.Hs X n C Wx e0 H0 sc _ _ h hN hsc hf h2
    exact snd_try h pn hf (fun X' W' h' pn' e1 e2 hf' => ih.Ss X' n C W' e0 H0 sc _ _ h' pn' (e1.trans hN) (e2.trans hsc) hf' h1) g2 g1
  · exact snd_never fun _ _ => rfl
  · cases hc
theorem ck_st : ∀ k, CkSt W N k := by
  intro k
  induction k with
  | zero => exact ⟨fun _ _ _ _ _ _ _ _ _ _ _ _ _ _ h => (nomatch h), fun _ _ _ _ _ _ _ _ _ _ _ _ _ _ h => (nomatch h), fun _ _ _ _ _ _ _ _ _ _ _ _ _ h => (nomatch h)⟩
  | succ k ih =>
    refine ⟨ck_S ih, fun X n C Wx e0 H0 sc as xs h pn hN hsc hf hc => ?_, fun X n C Wx e0 H0 sc hs xs h hN hsc hf hc => ?_⟩
    · unfold chkSs at hc
      split at hc
      · exact snd_ss_nil
      · exact snd_frz (ih.Ss X n C Wx e0 H0 sc _ _ h pn hN hsc hf hc)
      · obtain ⟨h1, h2⟩ := and2 hc
        exact snd_ss (ih.S X n C Wx e0 H0 sc _ _ h pn hN hsc hf h1) (ih.Ss X n C Wx e0 H0 sc _ _ h pn hN hsc hf h2)
      · cases hc
    · have su : ∀ {b : Ss} {z : Stmt} {zs : List Stmt}, chkSs N W.T k sc b (z :: zs) = true → ∀ (a : Addr) (oe : Obj) (cls : Value) (d : Option Addr) (p2 : List (Addr × Obj)), L2N.Zn cls d oe → (∃ vs, oe.data = .fields vs) → PSs (X.suite a ((a, oe) :: p2)) (z :: zs) (suT W C e0 H0 b a cls d) := by
        intro b z zs hz a oe cls d p2 hzn hfl
        refine ⟨fun pins s σ H D I ⟨c, dx, e1, e2, hr⟩ => ?_⟩
        refine (ih.Ss (X.suite a ((a, oe) :: p2)) n C.heat Wf e0 { H0 with x := some (a, c, dx) } sc b (z :: zs) (h.inSuite hzn hfl) ⟨fun z => (nomatch z), fun a' c' dx' z => ?_⟩ hN hsc ⟨hf.fn, hf.stk, hf.frm⟩ hz).run pins s σ H D I hr
        cases z
        exact ⟨oe, List.mem_cons_self, by rw [hzn.1, e1], by rw [hzn.2.1, e2], hfl⟩
      have nms : ∀ {c : Nat} {x : Str} {i : ClI}, glOk sc x = true → W.T.cls[c]? = some i → i.name = x → Names X x (.ref (W.ca c)) := by
        intro c x i h1 hi hn
        obtain ⟨g1, g2⟩ := gl_ok hsc h1
        exact ⟨g1, g2, .inl (by rw [h.mg, ← hn]; exact (h.txt.clsg c i hi).1)⟩
      unfold chkHs at hc
      split at hc
      · exact ⟨.nil, fun c' z => nomatch z⟩
      · obtain ⟨hc, h4⟩ := and2 hc
        obtain ⟨hc, h3⟩ := and2 hc
        obtain ⟨h1, h2⟩ := and2 hc
        obtain ⟨i, hi, hx, hn, _⟩ := excN_ok h2
        obtain ⟨g1, g2⟩ := ih.Hs X n C Wx e0 H0 sc _ _ h hN hsc hf h4
        refine ⟨.bare (nms h1 hi hn) (su h3) g1, fun c' z => ?_⟩
        rcases List.mem_cons.mp z with z | z
        · rw [z]; exact ⟨i, hi, hx⟩
        · exact g2 c' z
      · obtain ⟨hc, h6⟩ := and2 hc
        obtain ⟨hc, h5⟩ := and2 hc
        obtain ⟨hc, h4⟩ := and2 hc
        obtain ⟨hc, h3⟩ := and2 hc
        obtain ⟨h1, h2⟩ := and2 hc
        obtain ⟨i, hi, hx, hn, _⟩ := excN_ok h2
        obtain ⟨g1, g2⟩ := ih.Hs X n C Wx e0 H0 sc _ _ h hN hsc hf h6
        refine ⟨.named (nms h1 hi hn) (by rw [hN]; exact of_decide_eq_true h3) (by show X.env.scope.names.lookup _ = _; rw [hsc]; exact of_decide_eq_true h4) (su h5) g1, fun c' z => ?_⟩
        rcases List.mem_cons.mp z with z | z
        · rw [z]; exact ⟨i, hi, hx⟩
        · exact g2 c' z
      · cases hc
theorem body_ok {i : FnI} {body : List Stmt} {scope : Scope} (k : Nat) (hc : chkSs i.names W.T k scope i.body body = true) : BodyOk W i body scope := fun X n C Wx e0 H0 h pn hN hsc hf => (ck_st k).Ss X n C Wx e0 H0 scope i.body body h pn hN hsc hf hc
end
end Ev

set_option maxRecDepth 100000
set_option maxHeartbeats 4000000
namespace Ev
open PySem PySem.Spec PyProof.Rows L2
theorem fm_congr {α β : Type} {f g : α → Option β} : ∀ {l : List α}, (∀ a ∈ l, f a = g a) → l.filterMap f = l.filterMap g
  | [], _ => rfl
  | a :: l, h => by rw [List.filterMap_cons, List.filterMap_cons, h a List.mem_cons_self, fm_congr fun b hb => h b (List.mem_cons_of_mem _ hb)]
theorem zip_look {ps : List Str} : ∀ {us : List Value}, ps.Nodup → us.length = ps.length → (∀ n ∈ ps, ((ps.zip us).lookup n).isSome = true) ∧ ps.filterMap (fun n => ((ps.zip us).lookup n).map (n, ·)) = ps.zip us := by
  induction ps with
  | nil => intro us _ _; exact ⟨fun n h => (nomatch h), rfl⟩
  | cons p ps ih =>
    intro us nd hl
    cases us with
    | nil => simp at hl
    | cons u us =>
      rw [List.nodup_cons] at nd
      obtain ⟨i1, i2⟩ := ih (us := us) nd.2 (by simpa using hl)
      refine ⟨fun n hn => ?_, ?_⟩
      · rw [List.zip_cons_cons, List.lookup_cons]
        split
        · rfl
        · rename_i hne
          rcases List.mem_cons.mp hn with e | e
          · subst e; simp at hne
          · exact i1 n e
      · rw [List.zip_cons_cons, List.filterMap_cons]
        simp only [List.lookup_cons, beq_self_eq_true, Option.map_some]
        congr 1
        refine Eq.trans (fm_congr fun n hn => ?_) i2
        have hne : (n == p) = false := by
          rw [beq_eq_false_iff_ne]
          rintro rfl
          exact nd.1 hn
        rw [hne]
theorem bind_plain {x qual : Str} {as : List Arg} {dx : List Expr} {body : List Stmt} {scope : Scope} {kV doc pm : Value} {an : Option Addr} {cdv ct : Value} {us : List Value} (nd : (as.map (·.arg)).Nodup) (hl : us.length = as.length) :
    bindArgs (PySem.W.fnOf x qual ⟨[], as, none, [], [], none, dx⟩ body scope .none kV doc pm an cdv ct) ⟨us, []⟩ = pure ((as.map (·.arg)).zip us) := by
  obtain ⟨z1, z2⟩ := zip_look (ps := as.map (·.arg)) (us := us) nd (by simpa using hl)
  have e1 : (List.filter (fun n => ((((as.map (·.arg)).zip us).lookup n).isNone)) ((as.map (·.arg)).take as.length)) = [] := by
    rw [List.filter_eq_nil_iff]
    intro n hn
    have := z1 n (List.mem_of_mem_take hn)
    obtain ⟨v, hv⟩ := Option.isSome_iff_exists.mp this
    rw [hv]; simp
  unfold bindArgs PySem.W.fnOf
  dsimp only
  simp only [List.map_nil, List.nil_append, List.append_nil, List.forIn_nil, pure_bind, hl, List.length_map, gt_iff_lt, Nat.lt_irrefl]
  have e2 : seqItems? Value.none = pure none := by rfl
  have e3 : (#[] : Array Value).toList = [] := rfl
  rw [e2]
  simp only [pure_bind, Option.getD_none, e3, List.drop_nil, List.length_nil, Nat.sub_zero, e1, List.isEmpty_nil, Bool.not_true, Bool.false_eq_true, if_false, decide_false, Bool.false_and, List.zip_nil_right, List.forIn_nil, z2]
theorem dfl_loop : ∀ (zs : List (Str × Value)) (slots : List (Str × Value)), (∀ z ∈ zs, slots.lookup z.1 = none) → (zs.map (·.1)).Nodup →
    (forIn zs slots fun (x : Str × Value) (r : List (Str × Value)) => if ((r.lookup x.1).isNone) = true then (pure (ForInStep.yield (r ++ [(x.1, x.2)])) : Sem _) else pure (ForInStep.yield r)) = (pure (slots ++ zs) : Sem _)
  | [], slots, _, _ => by simp
  | (n, d) :: zs, slots, h, nd => by
    have h0 := h (n, d) List.mem_cons_self
    have h0 : slots.lookup n = none := h0
    rw [List.forIn_cons]
    simp only [h0, Option.isNone_none, if_true, pure_bind]
    rw [List.map_cons, List.nodup_cons] at nd
    rw [dfl_loop zs (slots ++ [(n, d)]) (fun z hz => ?_) nd.2]
    · simp
    · have hne : (z.1 == n) = false := by
        rw [beq_eq_false_iff_ne]
        intro e
        exact nd.1 (by rw [← show z.1 = n from e]; exact List.mem_map.mpr ⟨z, hz, rfl⟩)
      rw [List.lookup_append, h z (List.mem_cons_of_mem _ hz)]
      simp [List.lookup_cons, hne]
theorem zip_look2 {ps : List Str} {us : List Value} (nd : ps.Nodup) (hl : us.length ≤ ps.length) : (∀ n ∈ ps.take us.length, ((ps.zip us).lookup n).isSome = true) ∧ ∀ n ∈ ps.drop us.length, (ps.zip us).lookup n = none := by
  have e : ps.zip us = (ps.take us.length).zip us := by
    rw [List.zip_eq_zip_take_min]
    simp [Nat.min_eq_right hl]
  refine ⟨fun n hn => ?_, fun n hn => ?_⟩
  · rw [e]
    exact (zip_look (nd.sublist (List.take_sublist _ _)) (by simp [Nat.min_eq_left hl])).1 n hn
  · cases q : (ps.zip us).lookup n with
    | none => rfl
    | some v =>
      have m1 := PySem.mem_of_lookup q
      rw [e] at m1
      have m2 := (List.of_mem_zip m1).1
      have nd2 : (ps.take us.length ++ ps.drop us.length).Nodup := by rw [List.take_append_drop]; exact nd
      exact absurd rfl ((List.nodup_append.mp nd2).2.2 n m2 n hn)
theorem zip_app {ps : List Str} {us its : List Value} (hl : us.length ≤ ps.length) : ps.zip us ++ (ps.drop us.length).zip its = ps.zip (us ++ its) := by
  induction us generalizing ps with
  | nil => simp
  | cons u us ih =>
    cases ps with
    | nil => simp at hl
    | cons p ps =>
      rw [List.zip_cons_cons, List.cons_append, List.cons_append, List.zip_cons_cons]
      rw [← ih (ps := ps) (by simpa using hl)]
      rfl
theorem skip_loop : ∀ (ys zs slots : List (Str × Value)), (∀ y ∈ ys, (slots.lookup y.1).isSome = true) → (∀ z ∈ zs, slots.lookup z.1 = none) → (zs.map (·.1)).Nodup →
    (forIn (ys ++ zs) slots fun (x : Str × Value) (r : List (Str × Value)) => if ((r.lookup x.1).isNone) = true then (pure (ForInStep.yield (r ++ [(x.1, x.2)])) : Sem _) else pure (ForInStep.yield r)) = (pure (slots ++ zs) : Sem _)
  | [], zs, slots, _, h, nd => dfl_loop zs slots h nd
  | y :: ys, zs, slots, hy, h, nd => by
    obtain ⟨v, hv⟩ := Option.isSome_iff_exists.mp (hy y List.mem_cons_self)
    rw [List.cons_append, List.forIn_cons]
    simp only [hv, Option.isNone_some, Bool.false_eq_true, if_false, pure_bind]
    exact skip_loop ys zs slots (fun z hz => hy z (List.mem_cons_of_mem _ hz)) h nd
theorem bind_dfl {x qual : Str} {as : List Arg} {dx : List Expr} {body : List Stmt} {scope : Scope} {kV doc pm : Value} {an : Option Addr} {cdv ct : Value} {T : Addr} {us its : List Value} (nd : (as.map (·.arg)).Nodup) (h1 : us.length ≤ as.length) (h2 : its.length ≤ as.length) (h3 : as.length ≤ us.length + its.length) :
    ∃ k, bindArgs (PySem.W.fnOf x qual ⟨[], as, none, [], [], none, dx⟩ body scope (.ref T) kV doc pm an cdv ct) ⟨us, []⟩ = seqItems? (.ref T) >>= k ∧ k (some its.toArray) = pure ((as.map (·.arg)).zip (us ++ its.drop (us.length + its.length - as.length))) := by
  obtain ⟨z1, z2⟩ := zip_look2 (ps := as.map (·.arg)) (us := us) nd (by simpa using h1)
  refine ⟨_, by
    unfold bindArgs PySem.W.fnOf
    dsimp only
    simp only [List.map_nil, List.nil_append, List.append_nil, List.forIn_nil, pure_bind]
    rfl, ?_⟩
  have e3 : ((some its.toArray).getD (#[] : Array Value)).toList = its := by simp
  have hp : (as.map (·.arg)).length = as.length := by simp
  have e4 : its.length - as.length = 0 := by omega
  have hnot : ¬ us.length > as.length := by omega
  have e1 : (List.filter (fun n => ((((as.map (·.arg)).zip us).lookup n).isNone)) ((as.map (·.arg)).take (as.length - its.length))) = [] := by
    rw [List.filter_eq_nil_iff]
    intro n hn
    have hn' : n ∈ (as.map (·.arg)).take us.length := by
      rw [show as.length - its.length = min (as.length - its.length) us.length by omega, ← List.take_take] at hn
      exact List.mem_of_mem_take hn
    obtain ⟨v, hv⟩ := Option.isSome_iff_exists.mp (z1 n hn')
    rw [hv]; simp
  have lp := skip_loop (((as.map (·.arg)).drop (as.length - its.length)).zip its |>.take (us.length + its.length - as.length)) (((as.map (·.arg)).drop us.length).zip (its.drop (us.length + its.length - as.length))) ((as.map (·.arg)).zip us) (fun y hy => ?_) (fun z hz => z2 _ (List.of_mem_zip hz).1) ?_
  · have hsplit : ((as.map (·.arg)).drop (as.length - its.length)).zip its = (((as.map (·.arg)).drop (as.length - its.length)).zip its |>.take (us.length + its.length - as.length)) ++ (((as.map (·.arg)).drop us.length).zip (its.drop (us.length + its.length - as.length))) := by
      conv => lhs; rw [← List.take_append_drop (us.length + its.length - as.length) (((as.map (·.arg)).drop (as.length - its.length)).zip its)]
      congr 1
      rw [List.zip, List.drop_zipWith, List.drop_drop]
      rw [show as.length - its.length + (us.length + its.length - as.length) = us.length by omega]
    rw [← hsplit] at lp
    simp only [e3, hp, e4, List.drop_zero, gt_iff_lt, decide_eq_false hnot, Bool.false_and, Bool.false_eq_true, if_false, e1, List.isEmpty_nil, Bool.not_true]
    rw [zip_app (by rw [hp]; exact h1)] at lp
    rw [lp, pure_bind]
    congr 1
    exact (zip_look nd (by rw [List.length_append, List.length_drop, hp]; omega)).2
  · refine z1 _ ?_
    have hy2 : y ∈ (((as.map (·.arg)).drop (as.length - its.length)).take (us.length + its.length - as.length)).zip (its.take (us.length + its.length - as.length)) := by
      rw [List.zip, ← List.take_zipWith]; exact hy
    have m := (List.of_mem_zip hy2).1
    rw [List.take_drop] at m
    have m2 := List.mem_of_mem_drop m
    rw [show as.length - its.length + (us.length + its.length - as.length) = us.length by omega] at m2
    exact m2
  · rw [List.map_fst_zip (by rw [List.length_drop, List.length_drop, hp]; omega)]
    exact nd.sublist (List.drop_sublist _ _)
end Ev

set_option maxRecDepth 100000
set_option maxHeartbeats 4000000
namespace Ev
open PySem PySem.Spec PyProof.Rows L2
def caK (K : PySem.W.Frag) (T : Tb) (c : Nat) : Addr := match T.cls[c]? with
  | some i => gadr K i.name
  | none => 0
def optV (a b : Option (Option Value)) : Bool := decide (a = b)
def methB (K : PySem.W.Frag) (T : Tb) (a : Addr) (m : Str) (f : Addr) : Bool := optV (PySem.W.findIn K (.ref a) m) (some (some (.ref f))) && PySem.W.isFn K (.ref f) && PySem.W.keepIn K (.ref f)
def propB (K : PySem.W.Frag) (a : Addr) (m : Str) (g : Addr) : Bool := match PySem.W.findIn K (.ref a) m with
  | some (some (.ref p)) => optV (PySem.W.specialIn K (.ref p) "__get__") (some (some (.builtin "property.__get__"))) && decide (PySem.W.takesIn K (.ref p) = some true) && (match PySem.W.recIn K p "property" with
    | some (.ref g' :: _) => decide (g' = g)
    | _ => false)
  | _ => false
def clsX (K : PySem.W.Frag) (T : Tb) (i : ClI) (a : Addr) : Bool :=
  FLATT.all (fun t => decide (PySem.W.mroIn K a (.type t) = some false)) &&
  ((i.meths.lookup 6).isSome || (optV (PySem.W.findIn K (.ref a) "__eq__") (some (some (.builtin "object.__eq__"))) && optV (PySem.W.findIn K (.ref a) "__ne__") (some (some (.builtin "object.__ne__"))))) &&
  (List.range T.cls.length).all (fun c' => match T.cls[c']? with
    | some j => j.isexc || decide (PySem.W.mroIn K a (.ref (gadr K j.name)) = some (i.mro.contains c'))
    | none => true) &&
  OPS.all (fun k => !(i.meths.lookup k.m).isSome || optV (PySem.W.findIn K (.ref a) (PySem.dunderR (opB2 k).info.2)) (some none))
def clsB (K : PySem.W.Frag) (T : Tb) (i : ClI) : Bool :=
  let a := gadr K i.name
  clsX K T i a &&
  PySem.W.plainGet K a Str.empty && PySem.W.hasDictIn K a && PySem.W.plainOver K a && optV (PySem.W.findIn K (.ref a) "__setattr__") (some (some (.builtin "object.__setattr__"))) &&
  i.flds.all (fun k => optV (PySem.W.findIn K (.ref a) (an T k)) (some none)) &&
  i.flds.all (fun k => i.flds.all fun k' => !decide (an T k = an T k') || decide (k = k')) &&
  i.meths.all (fun p => match T.fns[p.2]? with
    | some j => methB K T a (an T p.1) (fadr K T j.loc) && i.flds.all fun k => !decide (an T k = an T p.1)
    | none => false) &&
  i.props.all (fun p => match T.fns[p.2]? with
    | some j => propB K a (an T p.1) (fadr K T j.loc)
    | none => false) &&
  PySem.W.selfFirst K a && (!(i.meths.lookup 6).isSome || optV (PySem.W.findIn K (.ref a) "__ne__") (some (some (.builtin "object.__ne__")))) && decide (PySem.W.subIn K (.ref a) (.type "object") = some true) &&
  optV (PySem.W.findIn K (.ref a) "__class__") (some (some (.builtin "object.__class__"))) && decide (PySem.W.mroIn K a (.type "object") = some true) &&
  (match T.fns[i.init]? with
    | some j => PySem.W.makesIn K a && optV (PySem.W.findIn K (.ref a) "__init__") (some (some (.ref (fadr K T j.loc)))) && PySem.W.isFn K (.ref (fadr K T j.loc)) && PySem.W.keepIn K (.ref a)
    | none => true)
section
variable {W : Wd}
theorem all_lookup {β : Type} {l : List (Nat × β)} {p : Nat × β → Bool} (h : l.all p = true) {k : Nat} {v : β} (e : l.lookup k = some v) : p (k, v) = true := by
  have m : (k, v) ∈ l := by
    induction l with
    | nil => cases e
    | cons q l ih =>
      obtain ⟨k', v'⟩ := q
      rw [List.lookup_cons] at e
      rw [List.all_cons, Bool.and_eq_true] at h
      split at e
      · rename_i hk
        cases e
        rw [beq_iff_eq.mp hk]
        exact List.mem_cons_self
      · exact List.mem_cons_of_mem _ (ih h.2 e)
  exact List.all_eq_true.mp h _ m
theorem cls_f {c : Nat} {i : ClI} (hi : W.T.cls[c]? = some i) (h : clsB W.K W.T i = true) : ClsF W c i := by
  have ea : W.ca c = gadr W.K i.name := by unfold Wd.ca; rw [hi]
  unfold clsB at h
  simp only [Bool.and_eq_true] at h
  obtain ⟨⟨⟨⟨⟨⟨⟨⟨⟨⟨⟨⟨⟨⟨hX, h1⟩, h2⟩, h3⟩, h4⟩, h5⟩, h6⟩, h7⟩, h8⟩, h9⟩, h10⟩, h11⟩, h12⟩, h13⟩, h14⟩ := h
  have of : ∀ {a b : Option (Option Value)}, optV a b = true → a = b := fun h => of_decide_eq_true h
  refine ⟨by rw [ea]; exact ⟨h1, h2, h3, of h4⟩, fun k hk => ?_, fun k hk k' hk' e => ?_, fun m f hm => ?_, fun k f hp => ?_, by rw [ea]; exact h9, fun hne => ?_, by rw [ea]; exact of_decide_eq_true h11, by rw [ea]; exact of h12, by rw [ea]; exact of_decide_eq_true h13, fun j hj => ?_, fun ty hty => ?_, fun hno => ?_, fun c' i' hi' hx' => ?_, fun k hk hm => ?_⟩
  · rw [ea]; exact of (List.all_eq_true.mp h5 k hk)
  · have := List.all_eq_true.mp (List.all_eq_true.mp h6 k hk) k' hk'
    rw [e] at this
    simpa using this
  · have z := all_lookup h7 hm
    cases hj : W.T.fns[f]? with
    | none => rw [show (m, f).2 = f from rfl, hj] at z; cases z
    | some j =>
      rw [show (m, f).2 = f from rfl, hj] at z
      simp only [Bool.and_eq_true] at z
      obtain ⟨z1, z2⟩ := z
      unfold methB at z1
      simp only [Bool.and_eq_true] at z1
      refine ⟨j, rfl, by rw [ea]; exact ⟨of z1.1.1, z1.1.2, z1.2⟩, fun k hk e => ?_⟩
      have := List.all_eq_true.mp z2 k hk
      rw [e] at this
      simp at this
  · have z := all_lookup h8 hp
    cases hj : W.T.fns[f]? with
    | none => rw [show (k, f).2 = f from rfl, hj] at z; cases z
    | some j =>
      rw [show (k, f).2 = f from rfl, hj] at z
      have z : propB W.K (gadr W.K i.name) (an W.T k) (fadr W.K W.T j.loc) = true := z
      unfold propB at z
      split at z
      · rename_i p hp2
        simp only [Bool.and_eq_true] at z
        obtain ⟨⟨z1, z2⟩, z3⟩ := z
        split at z3
        · rename_i g' rest hr
          refine ⟨j, p, rfl, by rw [ea]; exact ⟨hp2, of z1, of_decide_eq_true z2, rest, by rw [hr, of_decide_eq_true z3]⟩⟩
        · cases z3
      · cases z
  · rw [ea]
    cases hl : i.meths.lookup 6 with
    | none => exact absurd hl hne
    | some f => rw [hl] at h10; simp at h10; exact of h10
  · rw [hj] at h14
    simp only [Bool.and_eq_true] at h14
    rw [ea]
    exact ⟨h14.1.1.1, of h14.1.1.2, h14.1.2, h14.2⟩
  all_goals
    unfold clsX at hX
    simp only [Bool.and_eq_true] at hX
    obtain ⟨⟨⟨x1, x2⟩, x3⟩, x4⟩ := hX
  · rw [ea]; exact of_decide_eq_true (List.all_eq_true.mp x1 ty hty)
  · rw [ea]
    rw [hno] at x2
    simp at x2
    exact ⟨of x2.1, of x2.2⟩
  · have hl : c' < W.T.cls.length := (List.getElem?_eq_some_iff.mp hi').1
    have z := List.all_eq_true.mp x3 c' (List.mem_range.mpr hl)
    rw [hi'] at z
    simp only [hx', Bool.false_or] at z
    have ec : W.ca c' = gadr W.K i'.name := by unfold Wd.ca; rw [hi']
    rw [ea, ec]; exact of_decide_eq_true z
  · have z := List.all_eq_true.mp x4 k hk
    rw [hm] at z
    simp at z
    rw [ea]; exact of z
end
def nodupB : List Str → Bool
  | [] => true
  | x :: xs => !(xs.any fun y => decide (y = x)) && nodupB xs
theorem nodupB_ok : ∀ {l : List Str}, nodupB l = true → l.Nodup
  | [], _ => .nil
  | x :: xs, h => by
    have h : (!(xs.any fun y => decide (y = x)) && nodupB xs) = true := h
    rw [Bool.and_eq_true] at h
    rw [List.nodup_cons]
    refine ⟨fun hm => ?_, nodupB_ok h.2⟩
    have : (xs.any fun y => decide (y = x)) = true := List.any_eq_true.mpr ⟨x, hm, by simp⟩
    rw [this] at h
    exact absurd h.1 (by simp)
def scopeB (N P : List Str) (sc : Scope) : Bool := decide (sc.kind = .function) && !sc.isCoroutine && !sc.isGenerator && nodupB N && (P.all fun x => locB true (sc.names.lookup x)) && sc.names.all fun y => !decide (y.2 = .free)
theorem scopeB_ok {N : List Str} {k : Nat} {sc : Scope} (h : scopeB N (N.take k) sc = true) : FnScope N (N.take k) sc := by
  unfold scopeB at h
  simp only [Bool.and_eq_true] at h
  obtain ⟨⟨⟨⟨⟨h1, h2⟩, h3⟩, h4⟩, h5⟩, h6⟩ := h
  refine ⟨of_decide_eq_true h1, by simpa using h2, by simpa using h3, nodupB_ok h4, ?_, fun x hx => ?_, fun y hy => ?_⟩
  · rw [List.length_take]
    by_cases z : k ≤ N.length
    · rw [Nat.min_eq_left z]
    · rw [Nat.min_eq_right (by omega), List.take_of_length_le (Nat.le_refl _), List.take_of_length_le (by omega)]
  · have := List.all_eq_true.mp h5 x hx
    cases q : sc.names.lookup x with
    | none => rw [q] at this; cases this
    | some kk => rw [q] at this; cases kk <;> first | exact .inl rfl | exact .inr rfl | cases this
  · have := List.all_eq_true.mp h6 y hy
    simpa using this
def dflB : D → Value → Bool
  | .non, .none => true
  | .bl b, .bool c => decide (b = c)
  | .int i, .int j _ => decide (i = j)
  | .str x, .str y _ => decide (x = y)
  | _, _ => false
def dflsB : List D → List Value → Bool
  | [], [] => true
  | d :: ds, v :: vs => dflB d v && dflsB ds vs
  | _, _ => false
def dflV (K : PySem.W.Frag) (ds : List D) (dV : Value) : Bool := match ds, dV with
  | [], .none => true
  | d :: ds, .ref T => (match K.lookup T with
    | some ⟨_, _, .seq its n, _⟩ => dflsB (d :: ds) its.toList
    | _ => false)
  | _, _ => false
def parB (p : Arguments) (ps : List Str) : Bool := p.posonlyargs.isEmpty && p.vararg.isNone && p.kwonlyargs.isEmpty && p.kw_defaults.isEmpty && p.kwarg.isNone && decide (p.args.map (·.arg) = ps)
def fnB (K : PySem.W.Frag) (T : Tb) (k : Nat) (i : FnI) : Bool := match K.lookup (fadr K T i.loc) with
  | some ⟨_, _, .func fd, _⟩ => (match fd.body with
    | .stmts body => decide (fd.globals = mainGlobals) && fd.closure.isEmpty && decide (fd.builtins = builtinsNs) && PySem.W.codeIn K fd.code fd.qualname && dflV K i.dfl fd.defaults && PySem.W.keepIn K (.ref (fadr K T i.loc)) &&
        parB fd.params (i.names.take i.np) && decide ((i.names.take i.np).length = i.np) && decide (i.dfl.length ≤ i.np) && scopeB i.names (i.names.take i.np) fd.scope && (!i.ok || chkSs i.names T k fd.scope i.body body)
    | _ => false)
  | _ => false
section
variable {W : Wd}
theorem dflB_rep {e : Em} {d : D} {v : Value} (h : dflB d v = true) : ∃ x, RelV x v ∧ ∀ e, Rep W e d x := by
  unfold dflB at h
  split at h
  · exact ⟨.non, rfl, fun _ => rfl⟩
  · exact ⟨.bl _, rfl, fun _ => by rw [of_decide_eq_true h]; rfl⟩
  · exact ⟨.int _, ⟨_, rfl⟩, fun _ => by rw [of_decide_eq_true h]; rfl⟩
  · exact ⟨.str _, ⟨_, rfl⟩, fun _ => by rw [of_decide_eq_true h]; rfl⟩
  · cases h
theorem dflsB_rep : ∀ {ds : List D} {vs : List Value}, dflsB ds vs = true → ∃ xs, Vals xs vs ∧ ∀ e, RepL W e ds xs
  | [], [], _ => ⟨[], .nil, fun _ => rfl⟩
  | d :: ds, v :: vs, h => by
    have h : (dflB d v && dflsB ds vs) = true := h
    rw [Bool.and_eq_true] at h
    obtain ⟨x, h1, h2⟩ := dflB_rep (W := W) (e := ⟨fun _ => none, fun _ => none⟩) h.1
    obtain ⟨xs, h3, h4⟩ := dflsB_rep h.2
    exact ⟨x :: xs, .cons h1 h3, fun e => .cons (h2 e) (h4 e)⟩
  | [], _ :: _, h => by cases h
  | _ :: _, [], h => by cases h
end
end Ev

set_option maxRecDepth 100000
set_option maxHeartbeats 4000000
namespace Ev
open PySem PySem.Spec PyProof.Rows L2
section
variable {W : Wd}
theorem fn_t {k : Nat} {i : FnI} (h : fnB W.K W.T k i = true) : ∃ body scope, FnT W i body scope ∧ (i.ok = true → chkSs i.names W.T k scope i.body body = true) ∧
    (i.dfl = [] → ∀ oc od fd osl, W.K.lookup (fadr W.K W.T i.loc) = some ⟨oc, od, .func fd, osl⟩ → ∀ us : List Value, us.length = (i.names.take i.np).length → bindArgs fd ⟨us, []⟩ = pure ((i.names.take i.np).zip us)) := by
  unfold fnB at h
  split at h
  · rename_i oc od fd osl lk
    split at h
    · rename_i body hbd
      simp only [Bool.and_eq_true] at h
      obtain ⟨⟨⟨⟨⟨⟨⟨⟨⟨⟨h1, h2⟩, h3⟩, h4⟩, h5⟩, h6⟩, h7⟩, h8⟩, h9⟩, h10⟩, h11⟩ := h
      have hfd : fd = PySem.W.fnOf fd.name fd.qualname fd.params body fd.scope fd.defaults fd.kwdefaults fd.doc fd.pyModule fd.annotations fd.code fd.closureTuple := by
        obtain ⟨_, _, _, _, _, _, _, _, _, _, _, _, _, _, _⟩ := fd
        have e1 := of_decide_eq_true h1
        have e2 := List.isEmpty_iff.mp h2
        have e3 := of_decide_eq_true h3
        simp only at e1 e2 e3 hbd
        subst e1 e2 e3 hbd
        rfl
      unfold parB at h7
      simp only [Bool.and_eq_true] at h7
      obtain ⟨⟨⟨⟨⟨p1, p2⟩, p3⟩, p4⟩, p5⟩, p6⟩ := h7
      have hp : fd.params = ⟨[], fd.params.args, none, [], [], none, fd.params.defaults⟩ := by
        generalize fd.params = p at p1 p2 p3 p4 p5 p6 ⊢
        obtain ⟨_, _, _, _, _, _, _⟩ := p
        simp only [List.isEmpty_iff, Option.isNone_iff_eq_none] at p1 p2 p3 p4 p5
        subst p1 p2 p3 p4 p5
        rfl
      have hps := of_decide_eq_true p6
      have nd : (fd.params.args.map (·.arg)).Nodup := by rw [hps]; exact (scopeB_ok h10).nd.sublist (List.take_sublist _ _)
      have hlen : fd.params.args.length = i.np := by rw [← of_decide_eq_true h8, ← hps, List.length_map]
      refine ⟨body, fd.scope, ⟨?_, scopeB_ok h10, of_decide_eq_true h8⟩, fun ho => ?_, fun hdf oc2 od2 fd2 osl2 lk2 us hl => ?_⟩
      · unfold dflV at h5
        split at h5
        · -- no default
          rename_i e1 e2
          refine ⟨fd.name, fd.qualname, fd.params, [], fd, ⟨⟨oc, od, fd.defaults, fd.kwdefaults, fd.doc, fd.pyModule, fd.annotations, fd.code, fd.closureTuple, osl, hfd, lk, h4, .inl ⟨rfl, e2⟩, .inl rfl⟩, h6⟩, fun k hk => ⟨[], [], .nil, fun _ => by rw [e1]; simp; exact RepL.nil, ?_⟩⟩
          refine Binds.all fun us hl => ?_
          rw [← hps] at hl ⊢
          rw [hfd, e2, hp]
          exact bind_plain nd (by simpa using hl)
        · rename_i d ds T e1 e2
          split at h5
          · rename_i oc2 od2 its n2 sl2 lT
            obtain ⟨dvs, rv, rr⟩ := dflsB_rep (W := W) h5
            have ldv : dvs.length = i.dfl.length := by rw [e1]; exact (rr ⟨fun _ => none, fun _ => none⟩).length
            have lits : its.toList.length = i.dfl.length := by rw [← rv.length, ldv]
            refine ⟨fd.name, fd.qualname, fd.params, dvs, fd, ⟨⟨oc, od, fd.defaults, fd.kwdefaults, fd.doc, fd.pyModule, fd.annotations, fd.code, fd.closureTuple, osl, hfd, lk, h4, .inr ⟨fun z => ?_, T, _, its.toList, n2, e2, lT, ?_, rv⟩, .inl rfl⟩, h6⟩, fun k hk => ⟨its.toList.drop k, dvs.drop k, rv.drop k, fun e => by rw [e1]; exact (rr e).drop k, fun s us hK hl => ?_⟩⟩
            · rw [z, e1] at ldv; cases ldv
            · simp
            · have hl2 : us.length + (its.toList.length - k) = fd.params.args.length := by
                have := hl
                rw [← hps, List.length_append, List.length_drop, List.length_map] at this
                exact this
              have h9' := of_decide_eq_true h9
              obtain ⟨kk, b1, b2⟩ := bind_dfl (x := fd.name) (qual := fd.qualname) (dx := fd.params.defaults) (body := body) (scope := fd.scope) (kV := fd.kwdefaults) (doc := fd.doc) (pm := fd.pyModule) (an := fd.annotations) (cdv := fd.code) (ct := fd.closureTuple) (T := T) (us := us) (its := its.toList) nd (by omega) (by omega) (by omega)
              rw [show us.length + its.toList.length - fd.params.args.length = k by omega] at b2
              refine BindsTo.of_looks fun M => ?_
              rw [hfd, e2, hp, b1, ← hps]
              have b3 : kk (some its) = pure ((List.map (fun x => x.arg) fd.params.args).zip (us ++ List.drop k its.toList)) := by simpa using b2
              exact looks_items hK lT rfl (.of_pure b3)
          · cases h5
        · cases h5
      · rw [ho] at h11
        simpa using h11
      · rw [lk] at lk2
        cases lk2
        have e2 : fd.defaults = .none := by
          unfold dflV at h5
          rw [hdf] at h5
          split at h5
          · assumption
          · rename_i e1 _; cases e1
          · cases h5
        rw [← hps] at hl ⊢
        rw [hfd, e2, hp]
        exact bind_plain nd (by simpa using hl)
    · cases h
  · cases h
end
end Ev

set_option maxRecDepth 100000
set_option maxHeartbeats 4000000
namespace Ev
open PySem PySem.Spec PyProof.Rows L2
def tyK (K : PySem.W.Frag) (T : Tb) : Ty → Value
  | .non => .type "NoneType"
  | .bl => .type "bool"
  | .int => .type "int"
  | .str => .type "str"
  | .lst => .type "list"
  | .tup => .type "tuple"
  | .ins c => .ref (caK K T c)
def kdK (K : PySem.W.Frag) (T : Tb) : Kd → Value
  | .int => .type "int"
  | .str => .type "str"
  | .bool => .type "bool"
  | .list => .type "list"
  | .tuple => .type "tuple"
  | .cls c => .ref (caK K T c)
def tysOf (T : Tb) : List Ty := [.non, .bl, .int, .str, .lst, .tup] ++ (List.range T.cls.length).map .ins
def kdsOf (T : Tb) : List Kd := [.int, .str, .bool, .list, .tuple] ++ (List.range T.cls.length).map .cls
def isiB (K : PySem.W.Frag) (T : Tb) : Bool := (tysOf T).all fun t => !tyIn T t || (kdsOf T).all fun k => decide (PySem.W.kitOne K (tyK K T t) (kdK K T k) = some (isTy T t k))
def glbB (K : PySem.W.Frag) (x : Str) (a : Addr) : Bool := optV (PySem.W.nsIn K mainGlobals x) (some (some (.ref a))) && PySem.W.keepIn K (.ref a)
def globB (K : PySem.W.Frag) (T : Tb) : Bool := T.fns.all fun i => match i.loc with
  | (x, none) => glbB K x (fadr K T i.loc)
  | _ => true
def injB (K : PySem.W.Frag) (T : Tb) : Bool := (List.range T.cls.length).all fun c => (List.range T.cls.length).all fun c' => !decide (caK K T c = caK K T c') || decide (c = c')
def strKey : Value → Bool
  | .str _ _ => true
  | _ => false
def noneAt (K : PySem.W.Frag) (a : Addr) (x : Str) : Bool := optV (PySem.W.nsIn K a x) (some none)
def seerB (K : PySem.W.Frag) : Bool := noneAt K cStatics "sys.audit-hooks" && noneAt K cStatics "sys.dict" && noneAt K sysModules "_pylong" && (match K.lookup sysModules with
  | some ⟨_, _, .dict es _, _⟩ => es.toList.all fun e => strKey e.key
  | _ => false) && (match PySem.W.nsIn K mainGlobals "__builtins__" with
  | some (some (.ref bm)) => (match K.lookup bm with
    | some ob => decide (ob.cls = .type "module") && decide (ob.dict = some builtinsNs)
    | none => false)
  | _ => false)
def lstB (K : PySem.W.Frag) : Bool := K.all fun p => !decide (p.2.cls = .type "list") || p.2.slots.isEmpty
def noneB (K : PySem.W.Frag) (x : Str) : Bool := optV (PySem.W.nsIn K mainGlobals x) (some none)
def initB (K : PySem.W.Frag) (c : Value) (b : EvT.Bk) : Bool := match PySem.W.findCls K c (.type "type") "__init__" with
  | some (.val v) => decide (v = .builtin b.initId)
  | _ => false
def baseB (K : PySem.W.Frag) (b : EvT.Bk) (x : Str) : Bool := (decide (x = Str.ofString b.name) && noneB K x && initB K (.type b.name) b) || (match PySem.W.nsIn K mainGlobals x with
  | some (some (.ref S)) => PySem.W.readsIn K S (.type "type") && optV (PySem.W.specialIn K (.ref S) "__getattribute__") (some (some (.builtin "type.__getattribute__"))) && initB K (.ref S) b
  | _ => false)
def extB (K : PySem.W.Frag) (C : Addr) (b : EvT.Bk) : Bool := (match K.lookup C with
  | some ⟨.type "type", _, .cls cd, sl⟩ => (match cd.mro, sl.toList with
    | .ref C' :: bm, [_, _, _, _, some (.builtin n), _] => decide (C' = C) && decide (n = b.newId) && !cd.hasDel && cd.hasDict && decide (EvT.off bm = b.tail)
    | _, _ => false)
  | _ => false) && optV (PySem.W.findIn K (.ref C) "__setattr__") (some (some (.builtin "object.__setattr__"))) && decide (PySem.W.subIn K (.ref C) (.type "BaseException") = some true) && decide (PySem.W.typeIn K (.ref C) = some (.type "type")) && PySem.W.keepIn K (.ref C)
def locN (sc : Scope) (x : Str) : Bool := decide (sc.names.lookup x = some .local) && !(x == ("__debug__" : Str)) && !(x == ("__classdict__" : Str))
def xbodyB (K : PySem.W.Frag) (b : EvT.Bk) (f : Str) (N : List Str) (sc : Scope) (body : List Stmt) : Bool := match body with
  | [.Expr (.Call (.Attribute (.Name bn _) m p2) [.Name sf _, .Constant (.str _) _ _] [] p5) _, .Assign [.Attribute (.Name sf2 _) f2 _] (.Name vl _) _] =>
    decide (m = ("__init__" : Str)) && decide (sf2 = sf) && decide (f2 = f) && decide (N = [sf, vl]) && (p2.endLine == p5.line) && locN sc sf && locN sc vl && decide (sc.names.lookup bn = some .globalImplicit) && !(bn == ("__debug__" : Str)) && baseB K b bn
  | _ => false
def initBody (K : PySem.W.Frag) (a : Addr) : Option (Scope × List Stmt) := match K.lookup a with
  | some ⟨_, _, .func fd, _⟩ => (match fd.body with
    | .stmts body => some (fd.scope, body)
    | _ => none)
  | _ => none
def xb2 (K : PySem.W.Frag) (b : EvT.Bk) (f : Str) (N : List Str) : Option (Scope × List Stmt) → Bool
  | some (sc, body) => xbodyB K b f N sc body
  | none => false
def xmB (K : PySem.W.Frag) (T : Tb) (a : Addr) (i : ClI) : Bool := match i.flds, T.fns[i.init]? with
  | [k], some j => [EvT.Bk.ve, .ae, .le].any (fun b => extB K a b && xb2 K b (an T k) j.names (initBody K (fadr K T j.loc))) && optV (PySem.W.findIn K (.ref a) (an T k)) (some none) && optV (PySem.W.findIn K (.ref a) "__init__") (some (some (.ref (fadr K T j.loc)))) &&
      decide (PySem.W.typeIn K (.ref (fadr K T j.loc)) = some (.type "function")) && fnB K T 0 j && decide (j.np = 2) && j.dfl.isEmpty
  | [], _ => true
  | _, _ => false
def xcB (K : PySem.W.Frag) (T : Tb) (i : ClI) : Bool :=
  let a := gadr K i.name
  xmB K T a i && xfB K a && optV (PySem.W.findIn K (.ref a) "__class__") (some (some (.builtin "object.__class__"))) && decide (PySem.W.mroIn K a (.type "object") = some true) && (PySem.W.clsIn K a).isSome &&
      (List.range T.cls.length).all (fun c' => match T.cls[c']? with
        | some i' => !i'.isexc || decide (PySem.W.exmOne K (.ref a) (.ref (caK K T c')) = some (i.mro.contains c'))
        | none => true)
def allB (K : PySem.W.Frag) (T : Tb) (fuel : Nat) : Bool :=
  decide (T.ats.take DUN.length = DUN) && isiB K T &&
  optV (PySem.W.specialIn K (.builtin "object.__class__") "__get__") (some (some (.builtin "getset_descriptor.__get__"))) && decide (PySem.W.takesIn K (.builtin "object.__class__") = some true) &&
  T.cls.all (fun i => if i.isexc then xcB K T i else clsB K T i) && injB K T && globB K T && T.cls.all (fun i => glbB K i.name (gadr K i.name)) && BLT.all (fun x => noneAt K mainGlobals x) && seerB K && lstB K &&
  T.fns.all (fun i => !i.ok || fnB K T fuel i) && T.cls.all (fun k => !k.isval || match T.fns[k.init]? with
    | some i => decide (0 < i.np)
    | none => true)
theorem ns_here {K : PySem.W.Frag} {h : Heap} {a : Addr} {m : Str → Option Value} {x : Str} {v : Option Value} (X : K.In h) (G : h.Ns a m) (e : PySem.W.nsIn K a x = some v) : m x = v := by
  obtain ⟨ob, ents, ep, hob, hdat, _, look⟩ := G
  unfold PySem.W.nsIn at e
  cases hk : K.lookup a with
  | none => rw [hk] at e; cases e
  | some o2 =>
    have z := X a o2 hk
    rw [hob] at z
    cases z
    obtain ⟨c1, c2, c3, c4⟩ := ob
    have hdat : c3 = .dict ents ep := hdat
    subst hdat
    rw [hk] at e
    rw [← look x]
    unfold nsFind findBy
    rw [← Array.find?_toList]
    have e : (match ents.toList.find? (·.key.isStr x) with
      | some e => some (some e.val)
      | none => if ents.toList.any (·.refKey) then none else some none) = some v := e
    cases hq : ents.toList.find? (·.key.isStr x) with
    | some en =>
      rw [hq] at e
      cases e
      rfl
    | none =>
      rw [hq] at e
      have e : (if ents.toList.any (·.refKey) then none else some none) = some v := e
      split at e
      · cases e
      · cases e; rfl
theorem optV_eq {a b : Option (Option Value)} (h : optV a b = true) : a = b := of_decide_eq_true h
theorem noSeer_of {K : PySem.W.Frag} {mg : Str → Option Value} {h : Heap} (M : Mod K mg h) (b : seerB K = true) : h.NoSeer := by
  unfold seerB noneAt at b
  simp only [Bool.and_eq_true] at b
  obtain ⟨⟨⟨⟨b1, b2⟩, b3⟩, b4⟩, b5⟩ := b
  refine ⟨?_, ?_, M.blt, ?_⟩
  · obtain ⟨mc, n1, _⟩ := M.nolimit
    exact ⟨mc, n1, ns_here M.kin n1 (optV_eq b1), ns_here M.kin n1 (optV_eq b2)⟩
  · split at b4
    · rename_i c1 c2 es ep c4 hk
      have hn : h.Ns sysModules (nsFind es) := ⟨_, es, ep, M.kin _ _ hk, rfl, (fun e he => by
        have z := List.all_eq_true.mp b4 e (Array.mem_toList_iff.mpr he)
        cases q : e.key with
        | str n t => exact ⟨n, t, rfl⟩
        | _ => rw [q] at z; cases z), fun _ => rfl⟩
      exact ⟨_, hn, ns_here M.kin hn (optV_eq b3)⟩
    · cases b4
  · split at b5
    · rename_i bm hb
      split at b5
      · rename_i ob hk
        rw [Bool.and_eq_true] at b5
        exact ⟨mg, bm, ob, M.glob, ns_here M.kin M.glob hb, M.kin _ _ hk, of_decide_eq_true b5.1, of_decide_eq_true b5.2⟩
      · cases b5
    · cases b5
section
variable {W : Wd}
theorem ca_eq (c : Nat) : W.ca c = caK W.K W.T c := rfl
theorem ty_eq (t : Ty) : tyV W t = tyK W.K W.T t := by cases t <;> rfl
theorem kd_eq (k : Kd) : kdV W k = kdK W.K W.T k := by cases k <;> rfl
theorem ty_mem {T : Tb} : ∀ {t : Ty}, tyIn T t = true → t ∈ tysOf T
  | .non, _ => by simp [tysOf]
  | .bl, _ => by simp [tysOf]
  | .int, _ => by simp [tysOf]
  | .str, _ => by simp [tysOf]
  | .lst, _ => by simp [tysOf]
  | .tup, _ => by simp [tysOf]
  | .ins c, h => by
    have hc : c < T.cls.length := by
      rcases Nat.lt_or_ge c T.cls.length with z | z
      · exact z
      · have h : (T.cls[c]?).isSome = true := h
        rw [List.getElem?_eq_none_iff.mpr z] at h; cases h
    simp [tysOf, hc]
theorem kd_mem {T : Tb} : ∀ {k : Kd}, kdIn T k = true → k ∈ kdsOf T
  | .int, _ => by simp [kdsOf]
  | .str, _ => by simp [kdsOf]
  | .bool, _ => by simp [kdsOf]
  | .list, _ => by simp [kdsOf]
  | .tuple, _ => by simp [kdsOf]
  | .cls c, h => by
    have hc : c < T.cls.length := by
      rcases Nat.lt_or_ge c T.cls.length with z | z
      · exact z
      · have h : (T.cls[c]?).isSome = true := h
        rw [List.getElem?_eq_none_iff.mpr z] at h; cases h
    simp [kdsOf, hc]
theorem glb_ok (M : Mod W.K W.mg W.base) {x : Str} {a : Addr} (h : glbB W.K x a = true) : W.mg x = some (.ref a) ∧ PySem.W.keepIn W.K (.ref a) = true := by
  unfold glbB at h
  rw [Bool.and_eq_true] at h
  exact ⟨ns_here M.kin M.glob (optV_eq h.1), h.2⟩
theorem ext_f {K : PySem.W.Frag} {C : Addr} {b : EvT.Bk} (h : extB K C b = true) : EvT.ExT K C b := by
  unfold extB at h
  simp only [Bool.and_eq_true] at h
  obtain ⟨⟨⟨⟨h1, h2⟩, h3⟩, h4⟩, h5⟩ := h
  refine ⟨?_, optV_eq h2, of_decide_eq_true h3, of_decide_eq_true h4, h5⟩
  split at h1
  · rename_i dd cd sl ho
    split at h1
    · rename_i C' bm k0 k1 k2 k3 nn k5 hm hs
      simp only [Bool.and_eq_true] at h1
      obtain ⟨⟨⟨⟨q1, q2⟩, q3⟩, q4⟩, q5⟩ := h1
      obtain rfl := of_decide_eq_true q1
      obtain rfl := of_decide_eq_true q2
      obtain ⟨nm, bs, mro, ns, qn, hd, sn, sub, ab, col, del⟩ := cd
      dsimp only at hm q3 q4
      have q3 : del = false := by simpa using q3
      subst hm q3 q4
      obtain ⟨l⟩ := sl
      have hs : l = _ := hs
      subst hs
      exact ⟨nm, qn, ns, bs, bm, sn, sub, ab, col, dd, k0, k1, k2, k3, k5, ho, of_decide_eq_true q5⟩
    · cases h1
  · cases h1
theorem init_f {K : PySem.W.Frag} {c : Value} {b : EvT.Bk} (h : initB K c b = true) : PySem.W.findCls K c (.type "type") "__init__" = some (.val (.builtin b.initId)) := by
  unfold initB at h
  split at h
  · rename_i v hv
    rw [hv, of_decide_eq_true h]
  · cases h
theorem base_f (M : Mod W.K W.mg W.base) {b : EvT.Bk} {x : Str} (h : baseB W.K b x = true) : EvT.BaseN W.K W.mg b x := by
  unfold baseB at h
  rw [Bool.or_eq_true] at h
  rcases h with h | h
  · simp only [Bool.and_eq_true] at h
    exact .inl ⟨of_decide_eq_true h.1.1, ns_here M.kin M.glob (optV_eq h.1.2), init_f h.2⟩
  · split at h
    · rename_i S hS
      simp only [Bool.and_eq_true] at h
      exact .inr ⟨S, ns_here M.kin M.glob hS, h.1.1, optV_eq h.1.2, init_f h.2⟩
    · cases h
theorem locN_f {sc : Scope} {x : Str} (h : locN sc x = true) : sc.names.lookup x = some .local ∧ (x == ("__debug__" : Str)) = false ∧ (x == ("__classdict__" : Str)) = false := by
  unfold locN at h
  simp only [Bool.and_eq_true] at h
  exact ⟨of_decide_eq_true h.1.1, by simpa using h.1.2, by simpa using h.2⟩
theorem xbody_f (M : Mod W.K W.mg W.base) {b : EvT.Bk} {f : Str} {N : List Str} {sc : Scope} {body : List Stmt} (h : xbodyB W.K b f N sc body = true) : XBody W.K W.mg b f N sc body := by
  unfold xbodyB at h
  split at h
  · rename_i bn p1 m p2 sf p3 txt j p4 p5 p6 sf2 p7 f2 p8 vl p9 p10
    simp only [Bool.and_eq_true] at h
    obtain ⟨⟨⟨⟨⟨⟨⟨⟨⟨h1, h2⟩, h3⟩, h4⟩, h5⟩, h6⟩, h7⟩, h8⟩, h9⟩, h10⟩ := h
    cases of_decide_eq_true h1
    cases of_decide_eq_true h2
    cases of_decide_eq_true h3
    obtain ⟨a1, a2, a3⟩ := locN_f h6
    obtain ⟨b1, b2, b3⟩ := locN_f h7
    exact ⟨_, _, _, _, _, _, _, _, _, _, _, _, _, _, _, of_decide_eq_true h4, rfl, h5, a1, b1, of_decide_eq_true h8, by simpa using h9, a2, a3, b2, b3, base_f M h10⟩
  · cases h
theorem xm_f (M : Mod W.K W.mg W.base) {a : Addr} {i : ClI} (h : xmB W.K W.T a i = true) (hne : i.flds ≠ []) : ∃ (b : EvT.Bk) (k : Nat) (j : FnI) (body : List Stmt) (scope : Scope), EvT.ExT W.K a b ∧ i.flds = [k] ∧ PySem.W.findIn W.K (.ref a) (an W.T k) = some none ∧ W.T.fns[i.init]? = some j ∧
    PySem.W.findIn W.K (.ref a) "__init__" = some (some (.ref (fadr W.K W.T j.loc))) ∧ PySem.W.typeIn W.K (.ref (fadr W.K W.T j.loc)) = some (.type "function") ∧ FnT W j body scope ∧ j.np = 2 ∧ j.dfl = [] ∧ XBody W.K W.mg b (an W.T k) j.names scope body := by
  unfold xmB at h
  split at h
  · rename_i k j hfl hj
    simp only [Bool.and_eq_true] at h
    obtain ⟨⟨⟨⟨⟨⟨h1, h2⟩, h3⟩, h4⟩, h5⟩, h6⟩, h7⟩ := h
    obtain ⟨b, _, hb⟩ := List.any_eq_true.mp h1
    rw [Bool.and_eq_true] at hb
    obtain ⟨body, scope, ft, _⟩ := fn_t (W := W) (k := 0) h5
    have hbody : initBody W.K (fadr W.K W.T j.loc) = some (scope, body) := by
      obtain ⟨x, qual, params, dvs, fd, F, _⟩ := ft.ex
      obtain ⟨oc, od, dV, kV, doc, pm, an', cdv, ct, osl, rfl, lk, _⟩ := F.ex
      unfold initBody
      rw [lk]
      try rfl
    have hb2 := hb.2
    rw [hbody] at hb2
    exact ⟨b, k, j, body, scope, ext_f hb.1, hfl, optV_eq h2, hj, optV_eq h3, of_decide_eq_true h4, ft, of_decide_eq_true h6, List.isEmpty_iff.mp h7, xbody_f M hb2⟩
  · rename_i hfl
    exact absurd hfl hne
  · cases h
theorem xc_f (M : Mod W.K W.mg W.base) {c : Nat} {i : ClI} (hi : W.T.cls[c]? = some i) (h : xcB W.K W.T i = true) : ExcF W c i := by
  have ea : W.ca c = gadr W.K i.name := by unfold Wd.ca; rw [hi]
  unfold xcB at h
  dsimp only at h
  simp only [Bool.and_eq_true] at h
  obtain ⟨⟨⟨⟨⟨h1, h8⟩, h9⟩, h10⟩, h11⟩, h12⟩ := h
  refine ⟨fun hne => by rw [ea]; exact xm_f M h1 hne, by rw [ea]; exact xfB_ok h8, by rw [ea]; exact optV_eq h9, by rw [ea]; exact of_decide_eq_true h10, by rw [ea]; exact h11, fun c' i' hi' hx' => ?_⟩
  have l2 : c' < W.T.cls.length := (List.getElem?_eq_some_iff.mp hi').1
  have z := List.all_eq_true.mp h12 c' (by simp [l2])
  rw [hi'] at z
  simp only [hx'] at z
  rw [ea, ca_eq c']
  unfold isSubc
  rw [hi]
  exact of_decide_eq_true (by simpa using z)
theorem all_ok {fuel : Nat} (M : Mod W.K W.mg W.base) (tr : W.P.given.tree = none) (h : allB W.K W.T fuel = true) : Txt W ∧ Defs W := by
  unfold allB at h
  simp only [Bool.and_eq_true] at h
  obtain ⟨⟨⟨⟨⟨⟨⟨⟨⟨⟨⟨⟨h1, h2⟩, h3⟩, h4⟩, h5⟩, h6⟩, h7⟩, h8⟩, h9⟩, h10⟩, h11⟩, h12⟩, h13⟩ := h
  refine ⟨⟨fun t k ht hk => ?_, optV_eq h3, of_decide_eq_true h4, fun j x hx => ?_, fun c i hc hx => ?_, fun c i hc hx => ?_, fun c c' i i' hc hc' e => ?_, fun f i x hf hl => ?_, fun c i hc => ?_, fun x hx => ?_, noSeer_of M h10, tr⟩, ⟨fun f i hf ho => ?_, fun c k i hc hv hf => ?_⟩⟩
  · have z := List.all_eq_true.mp h2 t (ty_mem ht)
    rw [ht] at z
    have z : ((kdsOf W.T).all fun k => decide (PySem.W.kitOne W.K (tyK W.K W.T t) (kdK W.K W.T k) = some (isTy W.T t k))) = true := z
    have z := List.all_eq_true.mp z k (kd_mem hk)
    rw [ty_eq, kd_eq]
    exact of_decide_eq_true z
  · have z := of_decide_eq_true h1
    have e : (W.T.ats.take DUN.length)[j]? = some x := by rw [z]; exact hx
    have hj : j < DUN.length := (List.getElem?_eq_some_iff.mp hx).1
    rw [List.getElem?_take, if_pos hj] at e
    unfold an
    rw [List.getD_eq_getElem?_getD, e]; rfl
  · have z := List.all_eq_true.mp h5 i (List.mem_of_getElem? hc)
    rw [hx] at z
    exact cls_f hc z
  · have z := List.all_eq_true.mp h5 i (List.mem_of_getElem? hc)
    rw [hx] at z
    exact xc_f M hc z
  · have l1 : c < W.T.cls.length := (List.getElem?_eq_some_iff.mp hc).1
    have l2 : c' < W.T.cls.length := (List.getElem?_eq_some_iff.mp hc').1
    have z := List.all_eq_true.mp (List.all_eq_true.mp h6 c (by simp [l1])) c' (by simp [l2])
    rw [← ca_eq, ← ca_eq, e] at z
    simpa using z
  · have z := List.all_eq_true.mp h7 i (List.mem_of_getElem? hf)
    rw [hl] at z ⊢
    exact glb_ok M z
  · have z := List.all_eq_true.mp h8 i (List.mem_of_getElem? hc)
    have e : W.ca c = gadr W.K i.name := by unfold Wd.ca; rw [hc]
    rw [e]
    exact glb_ok M z
  · exact ns_here M.kin M.glob (optV_eq (List.all_eq_true.mp h9 x hx))
  · have z := List.all_eq_true.mp h12 i (List.mem_of_getElem? hf)
    rw [ho] at z
    obtain ⟨body, scope, t, b, _⟩ := fn_t (W := W) (k := fuel) (i := i) (by simpa using z)
    exact ⟨body, scope, t, body_ok fuel (b ho)⟩
  · have z := List.all_eq_true.mp h13 k (List.mem_of_getElem? hc)
    rw [hv, hf] at z
    simpa using z
end
end Ev

set_option maxRecDepth 100000
set_option maxHeartbeats 4000000
namespace Ev
open PySem PySem.Spec PyProof.Rows L2
def adrs (g : Addr → Option Obj) (n : Nat) : List Addr := cStatics :: sysModules :: He.asG g n
def seen (T : Tb) (n fuel : Nat) (g : Addr → Option Obj) : Bool := allB (He.frG g (adrs g n)) T fuel
def hookT (T : Tb) (n fuel : Nat) : PySem.W.Hook where
  α := Bool
  obs := fun s => seen T n fuel s.heap.get?
  val := fun _ => true
  says := fun _ h => ∃ K : PySem.W.Frag, K.In h ∧ allB K T fuel = true
  of := fun _ _ e => ⟨_, He.frG_in, e⟩
  keeps := fun _ _ _ ⟨K, hK, c⟩ k => ⟨K, PySem.W.Frag.In.keeps hK k, c⟩
def obT (T : Tb) (n fuel : Nat) (s : PySem.W.SharedT) : Bool := seen T n fuel (HandSHeadRun.getT s)
theorem obT_eq (T : Tb) (n fuel : Nat) (s : PySem.W.SharedT) : obT T n fuel s = (hookT T n fuel).obs s.abs := by
  have e : HandSHeadRun.getT s = s.abs.heap.get? := funext (HandSHeadRun.getT_eq s)
  show seen T n fuel (HandSHeadRun.getT s) = seen T n fuel s.abs.heap.get?
  rw [e]
theorem mem_look {β : Type} {a : Addr} {o : β} : ∀ {l : List (Addr × β)}, l.lookup a = some o → (a, o) ∈ l
  | [], h => by cases h
  | (b, u) :: l, h => by
    rw [List.lookup_cons] at h
    split at h
    · rename_i hk
      cases h
      rw [beq_iff_eq.mp hk]
      exact List.mem_cons_self
    · exact List.mem_cons_of_mem _ (mem_look h)
theorem sqX_of {K : PySem.W.Frag} {H : Hp} {a : Addr} {vs : List V} (hb : lstB K = true) (h : SqL K H a vs) : SqX K H a vs := by
  rcases h with h | ⟨o, its, n, h1, h2, h3, h4, h5, h6⟩
  · exact .inl h
  · refine .inr ⟨its, n, ?_, h5, h6⟩
    have z := List.all_eq_true.mp hb (a, o) (mem_look h1)
    obtain ⟨c1, c2, c3, c4⟩ := o
    have h2 : c1 = .type "list" := h2
    have h3 : c2 = none := h3
    have h4 : c3 = .seq its n := h4
    subst h2 h3 h4
    have z : (!decide (Value.type "list" = .type "list") || c4.isEmpty) = true := z
    rw [decide_eq_true rfl] at z
    have z : c4.isEmpty = true := z
    have e : c4 = #[] := by simpa using z
    rw [h1, e]
theorem ints_rep {W : Wd} {e : Em} : ∀ ns : List Int, RepL W e (ns.map D.int) (ns.map V.int)
  | [] => rfl
  | n :: ns => .cons rfl (ints_rep ns)
def spLaw (K : PySem.W.Frag) (most : Nat) : Sp := fun vs H Q _ => ∃ (a : Addr) (ns : List Int), vs = [.ref a] ∧ ns.length ≤ most ∧ (∀ z ∈ ns, Builtin.Int.intBits z ≤ 1048576) ∧ SqX K H a (ns.map V.int) ∧ ∀ H', Q (.bl true) H'
def LawTrue (T : Tb) (n fi : Nat) (most : Nat) : Prop := ∀ ns : List Int, ns.length ≤ most → (∀ z ∈ ns, Builtin.Int.intBits z ≤ 1048576) → ∃ m, callT T (lev T false n) fi [.lst (ns.map D.int)] [] = .ok (.bl true) m
theorem topcall {P : Program} {w : World} {K : PySem.W.Frag} {mg mb : Str → Option Value} {most k : Nat} {fa a : Addr} {fd : FuncData} {x : Str} {s₁ : Shared} {vs : List Value} {ns : List Int}
    (KX : K.In s₁.heap) (lb : lstB K = true) (gl : s₁.heap.Ns mainGlobals mg) (bl : s₁.heap.Ns builtinsNs mb) (bb : ∀ x : Str, x ≠ "__name__" → mb x = bootBuiltins x) (nl : s₁.heap.NoLimit) (ge : s₁.gens = #[])
    (ob : s₁.heap.get? a = some { cls := .type "list", data := .seq vs.toArray }) (hia : IntsAre vs ns) (short : ns.length ≤ sizeLine) (room : L2H.RoomH k callerA)
    (F : ∀ base : Heap, K.In base → base.Ns mainGlobals mg → FnG false P w K mg base (L2N.CX P w) k fa fd [x] (spLaw K most)) (bind : ∀ (s : Shared) (u : Value), BindsTo s fd ⟨[u], []⟩ [(x, u)]) (hm : ns.length ≤ most) (bits : ∀ z ∈ ns, Builtin.Int.intBits z ≤ 1048576) :
    codeAny (model P w) callerA (.call (.ref fa) ⟨[.ref a], []⟩) (fun r s' => r = .ok (.ret (.bool true)) ∧ OldK s₁.heap s'.heap ∧ s'.os = s₁.os ∧ AllBare s'.gens) s₁ := by
  have rel := vals_ints hia
  have len := hia.length
  obtain ⟨H, hA, hO, hK, sq, ok⟩ : ∃ H : Hp, (∀ b, b ≠ a → H b = none) ∧ (∀ u, H a = some u → ∃ o us, u = .frz o (.lst us)) ∧ (∀ u, H a = some u → K.lookup a = none) ∧ SqX K H a (ns.map V.int) ∧ HOk P w H s₁.heap := by
    cases hk : K.lookup a with
    | some o =>
      have e := KX a o hk
      rw [ob] at e
      cases e
      refine ⟨fun _ => none, fun _ _ => rfl, fun _ z => (nomatch z), fun _ z => (nomatch z), sqX_of lb (.inr ⟨_, vs.toArray, _, hk, rfl, rfl, rfl, ?_, by simpa using rel⟩), fun _ _ z => (nomatch z)⟩
      rw [List.size_toArray, len]; exact short
    | none =>
      refine ⟨fun b => if b = a then some (.frz { cls := .type "list", data := .seq vs.toArray } (.lst (ns.map V.int))) else none, fun b hb => if_neg hb, fun u hu => ?_, fun _ _ => rfl, .inl (.inr ⟨_, if_pos rfl⟩), fun b u hu => ?_⟩
      · have hu := (if_pos (rfl : a = a)).symm.trans hu
        cases hu
        exact ⟨_, _, rfl⟩
      · by_cases hb : b = a
        · subst hb
          have hu := (if_pos (rfl : b = b)).symm.trans hu
          cases hu
          exact ⟨ob, by rw [List.length_map]; exact short, vs, _, rel, ob⟩
        · have hu := (if_neg hb).symm.trans hu
          cases hu
  have keep : ∀ {b : Addr} {o : Obj}, s₁.heap.get? b = some o → (b ≠ a ∨ H a = none) → (hidT s₁.heap H).get? b = some o := fun {b o} e z => hidT_get e (by
    rcases z with z | z
    · exact hA b z
    · by_cases hb : b = a
      · rw [hb]; exact z
      · exact hA b hb)
  have isA : ∀ {b : Addr} {m : Str → Option Value}, s₁.heap.Ns b m → b ≠ a := fun {b m} ⟨o, es, ep, e, d, _⟩ z => by
    rw [z, ob] at e
    cases e
    cases d
  have nsK : ∀ {b : Addr} {m : Str → Option Value}, s₁.heap.Ns b m → (hidT s₁.heap H).Ns b m := fun {b m} z => by
    have hne := isA z
    obtain ⟨o, es, ep, e, r⟩ := z
    exact ⟨o, es, ep, keep e (.inl hne), r⟩
  have kin : K.In (hidT s₁.heap H) := fun b o e => keep (KX b o e) (by
    by_cases hb : b = a
    · refine .inr ?_
      cases q : H a with
      | none => rfl
      | some u => rw [hb, hK u q] at e; cases e
    · exact .inl hb)
  have md : Mod K mg (hidT s₁.heap H) := by
    obtain ⟨mc, n1, n2⟩ := nl
    exact ⟨kin, nsK gl, ⟨mb, nsK bl, bb⟩, mc, nsK n1, n2⟩
  have e0 : Env0 P w K mg (hidT s₁.heap H) callerA [] s₁ H := by
    refine ⟨rfl, md, fun b o e => of_hidT e, Nat.le_of_eq (hidT_size _ _), trivial, fun b hb => ?_, ok, .of_eq ge⟩
    exact absurd (show b ∈ ([] : List Addr) from hb) (by simp)
  have run := (F _ kin (nsK gl)).run callerA [] s₁ H ⟨[.ref a], []⟩ [.ref a] [.ref a] (fun v _ => v = .bl true) (fun _ _ _ => False) rfl room (.inl rfl) e0 (bind s₁ (.ref a)) (.cons rfl .nil) ⟨a, ns, rfl, hm, bits, sq, fun _ => rfl⟩
  refine codeAny_mono run fun r s' h => ?_
  match r, h with
  | .error e, ⟨_, _, _, _, _, _, _, _, _, _, _, _, no⟩ => exact no.elim
  | .ok .next, h => exact h.elim
  | .ok .brk, h => exact h.elim
  | .ok .cont, h => exact h.elim
  | .ok (.ret u), ⟨v, H', os, bare, un, ok', rv, q⟩ =>
    have q : v = .bl true := q
    subst q
    obtain rfl : u = Value.bool true := rv
    refine ⟨rfl, OldK.of_keep fun b o e => ?_, os, bare⟩
    by_cases hn : H b = none
    · exact un.keep b o e hn (fun z => absurd (show b ∈ ([] : List Addr) from z) (by simp)) (by simp)
    · have hb : b = a := Classical.byContradiction fun z => hn (hA b z)
      subst hb
      cases q : H b with
      | none => exact absurd q hn
      | some u =>
        obtain ⟨o2, us, rfl⟩ := hO u q
        have z2 := un.frzs b o2 _ q
        obtain ⟨e1, _⟩ := ok b _ q
        obtain ⟨e2, _⟩ := ok' b _ z2
        rw [e] at e1
        cases e1
        exact e2
theorem walk_ev {l : PySem.W.OpenLaw} {most : Nat} {q : Program} {loose : List Str} {XP : (Str → Option Value) → Heap → Prop} {d : DefRec} {T : Tb} {w0 fuel n fi : Nat} {i : FnI} {x : Str}
    (hn : l.most = some most) (hn2 : most ≤ sizeLine) (hdf : d.params.defaults = []) (tr : l.prog.given.tree = none) (hi : T.fns[fi]? = some i) (ok : i.ok = true) (hl : i.loc = (d.name, none)) (hx : i.names.take i.np = [x]) (hnp : i.np = 1) (hd : i.dfl = [])
    (hr : L2H.RoomH (n + 35) callerA) (law : LawTrue T n fi most) :
    PySem.W.WalkO q loose XP (hookT T w0 fuel).says l.row.toRowW d [] (fun f vs => PySem.call f vs) := by
  refine Att.attach_callB hn hdf fun w s₀ s₁ mg mb fa o pm cd doc a vs ns G Y ho hd' hcd hmg hobj hints hlen hbits hg => ?_
  obtain ⟨K, KX, hB⟩ := Y
  have hB0 := hB
  unfold allB at hB0
  simp only [Bool.and_eq_true] at hB0
  have hglob := hB0.1.1.1.1.1.1.2
  have hlst := hB0.1.1.2
  have hfns := hB0.1.2
  have ef : fadr K T i.loc = fa := by
    have z := List.all_eq_true.mp hglob i (List.mem_of_getElem? hi)
    rw [hl] at z ⊢
    have z : glbB K d.name (fadr K T (d.name, none)) = true := z
    unfold glbB at z
    rw [Bool.and_eq_true] at z
    have e := ns_here KX G.T.g (optV_eq z.1)
    rw [hmg] at e
    cases e; rfl
  have hfn : fnB K T fuel i = true := by
    have z := List.all_eq_true.mp hfns i (List.mem_of_getElem? hi)
    rw [ok] at z
    simpa using z
  obtain ⟨body, scope, t0, b0, a0⟩ := fn_t (W := ⟨l.prog, w, K, mg, s₁.heap, T⟩) (k := fuel) (i := i) hfn
  obtain ⟨xn, qual, params, dvs, fd, F, bi⟩ := t0.ex
  refine topcall (K := K) (k := n + 35) (fd := fd) (x := x) (most := most) KX hlst G.T.g G.T.b G.T.builtins G.T.nolimit hg hobj hints (Nat.le_trans hlen hn2) hr (fun base hK hns => ⟨fun _ _ _ _ ⟨_, _, h, _⟩ => by rw [h]; rfl, fun A outer s H args us vs Q E hgu hr hlu he hb hv hs => ?_⟩) (fun s u => ?_) hlen hbits
  · -- the promise, over the base
    obtain ⟨tx, df⟩ := all_ok (W := ⟨l.prog, w, K, mg, base, T⟩) he.mod tr hB
    have fo := fnOk_fd (W := ⟨l.prog, w, K, mg, base, T⟩) (n := n) (i := i) tx (calls_ok tx df n false) t0.sc t0.np (body_ok fuel (b0 ok)) F
    have fo2 := fo.run A outer s H args us vs Q E hgu hr hlu he
    rw [show fadr _ _ i.loc = fa from ef, hx, hnp] at fo2
    refine fo2 hb hv ?_
    obtain ⟨a2, ms, rfl, h1, h2, h3, h4⟩ := hs
    obtain ⟨m, hm⟩ := law ms h1 h2
    have hm2 : runF (lev T false n) i [.lst (ms.map D.int)] [] = .ok (.bl true) m := by
      unfold callT at hm
      rw [hi] at hm
      simpa [ok] using hm
    have rp : Rep ⟨l.prog, w, K, mg, base, T⟩ ⟨H, fun _ => none⟩ (.lst (ms.map D.int)) (.ref a2) := ⟨a2, _, rfl, h3, ints_rep ms⟩
    refine ⟨⟨H, fun _ => none⟩, [], [.lst (ms.map D.int)], rfl, ⟨fun _ _ h => h, fun i o h => (nomatch h), fun _ _ => rfl, fun _ _ _ h _ => (nomatch h), fun _ _ h => (nomatch h)⟩, .cons rp .nil, ?_⟩
    show Aft _ _ _ (runF (lev T false n) i _ _) _ _
    rw [hm2]
    intro e' H' _ _ v hv
    have hv : v = .bl true := hv
    rw [hv]
    exact h4 H'
  · obtain ⟨oc, od, _, _, _, _, _, _, _, osl, _, lk, _⟩ := F.ex
    have z := a0 hd oc od fd osl lk [u] (by rw [hx]; rfl)
    rw [hx] at z
    exact .of_eq z
end Ev

set_option maxRecDepth 100000
namespace Ev
open PySem
def outF : SR → Res D
  | .nx _ m => .ok .non m
  | .ret d _ m => .ok d m
  | .exc c fs _ m => .exc c fs m
  | _ => .stuck
@[simp] theorem outF_nx (s m) : outF (.nx s m) = .ok .non m := rfl
@[simp] theorem outF_ret (d s m) : outF (.ret d s m) = .ok d m := rfl
@[simp] theorem outF_exc (c fs s m) : outF (.exc c fs s m) = .exc c fs m := rfl
def outI (c : Nat) (ks : List Nat) : SR → Res D
  | .nx σ m => selfOut c ks σ m
  | .exc c' fs σ m => excOut c σ c' fs m
  | _ => .stuck
@[simp] theorem outI_nx (c ks s m) : outI c ks (.nx s m) = selfOut c ks s m := rfl
theorem Res.bind_left {α β : Type} {r r' : Res α} {f : α → Mu → Res β} (h : r = r') : r.bind f = r'.bind f := by rw [h]
theorem Res.st_left {α : Type} {r r' : Res α} {s : Sg} {f : α → Mu → SR} (h : r = r') : r.st s f = r'.st s f := by rw [h]
theorem SR.seq_left {r r' : SR} {f : Sg → Mu → SR} (h : r = r') : r.seq f = r'.seq f := by rw [h]
noncomputable def turnF (C : Cl) (t : Tg) (b : Ss) (x : D) (σ : Sg) (m : Mu) : SR := match bindT t x σ with
  | some σ' => exSs C b σ' m
  | none => .stuck
theorem xs_for {C : Cl} {t : Tg} {it : It} {b : Ss} {σ : Sg} {μ : Mu} : exS C (.for_ t it b) σ μ = (evIt C false it σ μ).st σ fun xs m => forL (turnF C t b) xs σ m := by rw [exS]; rfl
noncomputable def compF (C : Cl) (elt : E) (t : Tg) (cond : To) (vs : List Nat) (σ : Sg) (x : D) (m : Mu) : Res (Option D) := match bindT t x (wipeD σ vs) with
  | some σ' => (evTo C cond σ' m).bind fun b m => if b then (evE C elt σ' m).bind fun d m => if nbD d then .ok (some d) m else .stuck else .ok none m
  | none => .stuck
theorem xe_comp {C : Cl} {elt : E} {t : Tg} {it : It} {cond : To} {vs : List Nat} {σ : Sg} {μ : Mu} : evE C (.comp elt t it cond vs) σ μ = (evIt C true it σ μ).bind fun xs m => if lim xs.length then
      (noExc (compL (compF C elt t cond vs σ) xs m)).bind fun ds m => .ok (.lst ds) m
    else .stuck := by rw [evE]; rfl
section
variable {C : Cl} {μ : Mu} {i j : Int} {x y d : D}
theorem b2_add : evB2 C .add (.int i) (.int j) μ = .ok (.int (i + j)) μ := rfl
theorem b2_sub : evB2 C .sub (.int i) (.int j) μ = .ok (.int (i - j)) μ := rfl
theorem b2_mul (h : mulOk i j = true) : evB2 C .mul (.int i) (.int j) μ = .ok (.int (i * j)) μ := if_pos h
theorem b2_div (h : j ≠ 0) : evB2 C .fdiv (.int i) (.int j) μ = .ok (.int (i.fdiv j)) μ := if_pos h
theorem b2_mod (h : j ≠ 0) : evB2 C .mod (.int i) (.int j) μ = .ok (.int (i.fmod j)) μ := if_pos h
theorem cm_lt : evCm C .lt (.int i) (.int j) μ = .ok (.bl (decide (i < j))) μ := rfl
theorem cm_le : evCm C .le (.int i) (.int j) μ = .ok (.bl (decide (i ≤ j))) μ := rfl
theorem cm_gt : evCm C .gt (.int i) (.int j) μ = .ok (.bl (decide (j < i))) μ := rfl
theorem cm_ge : evCm C .ge (.int i) (.int j) μ = .ok (.bl (decide (j ≤ i))) μ := rfl
theorem eq_flat (h : flat x = true) (g : flat y = true) (m : mix x y = false) : eqD C x y μ = .ok (feq x y) μ := by
  have e : eqOk C μ 7 x y := by
    cases x <;> first | exact Bool.noConfusion h | skip
    all_goals (cases y <;> first | exact Bool.noConfusion g | exact .inl ⟨rfl, rfl, m⟩)
  unfold eqD
  rw [if_pos e]
  congr 1
  cases x <;> first | exact Bool.noConfusion h | skip
  all_goals (cases y <;> first | exact Bool.noConfusion g | exact Bool.noConfusion m | (rw [Bool.eq_iff_iff]; simp [feq]))
theorem eq_int : eqD C (.int i) (.int j) μ = .ok (decide (i = j)) μ := by rw [eq_flat rfl rfl rfl]; congr 1
theorem cm_eqi : evCm C .eq (.int i) (.int j) μ = .ok (.bl (decide (i = j))) μ := by
  show resB (eqD C (.int i) (.int j) μ) = _
  rw [eq_int]; rfl
theorem cm_nei : evCm C .ne (.int i) (.int j) μ = .ok (.bl (!decide (i = j))) μ := by
  show resB ((eqD C (.int i) (.int j) μ).bind _) = _
  rw [eq_int]; rfl
theorem cm_eqb {a b : Bool} : evCm C .eq (.bl a) (.bl b) μ = .ok (.bl (a == b)) μ := by
  show resB (eqD C (.bl a) (.bl b) μ) = _
  rw [eq_flat rfl rfl rfl]; rfl
theorem cm_neb {a b : Bool} : evCm C .ne (.bl a) (.bl b) μ = .ok (.bl (a != b)) μ := by
  show resB ((eqD C (.bl a) (.bl b) μ).bind _) = _
  rw [eq_flat rfl rfl rfl]; rfl
theorem bl_len : evBl C .len [d] μ = evLen C d μ := rfl
theorem bl_absI : evBl C .abs [.int i] μ = .ok (.int (absI i)) μ := rfl
theorem bl_maxI : evBl C .max [.int i, .int j] μ = .ok (.int (if j > i then j else i)) μ := rfl
theorem bl_minI : evBl C .min [.int i, .int j] μ = .ok (.int (if j < i then j else i)) μ := rfl
theorem bl_intI : evBl C .int [.int i] μ = .ok (.int i) μ := rfl
theorem bl_intB {b : Bool} : evBl C .int [.bl b] μ = .ok (.int (if b then 1 else 0)) μ := rfl
theorem bl_boolB {b : Bool} : evBl C .bool [.bl b] μ = .ok (.bl b) μ := rfl
theorem bl_list : evBl C .list [d] μ = (match items μ d with
    | some xs => .ok (.lst xs) μ
    | none => .stuck) := rfl
theorem bl_tuple : evBl C .tuple [d] μ = (match items μ d with
    | some xs => .ok (.tup xs) μ
    | none => .stuck) := rfl
section
variable {b : Bool} {s : Str} {xs : List D} {c k : Nat}
theorem nb_non : nbD .non = true := rfl
theorem nb_bl : nbD (.bl b) = true := rfl
theorem nb_int : nbD (.int i) = true := rfl
theorem nb_str : nbD (.str s) = true := rfl
theorem nb_tup : nbD (.tup xs) = true := rfl
theorem nb_lst : nbD (.lst xs) = true := rfl
theorem nb_ins : nbD (.ins c xs) = true := rfl
theorem nb_obj : nbD (.obj k) = true := rfl
theorem nb_bor : nbD (.bor k xs) = false := rfl
theorem cl_ins : clsOf μ (.ins c xs) = some c := rfl
theorem ty_non : tyOf μ .non = some .non := rfl
theorem ty_bl : tyOf μ (.bl b) = some .bl := rfl
theorem ty_int : tyOf μ (.int i) = some .int := rfl
theorem ty_str : tyOf μ (.str s) = some .str := rfl
theorem ty_tup : tyOf μ (.tup xs) = some .tup := rfl
theorem ty_lst : tyOf μ (.lst xs) = some .lst := rfl
theorem ty_ins : tyOf μ (.ins c xs) = some (.ins c) := rfl
theorem it_lst : items μ (.lst xs) = some xs := rfl
theorem it_tup : items μ (.tup xs) = some xs := rfl
theorem it_bor : items μ (.bor k xs) = some xs := rfl
theorem bT_name {σ : Sg} : bindT (.name k) d σ = if nbD d then some (σ.set k (some (.val d))) else none := rfl
theorem bT_tup {ts : Tgs} {σ : Sg} : bindT (.tup ts) (.tup xs) σ = bindTs ts xs σ := rfl
theorem bT_lst {ts : Tgs} {σ : Sg} : bindT (.tup ts) (.lst xs) σ = bindTs ts xs σ := rfl
end
theorem tr_bl {b : Bool} : truth C (.bl b) μ = .ok b μ := rfl
theorem tr_int : truth C (.int i) μ = .ok (decide (i ≠ 0)) μ := rfl
theorem ng_int : evNeg C (.int i) μ = .ok (.int (-i)) μ := rfl
theorem tr_ins {c : Nat} {fs : List D} : truth C (.ins c fs) μ = (dcall C 11 (.ins c fs) [] μ).bind fun r m => (match r with
      | .bl b => .ok b m
      | _ => .stuck) := rfl
end
theorem whileN_mono {test : Sg → Mu → Res Bool} {body : Sg → Mu → SR} : ∀ (n : Nat) (σ : Sg) (μ : Mu), whileN test body n σ μ ≠ .stuck → ∀ k, whileN test body (n + k) σ μ = whileN test body n σ μ
  | 0, σ, μ, h, _ => absurd rfl h
  | n + 1, σ, μ, h, k => by
    rw [show n + 1 + k = (n + k) + 1 by omega]
    unfold whileN at h ⊢
    cases ht : test σ μ with
    | ok t m =>
      rw [ht] at h
      cases t with
      | false => rfl
      | true =>
        cases hb : body σ m with
        | nx σ' m' =>
          simp only [Res.st_ok, hb, if_true] at h ⊢
          exact whileN_mono n σ' m' h k
        | _ => simp only [Res.st_ok, hb, if_true]
    | exc c fs m => rfl
    | stuck => rw [ht] at h; exact absurd rfl h
theorem whileW_of {test : Sg → Mu → Res Bool} {body : Sg → Mu → SR} {n : Nat} {σ : Sg} {μ : Mu} {r : SR} (h : whileN test body n σ μ = r) (hr : r ≠ .stuck) : whileW test body σ μ = r := by
  have ex : ∃ n, whileN test body n σ μ ≠ .stuck := ⟨n, by rw [h]; exact hr⟩
  unfold whileW
  rw [dif_pos ex]
  have e1 := whileN_mono ex.choose σ μ ex.choose_spec n
  have e2 := whileN_mono n σ μ (by rw [h]; exact hr) ex.choose
  rw [Nat.add_comm] at e1
  rw [← e1, e2, h]
theorem whileW_step {test : Sg → Mu → Res Bool} {body : Sg → Mu → SR} {σ σ' : Sg} {μ m μ' : Mu} {r : SR} (ht : test σ μ = .ok true m) (hb : body σ m = .nx σ' μ') (h : whileW test body σ' μ' = r) (hr : r ≠ .stuck) : whileW test body σ μ = r := by
  have ex : ∃ n, whileN test body n σ' μ' = r := by
    unfold whileW at h
    split at h
    · rename_i hx; exact ⟨_, h⟩
    · exact absurd h.symm hr
  obtain ⟨n, hn⟩ := ex
  refine whileW_of (n := n + 1) ?_ hr
  unfold whileN
  rw [ht]
  simp only [Res.st_ok, hb, if_true]
  exact hn
theorem whileW_end {test : Sg → Mu → Res Bool} {body : Sg → Mu → SR} {σ : Sg} {μ m : Mu} (ht : test σ μ = .ok false m) : whileW test body σ μ = .nx σ m := by
  refine whileW_of (n := 1) ?_ (by simp)
  unfold whileN
  rw [ht]
  rfl
theorem whileW_brk {test : Sg → Mu → Res Bool} {body : Sg → Mu → SR} {σ σ' : Sg} {μ m μ' : Mu} (ht : test σ μ = .ok true m) (hb : body σ m = .brk σ' μ') : whileW test body σ μ = .nx σ' μ' := by
  refine whileW_of (n := 1) ?_ (by simp)
  unfold whileN
  rw [ht]
  simp only [Res.st_ok, hb, if_true]
theorem forL_inv {turn : D → Sg → Mu → SR} (P : Sg → Mu → Prop) : ∀ (xs : List D) (σ : Sg) (μ : Mu), (∀ x ∈ xs, ∀ σ μ, P σ μ → ∃ σ' μ', turn x σ μ = .nx σ' μ' ∧ P σ' μ') → P σ μ → ∃ σ' μ', forL turn xs σ μ = .nx σ' μ' ∧ P σ' μ'
  | [], σ, μ, _, h => ⟨σ, μ, rfl, h⟩
  | x :: xs, σ, μ, t, h => by
    obtain ⟨σ1, μ1, e1, h1⟩ := t x List.mem_cons_self σ μ h
    obtain ⟨σ2, μ2, e2, h2⟩ := forL_inv P xs σ1 μ1 (fun y hy => t y (List.mem_cons_of_mem _ hy)) h1
    exact ⟨σ2, μ2, by unfold forL; rw [e1]; exact e2, h2⟩
theorem ib_le {i : Int} {k : Nat} (h : i.natAbs < 2 ^ k) : ib i ≤ k := by
  unfold ib
  split
  · omega
  · rename_i hi
    have : i.natAbs.log2 < k := (Nat.log2_lt (by omega)).mpr h
    omega
theorem mulOk_of {i j : Int} (a b : Nat) (hi : i.natAbs < 2 ^ a) (hj : j.natAbs < 2 ^ b) (h : a + b ≤ MLIM) : mulOk i j = true := by
  unfold mulOk
  have h1 := ib_le hi
  have h2 := ib_le hj
  simp only [Bool.or_eq_true, decide_eq_true_eq]
  omega
theorem mulOk_l {i j : Int} (h : i.natAbs < 2 ^ 64) : mulOk i j = true := by
  unfold mulOk
  have h1 := ib_le h
  simp [h1]
theorem mulOk_r {i j : Int} (h : j.natAbs < 2 ^ 64) : mulOk i j = true := by
  unfold mulOk
  have h1 := ib_le h
  simp [h1]
def rt (c : Nat) (q : Rat) : D := .ins c [.int q.num, .int (q.den : Int)]
theorem rt_inj {c : Nat} {p q : Rat} : rt c p = rt c q ↔ p = q := by
  constructor
  · intro h
    unfold rt at h
    simp only [D.ins.injEq, List.cons.injEq, D.int.injEq, and_true, true_and] at h
    exact Rat.ext h.1 (by omega)
  · rintro rfl; rfl
def sz (q : Rat) (k : Nat) : Prop := q.num.natAbs < 2 ^ k ∧ q.den < 2 ^ k
theorem sz.mono {q : Rat} {j k : Nat} (h : sz q j) (hk : j ≤ k) : sz q k :=
  ⟨Nat.lt_of_lt_of_le h.1 (Nat.pow_le_pow_right (by omega) hk), Nat.lt_of_lt_of_le h.2 (Nat.pow_le_pow_right (by omega) hk)⟩
theorem ediv_abs (x : Int) (g : Nat) : (x / (g : Int)).natAbs ≤ x.natAbs := by
  rcases Nat.eq_zero_or_pos g with h | h
  · subst h; simp
  · have hg : (0 : Int) < (g : Int) := by omega
    rcases Int.lt_or_le x 0 with hx | hx
    · have h1 : x ≤ x / (g : Int) := by
        rw [Int.le_ediv_iff_mul_le hg]
        have : x * (g : Int) ≤ x * 1 := Int.mul_le_mul_of_nonpos_left (by omega) (by omega)
        omega
      have h2 : x / (g : Int) < 0 := Int.ediv_neg_of_neg_of_pos hx hg
      omega
    · have h1 : x / (g : Int) ≤ x := Int.ediv_le_self _ hx
      have h2 : 0 ≤ x / (g : Int) := Int.ediv_nonneg hx (by omega)
      omega
theorem sz_pos {q : Rat} {k : Nat} (h : sz q k) : 1 ≤ k := by
  rcases Nat.eq_zero_or_pos k with z | z
  · subst z
    have := h.2
    have := q.den_pos
    simp at *; omega
  · exact z
theorem sz_divInt {a b : Int} {k : Nat} (ha : a.natAbs < 2 ^ k) (hb : b.natAbs < 2 ^ k) (h : b ≠ 0) : sz (Rat.divInt a b) k := by
  refine ⟨?_, ?_⟩
  · rw [Rat.num_divInt]
    refine Nat.lt_of_le_of_lt (ediv_abs _ _) ?_
    rw [Int.natAbs_mul, Int.natAbs_sign]
    split <;> omega
  · rw [Rat.den_divInt, if_neg h]
    exact Nat.lt_of_le_of_lt (Nat.div_le_self _ _) hb
theorem pow_pos2 (k : Nat) : 0 < 2 ^ k := Nat.pow_pos (by omega)
theorem mul_lt2 {a b x y : Nat} (h : a < 2 ^ x) (g : b < 2 ^ y) : a * b < 2 ^ (x + y) := by
  rw [Nat.pow_add]
  exact Nat.mul_lt_mul'' h g
theorem sz_add {p q : Rat} {a b : Nat} (h : sz p a) (g : sz q b) : sz (p + q) (a + b + 1) := by
  refine ⟨?_, ?_⟩
  · rw [Rat.num_add]
    refine Nat.lt_of_le_of_lt (ediv_abs _ _) ?_
    have h1 : (p.num * (q.den : Int)).natAbs < 2 ^ (a + b) := by rw [Int.natAbs_mul]; exact mul_lt2 h.1 g.2
    have h2 : (q.num * (p.den : Int)).natAbs < 2 ^ (a + b) := by rw [Int.natAbs_mul, Nat.add_comm]; exact mul_lt2 g.1 h.2
    rw [Nat.pow_succ]
    omega
  · rw [Rat.den_add]
    refine Nat.lt_of_le_of_lt (Nat.div_le_self _ _) (Nat.lt_of_lt_of_le (mul_lt2 h.2 g.2) (Nat.pow_le_pow_right (by omega) (by omega)))
theorem sz_neg {p : Rat} {a : Nat} (h : sz p a) : sz (-p) a := by
  refine ⟨?_, ?_⟩
  · rw [Rat.neg_num, Int.natAbs_neg]; exact h.1
  · rw [Rat.neg_den]; exact h.2
theorem sz_sub {p q : Rat} {a b : Nat} (h : sz p a) (g : sz q b) : sz (p - q) (a + b + 1) := by
  rw [Rat.sub_eq_add_neg]; exact sz_add h (sz_neg g)
theorem sz_mul {p q : Rat} {a b : Nat} (h : sz p a) (g : sz q b) : sz (p * q) (a + b) := by
  refine ⟨?_, ?_⟩
  · rw [Rat.num_mul]
    refine Nat.lt_of_le_of_lt (ediv_abs _ _) ?_
    rw [Int.natAbs_mul]; exact mul_lt2 h.1 g.1
  · rw [Rat.den_mul]
    exact Nat.lt_of_le_of_lt (Nat.div_le_self _ _) (mul_lt2 h.2 g.2)
theorem sz_inv {p : Rat} {a : Nat} (h : sz p a) : sz p⁻¹ a := by
  refine ⟨?_, ?_⟩
  · rw [Rat.num_inv, Int.natAbs_mul, Int.natAbs_sign]
    have := h.2
    have := pow_pos2 a
    split <;> omega
  · rw [Rat.den_inv]
    have := h.1
    have := Nat.one_lt_two_pow (n := a) (by have := sz_pos h; omega)
    split <;> omega
theorem sz_div {p q : Rat} {a b : Nat} (h : sz p a) (g : sz q b) : sz (p / q) (a + b) := by
  rw [Rat.div_def]; exact sz_mul h (sz_inv g)
theorem sz_abs {p : Rat} {a : Nat} (h : sz p a) : sz p.abs a := by
  unfold Rat.abs
  split
  · exact h
  · exact sz_neg h
theorem num_abs (p : Rat) : (p.abs).num = absI p.num := by
  unfold Rat.abs absI
  split
  · rename_i h
    have := Rat.num_nonneg.mpr h
    rw [if_neg (by omega)]
  · rename_i h
    have : ¬ 0 ≤ p.num := fun z => h (Rat.num_nonneg.mp z)
    rw [if_pos (by omega), Rat.neg_num]
theorem den_abs (p : Rat) : (p.abs).den = p.den := by
  unfold Rat.abs
  split
  · rfl
  · rw [Rat.neg_den]
theorem abs_divInt (p : Rat) : Rat.divInt (absI p.num) (p.den : Int) = p.abs := by
  rw [← num_abs, ← den_abs]; exact Rat.num_divInt_den _
theorem den0 (p : Rat) : (p.den : Int) ≠ 0 := by have := p.den_pos; omega
theorem add_divInt (p q : Rat) : Rat.divInt (p.num * q.den + q.num * p.den) (p.den * q.den) = p + q := by
  rw [← Rat.divInt_add_divInt _ _ (den0 p) (den0 q), Rat.num_divInt_den, Rat.num_divInt_den]
theorem sub_divInt (p q : Rat) : Rat.divInt (p.num * q.den - q.num * p.den) (p.den * q.den) = p - q := by
  rw [← Rat.divInt_sub_divInt _ _ (den0 p) (den0 q), Rat.num_divInt_den, Rat.num_divInt_den]
theorem mul_divInt (p q : Rat) : Rat.divInt (p.num * q.num) (p.den * q.den) = p * q := by
  rw [← Rat.divInt_mul_divInt, Rat.num_divInt_den, Rat.num_divInt_den]
theorem neg_divInt (p : Rat) : Rat.divInt (-p.num) p.den = -p := by
  rw [← Rat.neg_divInt, Rat.num_divInt_den]
theorem div_divInt (p q : Rat) : Rat.divInt (p.num * q.den) (p.den * q.num) = p / q := by
  rw [← Rat.divInt_mul_divInt, Rat.num_divInt_den, Rat.div_def, Rat.inv_def]
theorem num_ne {q : Rat} (h : q ≠ 0) : q.num ≠ 0 := fun z => h (Rat.num_eq_zero.mp z)
theorem lt_num (p q : Rat) : (p.num * q.den < q.num * p.den) = (p < q) := by rw [Rat.lt_iff]
theorem le_num (p q : Rat) : (p.num * q.den ≤ q.num * p.den) = (p ≤ q) := by rw [Rat.le_iff]
theorem num_of {a b : Int} (h : b ≠ 0) : ((if 0 < b then 1 else -1) * a).fdiv (a.natAbs.gcd b.natAbs : Nat) = (Rat.divInt a b).num := by
  have hg : (0 : Int) < (a.natAbs.gcd b.natAbs : Nat) := by
    have : 0 < a.natAbs.gcd b.natAbs := Nat.gcd_pos_of_pos_right _ (by omega)
    omega
  rw [Rat.num_divInt, Int.fdiv_eq_ediv_of_nonneg _ (by omega)]
  have e1 : b.sign = if 0 < b then 1 else -1 := by
    split
    · exact Int.sign_eq_one_of_pos (by assumption)
    · exact Int.sign_eq_neg_one_of_neg (by omega)
  rw [← e1]
  rw [Int.gcd_comm]; rfl
theorem den_of {a b : Int} (h : b ≠ 0) : ((if 0 < b then 1 else -1) * b).fdiv (a.natAbs.gcd b.natAbs : Nat) = ((Rat.divInt a b).den : Int) := by
  rw [Rat.den_divInt, if_neg h, Int.fdiv_eq_ediv_of_nonneg _ (by omega)]
  have e1 : (if 0 < b then 1 else -1) * b = (b.natAbs : Int) := by
    split <;> omega
  rw [e1, Int.gcd_comm]
  rfl
class Sz (q : Rat) (k : outParam Nat) : Prop where
  h : sz q k
instance : Sz 0 1 := ⟨⟨by decide, by decide⟩⟩
instance : Sz 1 1 := ⟨⟨by decide, by decide⟩⟩
instance {p q : Rat} {a b : Nat} [hp : Sz p a] [hq : Sz q b] : Sz (p + q) (a + b + 1) := ⟨sz_add hp.h hq.h⟩
instance {p q : Rat} {a b : Nat} [hp : Sz p a] [hq : Sz q b] : Sz (p - q) (a + b + 1) := ⟨sz_sub hp.h hq.h⟩
instance {p q : Rat} {a b : Nat} [hp : Sz p a] [hq : Sz q b] : Sz (p * q) (a + b) := ⟨sz_mul hp.h hq.h⟩
instance {p q : Rat} {a b : Nat} [hp : Sz p a] [hq : Sz q b] : Sz (p / q) (a + b) := ⟨sz_div hp.h hq.h⟩
instance {p : Rat} {a : Nat} [hp : Sz p a] : Sz (-p) a := ⟨sz_neg hp.h⟩
instance {p : Rat} {a : Nat} [hp : Sz p a] : Sz p.abs a := ⟨sz_abs hp.h⟩
theorem sz_int {i : Int} {k : Nat} (h : i.natAbs < 2 ^ k) (h1 : 1 ≤ k) : sz (i : Rat) k := by
  refine ⟨by rw [Rat.num_intCast]; exact h, ?_⟩
  rw [Rat.den_intCast]
  exact Nat.one_lt_two_pow (by omega)
instance {p : Rat} {a : Nat} [hp : Sz p a] : Sz (p.num : Rat) a := ⟨sz_int hp.h.1 (sz_pos hp.h)⟩
instance {p : Rat} {a : Nat} [hp : Sz p a] : Sz (((p.den : Nat) : Int) : Rat) a := ⟨sz_int (by simpa using hp.h.2) (sz_pos hp.h)⟩
end Ev

set_option maxRecDepth 100000
namespace Ev
open PySem
def b0 : Ss := .nil
def f0 : FnI := ⟨("InvalidNumber", some "__init__"), ["self", "value"], 2, [], false, b0⟩
def b1 : Ss := (.cons (.ret (.bop true (.isin (.var 0) false [.int]) (.not (.isin (.var 0) false [.bool])))) .nil)
def f1 : FnI := ⟨("is_integer", none), ["value"], 1, [], true, b1⟩
def b2 : Ss := (.cons (.while_ (.e (.cmp .gt (.var 1) (.lit (.int 0)))) (.cons (.par (.cons (.name 0) (.cons (.name 1) .nil)) (.cons false (.var 1) (.cons false (.bin .mod (.var 0) (.var 1)) .nil))) .nil)) (.cons (.ret (.var 0)) .nil))
def f2 : FnI := ⟨("common_divisor", none), ["first", "second"], 2, [], true, b2⟩
def b3 : Ss := (.cons (.ite (.bop false (.not (.e (.call 1 (.cons false (.var 1) .nil)))) (.bop false (.not (.e (.call 1 (.cons false (.var 2) .nil)))) (.e (.cmp .eq (.var 2) (.lit (.int 0)))))) (.cons (.raise 1 (.cons false (.tup (.cons false (.var 1) (.cons false (.var 2) .nil))) .nil)) .nil) .nil) (.cons (.asg (.name 3) (.ite (.e (.cmp .gt (.var 2) (.lit (.int 0)))) (.lit (.int 1)) (.neg (.lit (.int 1))))) (.cons (.asg (.name 4) (.call 2 (.cons false (.blt .abs (.cons false (.var 1) .nil)) (.cons false (.blt .abs (.cons false (.var 2) .nil)) .nil)))) (.cons (.setf (.var 0) 20 (.bin .fdiv (.bin .mul (.var 3) (.var 1)) (.var 4))) (.cons (.setf (.var 0) 21 (.bin .fdiv (.bin .mul (.var 3) (.var 2)) (.var 4))) .nil)))))
def f3 : FnI := ⟨("Ratio", some "__init__"), ["self", "numerator", "denominator", "sign", "divisor"], 3, [(.int 1)], true, b3⟩
def b4 : Ss := (.cons (.ret (.attr (.var 0) 20)) .nil)
def f4 : FnI := ⟨("Ratio", some "top"), ["self"], 1, [], true, b4⟩
def b5 : Ss := (.cons (.ret (.attr (.var 0) 21)) .nil)
def f5 : FnI := ⟨("Ratio", some "bottom"), ["self"], 1, [], true, b5⟩
def b6 : Ss := (.cons (.ite (.bop false (.not (.e (.isin (.var 1) false [(.cls 2)]))) (.e (.cmp .eq (.attr (.var 1) 20) (.lit (.int 0))))) (.cons (.raise 1 (.cons false (.var 1) .nil)) .nil) .nil) (.cons (.ret (.make 2 (.cons false (.bin .mul (.attr (.var 0) 20) (.attr (.var 1) 21)) (.cons false (.bin .mul (.attr (.var 0) 21) (.attr (.var 1) 20)) .nil)))) .nil))
def f6 : FnI := ⟨("Ratio", some "over"), ["self", "other"], 2, [], true, b6⟩
def b7 : Ss := (.cons (.ret (.make 2 (.cons false (.bin .add (.bin .mul (.attr (.var 0) 20) (.attr (.var 1) 21)) (.bin .mul (.attr (.var 1) 20) (.attr (.var 0) 21))) (.cons false (.bin .mul (.attr (.var 0) 21) (.attr (.var 1) 21)) .nil)))) .nil)
def f7 : FnI := ⟨("Ratio", some "__add__"), ["self", "other"], 2, [], true, b7⟩
def b8 : Ss := (.cons (.ret (.make 2 (.cons false (.bin .sub (.bin .mul (.attr (.var 0) 20) (.attr (.var 1) 21)) (.bin .mul (.attr (.var 1) 20) (.attr (.var 0) 21))) (.cons false (.bin .mul (.attr (.var 0) 21) (.attr (.var 1) 21)) .nil)))) .nil)
def f8 : FnI := ⟨("Ratio", some "__sub__"), ["self", "other"], 2, [], true, b8⟩
def b9 : Ss := (.cons (.ret (.make 2 (.cons false (.bin .mul (.attr (.var 0) 20) (.attr (.var 1) 20)) (.cons false (.bin .mul (.attr (.var 0) 21) (.attr (.var 1) 21)) .nil)))) .nil)
def f9 : FnI := ⟨("Ratio", some "__mul__"), ["self", "other"], 2, [], true, b9⟩
def b10 : Ss := (.cons (.ret (.make 2 (.cons false (.neg (.attr (.var 0) 20)) (.cons false (.attr (.var 0) 21) .nil)))) .nil)
def f10 : FnI := ⟨("Ratio", some "__neg__"), ["self"], 1, [], true, b10⟩
def b11 : Ss := (.cons (.ret (.make 2 (.cons false (.blt .abs (.cons false (.attr (.var 0) 20) .nil)) (.cons false (.attr (.var 0) 21) .nil)))) .nil)
def f11 : FnI := ⟨("Ratio", some "__abs__"), ["self"], 1, [], true, b11⟩
def b12 : Ss := (.cons (.ret (.bop true (.isin (.var 1) false [(.cls 2)]) (.bop true (.cmp .eq (.attr (.var 0) 20) (.attr (.var 1) 20)) (.cmp .eq (.attr (.var 0) 21) (.attr (.var 1) 21))))) .nil)
def f12 : FnI := ⟨("Ratio", some "__eq__"), ["self", "other"], 2, [], true, b12⟩
def b13 : Ss := (.cons (.ret (.cmp .lt (.bin .mul (.attr (.var 0) 20) (.attr (.var 1) 21)) (.bin .mul (.attr (.var 1) 20) (.attr (.var 0) 21)))) .nil)
def f13 : FnI := ⟨("Ratio", some "__lt__"), ["self", "other"], 2, [], true, b13⟩
def b14 : Ss := (.cons (.ret (.cmp .le (.bin .mul (.attr (.var 0) 20) (.attr (.var 1) 21)) (.bin .mul (.attr (.var 1) 20) (.attr (.var 0) 21)))) .nil)
def f14 : FnI := ⟨("Ratio", some "__le__"), ["self", "other"], 2, [], true, b14⟩
def b15 : Ss := (.cons (.ret (.cmp .gt (.bin .mul (.attr (.var 0) 20) (.attr (.var 1) 21)) (.bin .mul (.attr (.var 1) 20) (.attr (.var 0) 21)))) .nil)
def f15 : FnI := ⟨("Ratio", some "__gt__"), ["self", "other"], 2, [], true, b15⟩
def b16 : Ss := (.cons (.ret (.cmp .ge (.bin .mul (.attr (.var 0) 20) (.attr (.var 1) 21)) (.bin .mul (.attr (.var 1) 20) (.attr (.var 0) 21)))) .nil)
def f16 : FnI := ⟨("Ratio", some "__ge__"), ["self", "other"], 2, [], true, b16⟩
def b17 : Ss := (.cons (.ret (.blt .bool (.cons false (.cmp .ne (.attr (.var 0) 20) (.lit (.int 0))) .nil))) .nil)
def f17 : FnI := ⟨("Ratio", some "__bool__"), ["self"], 1, [], true, b17⟩
def b18 : Ss := (.cons (.ite (.e (.cmp .eq (.attr (.var 0) 21) (.lit (.int 1)))) (.cons (.ret (.blt .str (.cons false (.attr (.var 0) 20) .nil))) .nil) .nil) (.cons (.ret (.fstr (.cons true (.attr (.var 0) 20) (.cons false (.lit (.str "/")) (.cons true (.attr (.var 0) 21) .nil))))) .nil))
def f18 : FnI := ⟨("Ratio", some "__str__"), ["self"], 1, [], true, b18⟩
def b19 : Ss := (.cons (.ite (.e (.cmp .eq (.attr (.var 0) 21) (.lit (.int 1)))) (.cons (.ret (.blt .str (.cons false (.attr (.var 0) 20) .nil))) .nil) .nil) (.cons (.ret (.fstr (.cons true (.attr (.var 0) 20) (.cons false (.lit (.str "/")) (.cons true (.attr (.var 0) 21) .nil))))) .nil))
def f19 : FnI := ⟨("Ratio", some "__repr__"), ["self"], 1, [], true, b19⟩
def b20 : Ss := (.cons (.ret (.bop false (.call 1 (.cons false (.var 0) .nil)) (.isin (.var 0) false [(.cls 2)]))) .nil)
def f20 : FnI := ⟨("is_number", none), ["value"], 1, [], true, b20⟩
def b21 : Ss := (.cons (.ite (.e (.isin (.var 0) false [(.cls 2)])) (.cons (.ret (.var 0)) .nil) .nil) (.cons (.ite (.not (.e (.call 1 (.cons false (.var 0) .nil)))) (.cons (.raise 1 (.cons false (.var 0) .nil)) .nil) .nil) (.cons (.ret (.make 2 (.cons false (.var 0) .nil))) .nil)))
def f21 : FnI := ⟨("ratio", none), ["value"], 1, [], true, b21⟩
def b22 : Ss := (.cons (.asg (.name 2) (.lit (.int 0))) (.cons (.ite (.e (.cmp .lt (.var 1) (.blt .len (.cons false (.var 0) .nil)))) (.cons (.asg (.name 2) (.blt .abs (.cons false (.idx (.var 0) (.var 1)) .nil))) .nil) .nil) (.cons (.asg (.name 3) (.bin .mod (.bin .mul (.bin .add (.bin .add (.bin .add (.bin .mod (.var 2) (.lit (.int 2147483629))) (.bin .mul (.bin .mul (.lit (.int 7919)) (.var 1)) (.var 1))) (.bin .mul (.lit (.int 31)) (.var 1))) (.lit (.int 17))) (.lit (.int 48271))) (.lit (.int 2147483647)))) (.cons (.ret (.cell (.cons false (.bin .mul (.var 2) (.blt .int (.cons false (.cmp .ge (.var 2) (.bin .pow (.lit (.int 10)) (.lit (.int 18)))) .nil))) (.cons false (.bin .mod (.bin .mul (.var 3) (.var 3)) (.lit (.int 2147483629))) .nil)))) .nil))))
def f22 : FnI := ⟨("_law_pool", none), ["_law_script", "_law_k", "_law_cell", "_law_mixed"], 2, [], true, b22⟩
def b23 : Ss := (.cons (.ite (.e (.cmp .gt (.idx (.var 0) (.lit (.int 0))) (.lit (.int 0)))) (.cons (.asg (.name 2) (.bin .mod (.idx (.var 0) (.lit (.int 0))) (.var 1))) (.cons (.seti (.var 0) (.lit (.int 0)) (.bin .fdiv (.idx (.var 0) (.lit (.int 0))) (.var 1))) (.cons (.ret (.var 2)) .nil))) .nil) (.cons (.seti (.var 0) (.lit (.int 1)) (.bin .mod (.bin .add (.bin .mul (.idx (.var 0) (.lit (.int 1))) (.lit (.int 48271))) (.lit (.int 12345))) (.lit (.int 2147483647)))) (.cons (.ret (.bin .mod (.bin .fdiv (.bin .mod (.bin .mul (.idx (.var 0) (.lit (.int 1))) (.idx (.var 0) (.lit (.int 1)))) (.lit (.int 2147483629))) (.lit (.int 64))) (.var 1))) .nil)))
def f23 : FnI := ⟨("_law_take", none), ["_law_pool_here", "_law_many", "_law_found"], 2, [], true, b23⟩
def T24_0 : Ev.T := (.e (.cmp .gt (.var 1) (.lit (.int 0))))
def L24_0 : Ss := (.cons (.par (.cons (.name 0) (.cons (.name 1) .nil)) (.cons false (.var 1) (.cons false (.bin .mod (.var 0) (.var 1)) .nil))) .nil)
def b24 : Ss := (.cons (.while_ T24_0 L24_0) (.cons (.ret (.var 0)) .nil))
def f24 : FnI := ⟨("_law_divisor", none), ["_law_one", "_law_two"], 2, [], true, b24⟩
def T25_0 : Ev.T := (.e (.cmp .ne (.lst (.cons false (.attr (.var 0) 23) (.cons false (.attr (.var 0) 22) (.cons false (.blt .str (.cons false (.var 0) .nil)) (.cons false (.blt .repr (.cons false (.var 0) .nil)) .nil))))) (.lst (.cons false (.var 6) (.cons false (.var 7) (.cons false (.var 5) (.cons false (.var 5) .nil)))))))
def b25 : Ss := (.cons (.asg (.name 3) (.ite (.e (.cmp .gt (.var 2) (.lit (.int 0)))) (.lit (.int 1)) (.neg (.lit (.int 1))))) (.cons (.asg (.name 4) (.call 24 (.cons false (.blt .abs (.cons false (.var 1) .nil)) (.cons false (.blt .abs (.cons false (.var 2) .nil)) .nil)))) (.cons (.par (.cons (.name 6) (.cons (.name 7) .nil)) (.cons false (.bin .fdiv (.bin .mul (.var 3) (.var 1)) (.var 4)) (.cons false (.bin .fdiv (.bin .mul (.var 3) (.var 2)) (.var 4)) .nil))) (.cons (.asg (.name 5) (.ite (.e (.cmp .eq (.var 7) (.lit (.int 1)))) (.blt .str (.cons false (.var 6) .nil)) (.bin .add (.bin .add (.blt .str (.cons false (.var 6) .nil)) (.lit (.str "/"))) (.blt .str (.cons false (.var 7) .nil))))) (.cons (.ite T25_0 (.cons (.ret (.lit (.bl false))) .nil) .nil) (.cons (.ret (.bop true (.cmp .eq (.var 0) (.make 2 (.cons false (.var 6) (.cons false (.var 7) .nil)))) (.bop true (.cmp .eq (.blt .bool (.cons false (.var 0) .nil)) (.cmp .ne (.var 1) (.lit (.int 0)))) (.not (.cmp .ne (.var 0) (.make 2 (.cons false (.var 1) (.cons false (.var 2) .nil)))))))) .nil))))))
def f25 : FnI := ⟨("_law_right", none), ["_law_made", "_law_top", "_law_bottom", "_law_sign", "_law_divisor_here", "_law_text", "_law_above", "_law_below"], 3, [], true, b25⟩
def T26_0 : Ev.T := (.e (.cmp .eq (.var 0) (.lit (.int 0))))
def T26_1 : Ev.T := (.e (.cmp .eq (.var 0) (.lit (.int 1))))
def b26 : Ss := (.cons (.try_ (.cons (.ite T26_0 (.cons (.exp (.make 2 (.cons false (.var 1) (.cons false (.var 2) .nil)))) .nil) (.cons (.ite T26_1 (.cons (.exp (.meth (.var 1) 25 (.cons false (.var 2) .nil))) .nil) (.cons (.exp (.call 21 (.cons false (.var 1) .nil))) .nil)) .nil)) .nil) (.cons 1 (some 3) (.cons (.ret (.bop true (.cmp .eq (.blt .repr (.cons false (.attr (.var 3) 24) .nil)) (.blt .repr (.cons false (.idx (.lst (.cons false (.tup (.cons false (.var 1) (.cons false (.var 2) .nil))) (.cons false (.var 2) (.cons false (.var 1) .nil)))) (.var 0)) .nil))) (.isin (.var 3) false [(.cls 0)]))) .nil) .nil)) (.cons (.ret (.lit (.bl false))) .nil))
def f26 : FnI := ⟨("_law_refused", none), ["_law_way", "_law_one", "_law_two", "e"], 3, [], true, b26⟩
def T27_0 : Ev.T := (.bop false (.not (.e (.call 25 (.cons false (.var 10) (.cons false (.var 6) (.cons false (.var 7) .nil)))))) (.bop false (.not (.e (.call 25 (.cons false (.var 11) (.cons false (.var 8) (.cons false (.var 9) .nil)))))) (.not (.e (.call 25 (.cons false (.var 4) (.cons false (.bin .mul (.var 6) (.lit (.int 30))) (.cons false (.bin .mul (.var 7) (.lit (.int 30))) .nil))))))))
def T27_1 : Ev.T := (.bop false (.not (.e (.call 25 (.cons false (.bin .add (.var 10) (.var 11)) (.cons false (.bin .add (.bin .mul (.var 6) (.var 9)) (.bin .mul (.var 8) (.var 7))) (.cons false (.bin .mul (.var 7) (.var 9)) .nil)))))) (.not (.e (.call 25 (.cons false (.bin .sub (.var 10) (.var 11)) (.cons false (.bin .sub (.bin .mul (.var 6) (.var 9)) (.bin .mul (.var 8) (.var 7))) (.cons false (.bin .mul (.var 7) (.var 9)) .nil)))))))
def T27_2 : Ev.T := (.bop false (.not (.e (.call 25 (.cons false (.bin .mul (.var 10) (.var 11)) (.cons false (.bin .mul (.var 6) (.var 8)) (.cons false (.bin .mul (.var 7) (.var 9)) .nil)))))) (.not (.e (.call 25 (.cons false (.neg (.var 10)) (.cons false (.neg (.var 6)) (.cons false (.var 7) .nil)))))))
def T27_3 : Ev.T := (.not (.e (.call 25 (.cons false (.blt .abs (.cons false (.var 11) .nil)) (.cons false (.blt .abs (.cons false (.var 8) .nil)) (.cons false (.neg (.var 9)) .nil))))))
def T27_4 : Ev.T := (.bop true (.e (.cmp .ne (.var 8) (.lit (.int 0)))) (.not (.e (.call 25 (.cons false (.meth (.var 10) 25 (.cons false (.var 11) .nil)) (.cons false (.bin .mul (.var 6) (.var 9)) (.cons false (.bin .mul (.var 7) (.var 8)) .nil)))))))
def T27_5 : Ev.T := (.bop false (.e (.cmp .ne (.cmp .eq (.var 10) (.var 11)) (.cmp .eq (.bin .mul (.var 6) (.var 9)) (.bin .mul (.var 8) (.var 7))))) (.bop false (.e (.cmp .eq (.var 10) (.var 6))) (.e (.cmp .ne (.call 21 (.cons false (.var 10) .nil)) (.var 10)))))
def T27_6 : Ev.T := (.bop false (.e (.cmp .ne (.call 21 (.cons false (.var 6) .nil)) (.make 2 (.cons false (.var 6) (.cons false (.lit (.int 1)) .nil))))) (.e (.cmp .ne (.make 2 (.cons false (.var 6) .nil)) (.call 21 (.cons false (.var 6) .nil)))))
def T27_7 : Ev.T := (.bop false (.not (.e (.call 26 (.cons false (.lit (.int 0)) (.cons false (.var 5) (.cons false (.lit (.int 1)) .nil)))))) (.bop false (.not (.e (.call 26 (.cons false (.lit (.int 0)) (.cons false (.var 6) (.cons false (.var 5) .nil)))))) (.not (.e (.call 26 (.cons false (.lit (.int 2)) (.cons false (.var 5) (.cons false (.lit .non) .nil))))))))
def T27_8 : Ev.T := (.bop false (.e (.cmp .isn (.call 20 (.cons false (.var 5) .nil)) (.lit (.bl false)))) (.not (.e (.call 26 (.cons false (.lit (.int 1)) (.cons false (.var 10) (.cons false (.var 5) .nil)))))))
def L27_0 : Ss := (.cons (.ite T27_7 (.cons (.ret (.lit (.bl false))) .nil) .nil) (.cons (.ite T27_8 (.cons (.ret (.lit (.bl false))) .nil) .nil) .nil))
def T27_9 : Ev.T := (.bop false (.not (.e (.call 26 (.cons false (.lit (.int 0)) (.cons false (.var 6) (.cons false (.lit (.int 0)) .nil)))))) (.bop false (.not (.e (.call 26 (.cons false (.lit (.int 1)) (.cons false (.var 10) (.cons false (.make 2 (.cons false (.lit (.int 0)) .nil)) .nil)))))) (.not (.e (.call 26 (.cons false (.lit (.int 1)) (.cons false (.var 10) (.cons false (.lit (.int 2)) .nil))))))))
def T27_10 : Ev.T := (.bop false (.e (.cmp .isn (.call 20 (.cons false (.var 6) .nil)) (.lit (.bl true)))) (.e (.cmp .isn (.call 20 (.cons false (.var 10) .nil)) (.lit (.bl true)))))
def L27_1 : Ss := (.cons (.asg (.name 2) (.call 22 (.cons false (.var 0) (.cons false (.var 1) .nil)))) (.cons (.asg (.name 3) (.idx (.lst (.cons false (.lit (.int 30)) (.cons false (.bin .pow (.lit (.int 10)) (.lit (.int 3))) (.cons false (.bin .pow (.lit (.int 10)) (.lit (.int 40))) .nil)))) (.call 23 (.cons false (.var 2) (.cons false (.lit (.int 3)) .nil))))) (.cons (.par (.cons (.name 6) (.cons (.name 7) .nil)) (.cons false (.bin .sub (.call 23 (.cons false (.var 2) (.cons false (.var 3) .nil))) (.bin .fdiv (.var 3) (.lit (.int 2)))) (.cons false (.bin .add (.lit (.int 1)) (.call 23 (.cons false (.var 2) (.cons false (.var 3) .nil)))) .nil))) (.cons (.par (.cons (.name 8) (.cons (.name 9) .nil)) (.cons false (.bin .sub (.call 23 (.cons false (.var 2) (.cons false (.var 3) .nil))) (.bin .fdiv (.var 3) (.lit (.int 3)))) (.cons false (.bin .sub (.neg (.lit (.int 1))) (.call 23 (.cons false (.var 2) (.cons false (.var 3) .nil)))) .nil))) (.cons (.par (.cons (.name 10) (.cons (.name 11) .nil)) (.cons false (.make 2 (.cons false (.var 6) (.cons false (.var 7) .nil))) (.cons false (.make 2 (.cons false (.var 8) (.cons false (.var 9) .nil))) .nil))) (.cons (.asg (.name 4) (.make 2 (.cons false (.bin .mul (.var 6) (.lit (.int 30))) (.cons false (.bin .mul (.var 7) (.lit (.int 30))) .nil)))) (.cons (.ite T27_0 (.cons (.ret (.lit (.bl false))) .nil) .nil) (.cons (.ite T27_1 (.cons (.ret (.lit (.bl false))) .nil) .nil) (.cons (.ite T27_2 (.cons (.ret (.lit (.bl false))) .nil) .nil) (.cons (.ite T27_3 (.cons (.ret (.lit (.bl false))) .nil) .nil) (.cons (.ite T27_4 (.cons (.ret (.lit (.bl false))) .nil) .nil) (.cons (.ite T27_5 (.cons (.ret (.lit (.bl false))) .nil) .nil) (.cons (.ite T27_6 (.cons (.ret (.lit (.bl false))) .nil) .nil) (.cons (.for_ (.name 5) (.seq (.lst (.cons false (.lit .non) (.cons false (.lit (.bl true)) (.cons false (.lit (.str "1")) (.cons false (.tup (.cons false (.lit (.int 1)) .nil)) (.cons false (.lst (.cons false (.lit (.int 1)) .nil)) .nil))))))) L27_0) (.cons (.ite T27_9 (.cons (.ret (.lit (.bl false))) .nil) .nil) (.cons (.ite T27_10 (.cons (.ret (.lit (.bl false))) .nil) .nil) .nil))))))))))))))))
def b27 : Ss := (.cons (.for_ (.name 1) (.rng (.blt .max (.cons false (.lit (.int 1)) (.cons false (.blt .min (.cons false (.lit (.int 10)) (.cons false (.blt .len (.cons false (.var 0) .nil)) .nil))) .nil)))) L27_1) (.cons (.ret (.lit (.bl true))) .nil))
def f27 : FnI := ⟨("law", none), ["_law_script", "_law_k", "_law_pool_here", "_law_span", "_law_wide", "_law_odd", "_law_a", "_law_b", "_law_c", "_law_d", "_law_one", "_law_two"], 1, [], true, b27⟩
def c0 : ClI := ⟨"SpringError", [], false, true, 0, [], [], [], [0]⟩
def c1 : ClI := ⟨"InvalidNumber", [24], false, true, 0, [(16, 0)], [], [], [1, 0]⟩
def c2 : ClI := ⟨"Ratio", [20, 21], true, false, 3, [(16, 3), (25, 6), (0, 7), (1, 8), (2, 9), (4, 10), (5, 11), (6, 12), (7, 13), (8, 14), (9, 15), (10, 16), (11, 17), (12, 18), (13, 19)], [(23, 4), (22, 5)], [], [2]⟩
def atsT : List Str := ["__add__", "__sub__", "__mul__", "__or__", "__neg__", "__abs__", "__eq__", "__lt__", "__le__", "__gt__", "__ge__", "__bool__", "__str__", "__repr__", "__len__", "__contains__", "__init__", "__floordiv__", "__mod__", "__pow__", "above", "below", "bottom", "top", "value", "over"]
def Tk : Tb := ⟨atsT, [c0, c1, c2], [f0, f1, f2, f3, f4, f5, f6, f7, f8, f9, f10, f11, f12, f13, f14, f15, f16, f17, f18, f19, f20, f21, f22, f23, f24, f25, f26, f27]⟩
theorem go1_1 {C : Cl} {x0 : D} {μ : Mu} : callT Tk C 1 [x0] μ = outF (exSs C b1 [some (.val x0)] μ) := rfl
theorem go2_2 {C : Cl} {x0 x1 : D} {μ : Mu} : callT Tk C 2 [x0, x1] μ = outF (exSs C b2 [some (.val x0), some (.val x1)] μ) := rfl
theorem go3_2 {C : Cl} {x0 x1 : D} {μ : Mu} : callT Tk C 3 [x0, x1] μ = outF (exSs C b3 [some (.val x0), some (.val x1), some (.val (.int 1)), none, none] μ) := rfl
theorem go3_3 {C : Cl} {x0 x1 x2 : D} {μ : Mu} : callT Tk C 3 [x0, x1, x2] μ = outF (exSs C b3 [some (.val x0), some (.val x1), some (.val x2), none, none] μ) := rfl
theorem go4_1 {C : Cl} {x0 : D} {μ : Mu} : callT Tk C 4 [x0] μ = outF (exSs C b4 [some (.val x0)] μ) := rfl
theorem go5_1 {C : Cl} {x0 : D} {μ : Mu} : callT Tk C 5 [x0] μ = outF (exSs C b5 [some (.val x0)] μ) := rfl
theorem go6_2 {C : Cl} {x0 x1 : D} {μ : Mu} : callT Tk C 6 [x0, x1] μ = outF (exSs C b6 [some (.val x0), some (.val x1)] μ) := rfl
theorem go7_2 {C : Cl} {x0 x1 : D} {μ : Mu} : callT Tk C 7 [x0, x1] μ = outF (exSs C b7 [some (.val x0), some (.val x1)] μ) := rfl
theorem go8_2 {C : Cl} {x0 x1 : D} {μ : Mu} : callT Tk C 8 [x0, x1] μ = outF (exSs C b8 [some (.val x0), some (.val x1)] μ) := rfl
theorem go9_2 {C : Cl} {x0 x1 : D} {μ : Mu} : callT Tk C 9 [x0, x1] μ = outF (exSs C b9 [some (.val x0), some (.val x1)] μ) := rfl
theorem go10_1 {C : Cl} {x0 : D} {μ : Mu} : callT Tk C 10 [x0] μ = outF (exSs C b10 [some (.val x0)] μ) := rfl
theorem go11_1 {C : Cl} {x0 : D} {μ : Mu} : callT Tk C 11 [x0] μ = outF (exSs C b11 [some (.val x0)] μ) := rfl
theorem go12_2 {C : Cl} {x0 x1 : D} {μ : Mu} : callT Tk C 12 [x0, x1] μ = outF (exSs C b12 [some (.val x0), some (.val x1)] μ) := rfl
theorem go13_2 {C : Cl} {x0 x1 : D} {μ : Mu} : callT Tk C 13 [x0, x1] μ = outF (exSs C b13 [some (.val x0), some (.val x1)] μ) := rfl
theorem go14_2 {C : Cl} {x0 x1 : D} {μ : Mu} : callT Tk C 14 [x0, x1] μ = outF (exSs C b14 [some (.val x0), some (.val x1)] μ) := rfl
theorem go15_2 {C : Cl} {x0 x1 : D} {μ : Mu} : callT Tk C 15 [x0, x1] μ = outF (exSs C b15 [some (.val x0), some (.val x1)] μ) := rfl
theorem go16_2 {C : Cl} {x0 x1 : D} {μ : Mu} : callT Tk C 16 [x0, x1] μ = outF (exSs C b16 [some (.val x0), some (.val x1)] μ) := rfl
theorem go17_1 {C : Cl} {x0 : D} {μ : Mu} : callT Tk C 17 [x0] μ = outF (exSs C b17 [some (.val x0)] μ) := rfl
theorem go18_1 {C : Cl} {x0 : D} {μ : Mu} : callT Tk C 18 [x0] μ = outF (exSs C b18 [some (.val x0)] μ) := rfl
theorem go19_1 {C : Cl} {x0 : D} {μ : Mu} : callT Tk C 19 [x0] μ = outF (exSs C b19 [some (.val x0)] μ) := rfl
theorem go20_1 {C : Cl} {x0 : D} {μ : Mu} : callT Tk C 20 [x0] μ = outF (exSs C b20 [some (.val x0)] μ) := rfl
theorem go21_1 {C : Cl} {x0 : D} {μ : Mu} : callT Tk C 21 [x0] μ = outF (exSs C b21 [some (.val x0)] μ) := rfl
theorem go22_2 {C : Cl} {x0 x1 : D} {μ : Mu} : callT Tk C 22 [x0, x1] μ = outF (exSs C b22 [some (.val x0), some (.val x1), none, none] μ) := rfl
theorem go23_2 {C : Cl} {x0 x1 : D} {μ : Mu} : callT Tk C 23 [x0, x1] μ = outF (exSs C b23 [some (.val x0), some (.val x1), none] μ) := rfl
theorem go24_2 {C : Cl} {x0 x1 : D} {μ : Mu} : callT Tk C 24 [x0, x1] μ = outF (exSs C b24 [some (.val x0), some (.val x1)] μ) := rfl
theorem go25_3 {C : Cl} {x0 x1 x2 : D} {μ : Mu} : callT Tk C 25 [x0, x1, x2] μ = outF (exSs C b25 [some (.val x0), some (.val x1), some (.val x2), none, none, none, none, none] μ) := rfl
theorem go26_3 {C : Cl} {x0 x1 x2 : D} {μ : Mu} : callT Tk C 26 [x0, x1, x2] μ = outF (exSs C b26 [some (.val x0), some (.val x1), some (.val x2), none] μ) := rfl
theorem go27_1 {C : Cl} {x0 : D} {μ : Mu} : callT Tk C 27 [x0] μ = outF (exSs C b27 [some (.val x0), none, none, none, none, none, none, none, none, none, none, none] μ) := rfl
theorem mth2_16 : mthd Tk 2 16 = some 3 := rfl
theorem mth2_25 : mthd Tk 2 25 = some 6 := rfl
theorem mth2_0 : mthd Tk 2 0 = some 7 := rfl
theorem mth2_1 : mthd Tk 2 1 = some 8 := rfl
theorem mth2_2 : mthd Tk 2 2 = some 9 := rfl
theorem mth2_4 : mthd Tk 2 4 = some 10 := rfl
theorem mth2_5 : mthd Tk 2 5 = some 11 := rfl
theorem mth2_6 : mthd Tk 2 6 = some 12 := rfl
theorem mth2_7 : mthd Tk 2 7 = some 13 := rfl
theorem mth2_8 : mthd Tk 2 8 = some 14 := rfl
theorem mth2_9 : mthd Tk 2 9 = some 15 := rfl
theorem mth2_10 : mthd Tk 2 10 = some 16 := rfl
theorem mth2_11 : mthd Tk 2 11 = some 17 := rfl
theorem mth2_12 : mthd Tk 2 12 = some 18 := rfl
theorem mth2_13 : mthd Tk 2 13 = some 19 := rfl
theorem at2_20 {h : Bool} {n : Nat} {v0 v1 : D} {μ : Mu} : getAt (lev Tk h n) (.ins 2 [v0, v1]) 20 μ = .ok v0 μ := rfl
theorem at2_21 {h : Bool} {n : Nat} {v0 v1 : D} {μ : Mu} : getAt (lev Tk h n) (.ins 2 [v0, v1]) 21 μ = .ok v1 μ := rfl
theorem at2_23 {h : Bool} {n : Nat} {fs : List D} {μ : Mu} : getAt (lev Tk h n) (.ins 2 fs) 23 μ = noExc ((lev Tk h n).low 4 [.ins 2 fs] μ) := rfl
theorem at2_22 {h : Bool} {n : Nat} {fs : List D} {μ : Mu} : getAt (lev Tk h n) (.ins 2 fs) 22 μ = noExc ((lev Tk h n).low 5 [.ins 2 fs] μ) := rfl
theorem tcls0 : Tk.cls[0]? = some c0 := rfl
theorem tcls1 : Tk.cls[1]? = some c1 := rfl
theorem tcls2 : Tk.cls[2]? = some c2 := rfl
theorem mk2_1 {C : Cl} {x1 : D} {μ : Mu} : makeT Tk C 2 [x1] μ = outI 2 c2.flds (exSs C b3 [some (.self 2 []), some (.val x1), some (.val (.int 1)), none, none] μ) := rfl
theorem mk2_2 {C : Cl} {x1 x2 : D} {μ : Mu} : makeT Tk C 2 [x1, x2] μ = outI 2 c2.flds (exSs C b3 [some (.self 2 []), some (.val x1), some (.val x2), none, none] μ) := rfl
end Ev

set_option maxRecDepth 100000
set_option maxHeartbeats 1000000
namespace Ev
open PySem
section
variable {hot : Bool} {n : Nat} {μ : Mu}
abbrev R (q : Rat) : D := rt 2 q
theorem isint_int (i : Int) : callT Tk (lev Tk hot n) 1 [.int i] μ = .ok (.bl true) μ := by
  rw [go1_1]
  simp [b1, exSs, exS.eq_1, exS.eq_2, exS.eq_3, exS.eq_4, exS.eq_5, exS.eq_6, exS.eq_7, exS.eq_8, exS.eq_9, exS.eq_10, exS.eq_11, exS.eq_12, exS.eq_13, exS.eq_14, exS.eq_15, exS.eq_17, exS.eq_18, exS.eq_19, exS.eq_20, exS.eq_21, xs_for, evE.eq_1, evE.eq_2, evE.eq_3, evE.eq_4, evE.eq_5, evE.eq_6, evE.eq_7, evE.eq_8, evE.eq_9, evE.eq_10, evE.eq_11, evE.eq_12, evE.eq_13, evE.eq_14, evE.eq_15, evE.eq_16, evE.eq_17, evE.eq_18, evE.eq_19, evE.eq_20, evE.eq_21, evE.eq_22, evE.eq_23, evE.eq_24, evE.eq_26, xe_comp, evEs, evFs, fmtD, evEo, evTo, evT, evIt, getVar, bT_name, bT_tup, bT_lst, bindTs, Res.bind_ok, Res.bind_exc, Res.bind_stuck, Res.st_ok, Res.st_exc, SR.seq_nx, SR.seq_ret, SR.seq_exc, outF_ret, outF_nx, outI_nx, b2_add, b2_sub, cm_lt, cm_le, cm_gt, cm_ge, cm_eqi, cm_nei, cm_eqb, cm_neb, tr_bl, tr_int, ng_int, noExc, getSelf, getExn, E.isVar, bl_len, bl_absI, bl_maxI, bl_minI, bl_intI, bl_intB, bl_boolB, bl_list, bl_tuple, evLen, items, nb_non, nb_bl, nb_int, nb_str, nb_tup, nb_lst, nb_ins, nb_obj, nb_bor, lim, isNon, ty_non, ty_bl, ty_int, ty_str, ty_tup, ty_lst, ty_ins, isTy, setAtt, cl_ins, dcall, dcallF, dcallL, fldOk, putN, selfOut, fldsOf, lev_T, lev_hot, lev_heat, lev_call, lev_low, lev_make, lev_hcall, lev_hlow, lev_hmake, Option.bind, List.any, List.all, List.set, ite_true, ite_false, LINE, tcls0, c0, tcls1, c1, tcls2, c2, mth2_16, mth2_25, mth2_0, mth2_1, mth2_2, mth2_4, mth2_5, mth2_6, mth2_7, mth2_8, mth2_9, mth2_10, mth2_11, mth2_12, mth2_13, at2_20, at2_21, at2_23, at2_22]
theorem gcd_while {C : Cl} (b : Nat) : ∀ (a : Nat), whileW (fun σ m => evT C (.e (.cmp .gt (.var 1) (.lit (.int 0)))) σ m) (fun σ m => exSs C (.cons (.par (.cons (.name 0) (.cons (.name 1) .nil)) (.cons false (.var 1) (.cons false (.bin .mod (.var 0) (.var 1)) .nil))) .nil) σ m) [some (.val (.int a)), some (.val (.int b))] μ = .nx [some (.val (.int (a.gcd b : Nat))), some (.val (.int 0))] μ := by
  induction b using Nat.strongRecOn with
  | ind b ih =>
    intro a
    by_cases hb : b = 0
    · subst hb
      rw [whileW_end (m := μ) (by simp [exSs, exS.eq_1, exS.eq_2, exS.eq_3, exS.eq_4, exS.eq_5, exS.eq_6, exS.eq_7, exS.eq_8, exS.eq_9, exS.eq_10, exS.eq_11, exS.eq_12, exS.eq_13, exS.eq_14, exS.eq_15, exS.eq_17, exS.eq_18, exS.eq_19, exS.eq_20, exS.eq_21, xs_for, evE.eq_1, evE.eq_2, evE.eq_3, evE.eq_4, evE.eq_5, evE.eq_6, evE.eq_7, evE.eq_8, evE.eq_9, evE.eq_10, evE.eq_11, evE.eq_12, evE.eq_13, evE.eq_14, evE.eq_15, evE.eq_16, evE.eq_17, evE.eq_18, evE.eq_19, evE.eq_20, evE.eq_21, evE.eq_22, evE.eq_23, evE.eq_24, evE.eq_26, xe_comp, evEs, evFs, fmtD, evEo, evTo, evT, evIt, getVar, bT_name, bT_tup, bT_lst, bindTs, Res.bind_ok, Res.bind_exc, Res.bind_stuck, Res.st_ok, Res.st_exc, SR.seq_nx, SR.seq_ret, SR.seq_exc, outF_ret, outF_nx, outI_nx, b2_add, b2_sub, cm_lt, cm_le, cm_gt, cm_ge, cm_eqi, cm_nei, cm_eqb, cm_neb, tr_bl, tr_int, ng_int, noExc, getSelf, getExn, E.isVar, bl_len, bl_absI, bl_maxI, bl_minI, bl_intI, bl_intB, bl_boolB, bl_list, bl_tuple, evLen, items, nb_non, nb_bl, nb_int, nb_str, nb_tup, nb_lst, nb_ins, nb_obj, nb_bor, lim, isNon, ty_non, ty_bl, ty_int, ty_str, ty_tup, ty_lst, ty_ins, isTy, setAtt, cl_ins, dcall, dcallF, dcallL, fldOk, putN, selfOut, fldsOf, lev_T, lev_hot, lev_heat, lev_call, lev_low, lev_make, lev_hcall, lev_hlow, lev_hmake, Option.bind, List.any, List.all, List.set, ite_true, ite_false, LINE, tcls0, c0, tcls1, c1, tcls2, c2, mth2_16, mth2_25, mth2_0, mth2_1, mth2_2, mth2_4, mth2_5, mth2_6, mth2_7, mth2_8, mth2_9, mth2_10, mth2_11, mth2_12, mth2_13, at2_20, at2_21, at2_23, at2_22])]
      simp
    · refine whileW_step (m := μ) (σ' := [some (.val (.int b)), some (.val (.int (a % b : Nat)))]) (μ' := μ) (by simp [exSs, exS.eq_1, exS.eq_2, exS.eq_3, exS.eq_4, exS.eq_5, exS.eq_6, exS.eq_7, exS.eq_8, exS.eq_9, exS.eq_10, exS.eq_11, exS.eq_12, exS.eq_13, exS.eq_14, exS.eq_15, exS.eq_17, exS.eq_18, exS.eq_19, exS.eq_20, exS.eq_21, xs_for, evE.eq_1, evE.eq_2, evE.eq_3, evE.eq_4, evE.eq_5, evE.eq_6, evE.eq_7, evE.eq_8, evE.eq_9, evE.eq_10, evE.eq_11, evE.eq_12, evE.eq_13, evE.eq_14, evE.eq_15, evE.eq_16, evE.eq_17, evE.eq_18, evE.eq_19, evE.eq_20, evE.eq_21, evE.eq_22, evE.eq_23, evE.eq_24, evE.eq_26, xe_comp, evEs, evFs, fmtD, evEo, evTo, evT, evIt, getVar, bT_name, bT_tup, bT_lst, bindTs, Res.bind_ok, Res.bind_exc, Res.bind_stuck, Res.st_ok, Res.st_exc, SR.seq_nx, SR.seq_ret, SR.seq_exc, outF_ret, outF_nx, outI_nx, b2_add, b2_sub, cm_lt, cm_le, cm_gt, cm_ge, cm_eqi, cm_nei, cm_eqb, cm_neb, tr_bl, tr_int, ng_int, noExc, getSelf, getExn, E.isVar, bl_len, bl_absI, bl_maxI, bl_minI, bl_intI, bl_intB, bl_boolB, bl_list, bl_tuple, evLen, items, nb_non, nb_bl, nb_int, nb_str, nb_tup, nb_lst, nb_ins, nb_obj, nb_bor, lim, isNon, ty_non, ty_bl, ty_int, ty_str, ty_tup, ty_lst, ty_ins, isTy, setAtt, cl_ins, dcall, dcallF, dcallL, fldOk, putN, selfOut, fldsOf, lev_T, lev_hot, lev_heat, lev_call, lev_low, lev_make, lev_hcall, lev_hlow, lev_hmake, Option.bind, List.any, List.all, List.set, ite_true, ite_false, LINE, tcls0, c0, tcls1, c1, tcls2, c2, mth2_16, mth2_25, mth2_0, mth2_1, mth2_2, mth2_4, mth2_5, mth2_6, mth2_7, mth2_8, mth2_9, mth2_10, mth2_11, mth2_12, mth2_13, at2_20, at2_21, at2_23, at2_22]; omega) ?_ ?_ (by simp)
      · have hb' : (b : Int) ≠ 0 := by omega
        simp [exSs, exS.eq_1, exS.eq_2, exS.eq_3, exS.eq_4, exS.eq_5, exS.eq_6, exS.eq_7, exS.eq_8, exS.eq_9, exS.eq_10, exS.eq_11, exS.eq_12, exS.eq_13, exS.eq_14, exS.eq_15, exS.eq_17, exS.eq_18, exS.eq_19, exS.eq_20, exS.eq_21, xs_for, evE.eq_1, evE.eq_2, evE.eq_3, evE.eq_4, evE.eq_5, evE.eq_6, evE.eq_7, evE.eq_8, evE.eq_9, evE.eq_10, evE.eq_11, evE.eq_12, evE.eq_13, evE.eq_14, evE.eq_15, evE.eq_16, evE.eq_17, evE.eq_18, evE.eq_19, evE.eq_20, evE.eq_21, evE.eq_22, evE.eq_23, evE.eq_24, evE.eq_26, xe_comp, evEs, evFs, fmtD, evEo, evTo, evT, evIt, getVar, bT_name, bT_tup, bT_lst, bindTs, Res.bind_ok, Res.bind_exc, Res.bind_stuck, Res.st_ok, Res.st_exc, SR.seq_nx, SR.seq_ret, SR.seq_exc, outF_ret, outF_nx, outI_nx, b2_add, b2_sub, cm_lt, cm_le, cm_gt, cm_ge, cm_eqi, cm_nei, cm_eqb, cm_neb, tr_bl, tr_int, ng_int, noExc, getSelf, getExn, E.isVar, bl_len, bl_absI, bl_maxI, bl_minI, bl_intI, bl_intB, bl_boolB, bl_list, bl_tuple, evLen, items, nb_non, nb_bl, nb_int, nb_str, nb_tup, nb_lst, nb_ins, nb_obj, nb_bor, lim, isNon, ty_non, ty_bl, ty_int, ty_str, ty_tup, ty_lst, ty_ins, isTy, setAtt, cl_ins, dcall, dcallF, dcallL, fldOk, putN, selfOut, fldsOf, lev_T, lev_hot, lev_heat, lev_call, lev_low, lev_make, lev_hcall, lev_hlow, lev_hmake, Option.bind, List.any, List.all, List.set, ite_true, ite_false, LINE, tcls0, c0, tcls1, c1, tcls2, c2, mth2_16, mth2_25, mth2_0, mth2_1, mth2_2, mth2_4, mth2_5, mth2_6, mth2_7, mth2_8, mth2_9, mth2_10, mth2_11, mth2_12, mth2_13, at2_20, at2_21, at2_23, at2_22, b2_mod hb', Int.fmod_eq_emod_of_nonneg]
      · have := ih (a % b) (Nat.mod_lt _ (by omega)) b
        rw [this]
        rw [Nat.gcd_comm b (a % b), ← Nat.gcd_rec b a, Nat.gcd_comm]
theorem cd_ok (a b : Nat) : callT Tk (lev Tk hot n) 2 [.int a, .int b] μ = .ok (.int (a.gcd b : Nat)) μ := by
  rw [go2_2]
  simp only [b2, exSs, exS]
  have e := gcd_while (C := lev Tk hot n) (μ := μ) b a
  simp only [exSs, exS] at e
  rw [e]
  simp [exSs, exS.eq_1, exS.eq_2, exS.eq_3, exS.eq_4, exS.eq_5, exS.eq_6, exS.eq_7, exS.eq_8, exS.eq_9, exS.eq_10, exS.eq_11, exS.eq_12, exS.eq_13, exS.eq_14, exS.eq_15, exS.eq_17, exS.eq_18, exS.eq_19, exS.eq_20, exS.eq_21, xs_for, evE.eq_1, evE.eq_2, evE.eq_3, evE.eq_4, evE.eq_5, evE.eq_6, evE.eq_7, evE.eq_8, evE.eq_9, evE.eq_10, evE.eq_11, evE.eq_12, evE.eq_13, evE.eq_14, evE.eq_15, evE.eq_16, evE.eq_17, evE.eq_18, evE.eq_19, evE.eq_20, evE.eq_21, evE.eq_22, evE.eq_23, evE.eq_24, evE.eq_26, xe_comp, evEs, evFs, fmtD, evEo, evTo, evT, evIt, getVar, bT_name, bT_tup, bT_lst, bindTs, Res.bind_ok, Res.bind_exc, Res.bind_stuck, Res.st_ok, Res.st_exc, SR.seq_nx, SR.seq_ret, SR.seq_exc, outF_ret, outF_nx, outI_nx, b2_add, b2_sub, cm_lt, cm_le, cm_gt, cm_ge, cm_eqi, cm_nei, cm_eqb, cm_neb, tr_bl, tr_int, ng_int, noExc, getSelf, getExn, E.isVar, bl_len, bl_absI, bl_maxI, bl_minI, bl_intI, bl_intB, bl_boolB, bl_list, bl_tuple, evLen, items, nb_non, nb_bl, nb_int, nb_str, nb_tup, nb_lst, nb_ins, nb_obj, nb_bor, lim, isNon, ty_non, ty_bl, ty_int, ty_str, ty_tup, ty_lst, ty_ins, isTy, setAtt, cl_ins, dcall, dcallF, dcallL, fldOk, putN, selfOut, fldsOf, lev_T, lev_hot, lev_heat, lev_call, lev_low, lev_make, lev_hcall, lev_hlow, lev_hmake, Option.bind, List.any, List.all, List.set, ite_true, ite_false, LINE, tcls0, c0, tcls1, c1, tcls2, c2, mth2_16, mth2_25, mth2_0, mth2_1, mth2_2, mth2_4, mth2_5, mth2_6, mth2_7, mth2_8, mth2_9, mth2_10, mth2_11, mth2_12, mth2_13, at2_20, at2_21, at2_23, at2_22]
theorem absI_eq (i : Int) : absI i = (i.natAbs : Int) := by unfold absI; split <;> omega
theorem rt_ge {a b : Int} (h : b ≠ 0) : (D.ins 2 [.int (((if 0 < b then 1 else -1) * a).fdiv (a.natAbs.gcd b.natAbs : Nat)), .int (((if 0 < b then 1 else -1) * b).fdiv (a.natAbs.gcd b.natAbs : Nat))]) = R (Rat.divInt a b) := by
  rw [num_of h, den_of h]; rfl
theorem sgn_ok {b : Int} (x : Int) : mulOk (if 0 < b then 1 else -1) x = true := mulOk_l (by split <;> decide)
theorem gcd_ne {a b : Int} (h : b ≠ 0) : ((a.natAbs.gcd b.natAbs : Nat) : Int) ≠ 0 := by
  have : 0 < a.natAbs.gcd b.natAbs := Nat.gcd_pos_of_pos_right _ (by omega)
  omega
theorem mk_ok {a b : Int} (h : b ≠ 0) : makeT Tk (lev Tk hot (n + 1)) 2 [.int a, .int b] μ = .ok (R (Rat.divInt a b)) μ := by
  rw [mk2_2, ← rt_ge h]
  have h3 := gcd_ne (a := a) h
  by_cases h0 : 0 < b
  · simp [b3, exSs, exS.eq_1, exS.eq_2, exS.eq_3, exS.eq_4, exS.eq_5, exS.eq_6, exS.eq_7, exS.eq_8, exS.eq_9, exS.eq_10, exS.eq_11, exS.eq_12, exS.eq_13, exS.eq_14, exS.eq_15, exS.eq_17, exS.eq_18, exS.eq_19, exS.eq_20, exS.eq_21, xs_for, evE.eq_1, evE.eq_2, evE.eq_3, evE.eq_4, evE.eq_5, evE.eq_6, evE.eq_7, evE.eq_8, evE.eq_9, evE.eq_10, evE.eq_11, evE.eq_12, evE.eq_13, evE.eq_14, evE.eq_15, evE.eq_16, evE.eq_17, evE.eq_18, evE.eq_19, evE.eq_20, evE.eq_21, evE.eq_22, evE.eq_23, evE.eq_24, evE.eq_26, xe_comp, evEs, evFs, fmtD, evEo, evTo, evT, evIt, getVar, bT_name, bT_tup, bT_lst, bindTs, Res.bind_ok, Res.bind_exc, Res.bind_stuck, Res.st_ok, Res.st_exc, SR.seq_nx, SR.seq_ret, SR.seq_exc, outF_ret, outF_nx, outI_nx, b2_add, b2_sub, cm_lt, cm_le, cm_gt, cm_ge, cm_eqi, cm_nei, cm_eqb, cm_neb, tr_bl, tr_int, ng_int, noExc, getSelf, getExn, E.isVar, bl_len, bl_absI, bl_maxI, bl_minI, bl_intI, bl_intB, bl_boolB, bl_list, bl_tuple, evLen, items, nb_non, nb_bl, nb_int, nb_str, nb_tup, nb_lst, nb_ins, nb_obj, nb_bor, lim, isNon, ty_non, ty_bl, ty_int, ty_str, ty_tup, ty_lst, ty_ins, isTy, setAtt, cl_ins, dcall, dcallF, dcallL, fldOk, putN, selfOut, fldsOf, lev_T, lev_hot, lev_heat, lev_call, lev_low, lev_make, lev_hcall, lev_hlow, lev_hmake, Option.bind, List.any, List.all, List.set, ite_true, ite_false, LINE, tcls0, c0, tcls1, c1, tcls2, c2, mth2_16, mth2_25, mth2_0, mth2_1, mth2_2, mth2_4, mth2_5, mth2_6, mth2_7, mth2_8, mth2_9, mth2_10, mth2_11, mth2_12, mth2_13, at2_20, at2_21, at2_23, at2_22, isint_int, absI_eq, cd_ok, h, h0, b2_mul (mulOk_l (i := 1) (j := a) (by decide)), b2_mul (mulOk_l (i := 1) (j := b) (by decide)), b2_div h3]
    rfl
  · simp [b3, exSs, exS.eq_1, exS.eq_2, exS.eq_3, exS.eq_4, exS.eq_5, exS.eq_6, exS.eq_7, exS.eq_8, exS.eq_9, exS.eq_10, exS.eq_11, exS.eq_12, exS.eq_13, exS.eq_14, exS.eq_15, exS.eq_17, exS.eq_18, exS.eq_19, exS.eq_20, exS.eq_21, xs_for, evE.eq_1, evE.eq_2, evE.eq_3, evE.eq_4, evE.eq_5, evE.eq_6, evE.eq_7, evE.eq_8, evE.eq_9, evE.eq_10, evE.eq_11, evE.eq_12, evE.eq_13, evE.eq_14, evE.eq_15, evE.eq_16, evE.eq_17, evE.eq_18, evE.eq_19, evE.eq_20, evE.eq_21, evE.eq_22, evE.eq_23, evE.eq_24, evE.eq_26, xe_comp, evEs, evFs, fmtD, evEo, evTo, evT, evIt, getVar, bT_name, bT_tup, bT_lst, bindTs, Res.bind_ok, Res.bind_exc, Res.bind_stuck, Res.st_ok, Res.st_exc, SR.seq_nx, SR.seq_ret, SR.seq_exc, outF_ret, outF_nx, outI_nx, b2_add, b2_sub, cm_lt, cm_le, cm_gt, cm_ge, cm_eqi, cm_nei, cm_eqb, cm_neb, tr_bl, tr_int, ng_int, noExc, getSelf, getExn, E.isVar, bl_len, bl_absI, bl_maxI, bl_minI, bl_intI, bl_intB, bl_boolB, bl_list, bl_tuple, evLen, items, nb_non, nb_bl, nb_int, nb_str, nb_tup, nb_lst, nb_ins, nb_obj, nb_bor, lim, isNon, ty_non, ty_bl, ty_int, ty_str, ty_tup, ty_lst, ty_ins, isTy, setAtt, cl_ins, dcall, dcallF, dcallL, fldOk, putN, selfOut, fldsOf, lev_T, lev_hot, lev_heat, lev_call, lev_low, lev_make, lev_hcall, lev_hlow, lev_hmake, Option.bind, List.any, List.all, List.set, ite_true, ite_false, LINE, tcls0, c0, tcls1, c1, tcls2, c2, mth2_16, mth2_25, mth2_0, mth2_1, mth2_2, mth2_4, mth2_5, mth2_6, mth2_7, mth2_8, mth2_9, mth2_10, mth2_11, mth2_12, mth2_13, at2_20, at2_21, at2_23, at2_22, isint_int, absI_eq, cd_ok, h, h0, b2_mul (mulOk_l (i := -1) (j := a) (by decide)), b2_mul (mulOk_l (i := -1) (j := b) (by decide)), b2_div h3]
    rfl
section
variable {p q : Rat} (a b : Nat) (hp : sz p a) (hq : sz q b) (h : a + b ≤ MLIM)
include hp hq h
theorem mo1 : mulOk p.num q.den = true := mulOk_of a b hp.1 (by simpa using hq.2) h
theorem mo2 : mulOk q.num p.den = true := mulOk_of b a hq.1 (by simpa using hp.2) (by omega)
theorem mo3 : mulOk p.den q.den = true := mulOk_of a b (by simpa using hp.2) (by simpa using hq.2) h
theorem mo4 : mulOk p.num q.num = true := mulOk_of a b hp.1 hq.1 h
theorem mo5 : mulOk p.den q.num = true := mulOk_of a b (by simpa using hp.2) hq.1 h
theorem add_ok : callT Tk (lev Tk hot (n + 3)) 7 [R p, R q] μ = .ok (R (p + q)) μ := by
  rw [go7_2]
  have h4 : (p.den : Int) * q.den ≠ 0 := Int.mul_ne_zero (den0 p) (den0 q)
  simp [b7, R, rt, exSs, exS.eq_1, exS.eq_2, exS.eq_3, exS.eq_4, exS.eq_5, exS.eq_6, exS.eq_7, exS.eq_8, exS.eq_9, exS.eq_10, exS.eq_11, exS.eq_12, exS.eq_13, exS.eq_14, exS.eq_15, exS.eq_17, exS.eq_18, exS.eq_19, exS.eq_20, exS.eq_21, xs_for, evE.eq_1, evE.eq_2, evE.eq_3, evE.eq_4, evE.eq_5, evE.eq_6, evE.eq_7, evE.eq_8, evE.eq_9, evE.eq_10, evE.eq_11, evE.eq_12, evE.eq_13, evE.eq_14, evE.eq_15, evE.eq_16, evE.eq_17, evE.eq_18, evE.eq_19, evE.eq_20, evE.eq_21, evE.eq_22, evE.eq_23, evE.eq_24, evE.eq_26, xe_comp, evEs, evFs, fmtD, evEo, evTo, evT, evIt, getVar, bT_name, bT_tup, bT_lst, bindTs, Res.bind_ok, Res.bind_exc, Res.bind_stuck, Res.st_ok, Res.st_exc, SR.seq_nx, SR.seq_ret, SR.seq_exc, outF_ret, outF_nx, outI_nx, b2_add, b2_sub, cm_lt, cm_le, cm_gt, cm_ge, cm_eqi, cm_nei, cm_eqb, cm_neb, tr_bl, tr_int, ng_int, noExc, getSelf, getExn, E.isVar, bl_len, bl_absI, bl_maxI, bl_minI, bl_intI, bl_intB, bl_boolB, bl_list, bl_tuple, evLen, items, nb_non, nb_bl, nb_int, nb_str, nb_tup, nb_lst, nb_ins, nb_obj, nb_bor, lim, isNon, ty_non, ty_bl, ty_int, ty_str, ty_tup, ty_lst, ty_ins, isTy, setAtt, cl_ins, dcall, dcallF, dcallL, fldOk, putN, selfOut, fldsOf, lev_T, lev_hot, lev_heat, lev_call, lev_low, lev_make, lev_hcall, lev_hlow, lev_hmake, Option.bind, List.any, List.all, List.set, ite_true, ite_false, LINE, tcls0, c0, tcls1, c1, tcls2, c2, mth2_16, mth2_25, mth2_0, mth2_1, mth2_2, mth2_4, mth2_5, mth2_6, mth2_7, mth2_8, mth2_9, mth2_10, mth2_11, mth2_12, mth2_13, at2_20, at2_21, at2_23, at2_22, b2_mul (mo1 a b hp hq h), b2_mul (mo2 a b hp hq h), b2_mul (mo3 a b hp hq h), mk_ok h4, add_divInt]
theorem sub_ok : callT Tk (lev Tk hot (n + 3)) 8 [R p, R q] μ = .ok (R (p - q)) μ := by
  rw [go8_2]
  have h4 : (p.den : Int) * q.den ≠ 0 := Int.mul_ne_zero (den0 p) (den0 q)
  simp [b8, R, rt, exSs, exS.eq_1, exS.eq_2, exS.eq_3, exS.eq_4, exS.eq_5, exS.eq_6, exS.eq_7, exS.eq_8, exS.eq_9, exS.eq_10, exS.eq_11, exS.eq_12, exS.eq_13, exS.eq_14, exS.eq_15, exS.eq_17, exS.eq_18, exS.eq_19, exS.eq_20, exS.eq_21, xs_for, evE.eq_1, evE.eq_2, evE.eq_3, evE.eq_4, evE.eq_5, evE.eq_6, evE.eq_7, evE.eq_8, evE.eq_9, evE.eq_10, evE.eq_11, evE.eq_12, evE.eq_13, evE.eq_14, evE.eq_15, evE.eq_16, evE.eq_17, evE.eq_18, evE.eq_19, evE.eq_20, evE.eq_21, evE.eq_22, evE.eq_23, evE.eq_24, evE.eq_26, xe_comp, evEs, evFs, fmtD, evEo, evTo, evT, evIt, getVar, bT_name, bT_tup, bT_lst, bindTs, Res.bind_ok, Res.bind_exc, Res.bind_stuck, Res.st_ok, Res.st_exc, SR.seq_nx, SR.seq_ret, SR.seq_exc, outF_ret, outF_nx, outI_nx, b2_add, b2_sub, cm_lt, cm_le, cm_gt, cm_ge, cm_eqi, cm_nei, cm_eqb, cm_neb, tr_bl, tr_int, ng_int, noExc, getSelf, getExn, E.isVar, bl_len, bl_absI, bl_maxI, bl_minI, bl_intI, bl_intB, bl_boolB, bl_list, bl_tuple, evLen, items, nb_non, nb_bl, nb_int, nb_str, nb_tup, nb_lst, nb_ins, nb_obj, nb_bor, lim, isNon, ty_non, ty_bl, ty_int, ty_str, ty_tup, ty_lst, ty_ins, isTy, setAtt, cl_ins, dcall, dcallF, dcallL, fldOk, putN, selfOut, fldsOf, lev_T, lev_hot, lev_heat, lev_call, lev_low, lev_make, lev_hcall, lev_hlow, lev_hmake, Option.bind, List.any, List.all, List.set, ite_true, ite_false, LINE, tcls0, c0, tcls1, c1, tcls2, c2, mth2_16, mth2_25, mth2_0, mth2_1, mth2_2, mth2_4, mth2_5, mth2_6, mth2_7, mth2_8, mth2_9, mth2_10, mth2_11, mth2_12, mth2_13, at2_20, at2_21, at2_23, at2_22, b2_mul (mo1 a b hp hq h), b2_mul (mo2 a b hp hq h), b2_mul (mo3 a b hp hq h), mk_ok h4, sub_divInt]
theorem mul_ok : callT Tk (lev Tk hot (n + 3)) 9 [R p, R q] μ = .ok (R (p * q)) μ := by
  rw [go9_2]
  have h4 : (p.den : Int) * q.den ≠ 0 := Int.mul_ne_zero (den0 p) (den0 q)
  simp [b9, R, rt, exSs, exS.eq_1, exS.eq_2, exS.eq_3, exS.eq_4, exS.eq_5, exS.eq_6, exS.eq_7, exS.eq_8, exS.eq_9, exS.eq_10, exS.eq_11, exS.eq_12, exS.eq_13, exS.eq_14, exS.eq_15, exS.eq_17, exS.eq_18, exS.eq_19, exS.eq_20, exS.eq_21, xs_for, evE.eq_1, evE.eq_2, evE.eq_3, evE.eq_4, evE.eq_5, evE.eq_6, evE.eq_7, evE.eq_8, evE.eq_9, evE.eq_10, evE.eq_11, evE.eq_12, evE.eq_13, evE.eq_14, evE.eq_15, evE.eq_16, evE.eq_17, evE.eq_18, evE.eq_19, evE.eq_20, evE.eq_21, evE.eq_22, evE.eq_23, evE.eq_24, evE.eq_26, xe_comp, evEs, evFs, fmtD, evEo, evTo, evT, evIt, getVar, bT_name, bT_tup, bT_lst, bindTs, Res.bind_ok, Res.bind_exc, Res.bind_stuck, Res.st_ok, Res.st_exc, SR.seq_nx, SR.seq_ret, SR.seq_exc, outF_ret, outF_nx, outI_nx, b2_add, b2_sub, cm_lt, cm_le, cm_gt, cm_ge, cm_eqi, cm_nei, cm_eqb, cm_neb, tr_bl, tr_int, ng_int, noExc, getSelf, getExn, E.isVar, bl_len, bl_absI, bl_maxI, bl_minI, bl_intI, bl_intB, bl_boolB, bl_list, bl_tuple, evLen, items, nb_non, nb_bl, nb_int, nb_str, nb_tup, nb_lst, nb_ins, nb_obj, nb_bor, lim, isNon, ty_non, ty_bl, ty_int, ty_str, ty_tup, ty_lst, ty_ins, isTy, setAtt, cl_ins, dcall, dcallF, dcallL, fldOk, putN, selfOut, fldsOf, lev_T, lev_hot, lev_heat, lev_call, lev_low, lev_make, lev_hcall, lev_hlow, lev_hmake, Option.bind, List.any, List.all, List.set, ite_true, ite_false, LINE, tcls0, c0, tcls1, c1, tcls2, c2, mth2_16, mth2_25, mth2_0, mth2_1, mth2_2, mth2_4, mth2_5, mth2_6, mth2_7, mth2_8, mth2_9, mth2_10, mth2_11, mth2_12, mth2_13, at2_20, at2_21, at2_23, at2_22, b2_mul (mo4 a b hp hq h), b2_mul (mo3 a b hp hq h), mk_ok h4, mul_divInt]
theorem lt_ok : callT Tk (lev Tk hot (n + 1)) 13 [R p, R q] μ = .ok (.bl (decide (p < q))) μ := by
  rw [go13_2]
  simp [b13, R, rt, exSs, exS.eq_1, exS.eq_2, exS.eq_3, exS.eq_4, exS.eq_5, exS.eq_6, exS.eq_7, exS.eq_8, exS.eq_9, exS.eq_10, exS.eq_11, exS.eq_12, exS.eq_13, exS.eq_14, exS.eq_15, exS.eq_17, exS.eq_18, exS.eq_19, exS.eq_20, exS.eq_21, xs_for, evE.eq_1, evE.eq_2, evE.eq_3, evE.eq_4, evE.eq_5, evE.eq_6, evE.eq_7, evE.eq_8, evE.eq_9, evE.eq_10, evE.eq_11, evE.eq_12, evE.eq_13, evE.eq_14, evE.eq_15, evE.eq_16, evE.eq_17, evE.eq_18, evE.eq_19, evE.eq_20, evE.eq_21, evE.eq_22, evE.eq_23, evE.eq_24, evE.eq_26, xe_comp, evEs, evFs, fmtD, evEo, evTo, evT, evIt, getVar, bT_name, bT_tup, bT_lst, bindTs, Res.bind_ok, Res.bind_exc, Res.bind_stuck, Res.st_ok, Res.st_exc, SR.seq_nx, SR.seq_ret, SR.seq_exc, outF_ret, outF_nx, outI_nx, b2_add, b2_sub, cm_lt, cm_le, cm_gt, cm_ge, cm_eqi, cm_nei, cm_eqb, cm_neb, tr_bl, tr_int, ng_int, noExc, getSelf, getExn, E.isVar, bl_len, bl_absI, bl_maxI, bl_minI, bl_intI, bl_intB, bl_boolB, bl_list, bl_tuple, evLen, items, nb_non, nb_bl, nb_int, nb_str, nb_tup, nb_lst, nb_ins, nb_obj, nb_bor, lim, isNon, ty_non, ty_bl, ty_int, ty_str, ty_tup, ty_lst, ty_ins, isTy, setAtt, cl_ins, dcall, dcallF, dcallL, fldOk, putN, selfOut, fldsOf, lev_T, lev_hot, lev_heat, lev_call, lev_low, lev_make, lev_hcall, lev_hlow, lev_hmake, Option.bind, List.any, List.all, List.set, ite_true, ite_false, LINE, tcls0, c0, tcls1, c1, tcls2, c2, mth2_16, mth2_25, mth2_0, mth2_1, mth2_2, mth2_4, mth2_5, mth2_6, mth2_7, mth2_8, mth2_9, mth2_10, mth2_11, mth2_12, mth2_13, at2_20, at2_21, at2_23, at2_22, b2_mul (mo1 a b hp hq h), b2_mul (mo2 a b hp hq h), lt_num]
theorem le_ok : callT Tk (lev Tk hot (n + 1)) 14 [R p, R q] μ = .ok (.bl (decide (p ≤ q))) μ := by
  rw [go14_2]
  simp [b14, R, rt, exSs, exS.eq_1, exS.eq_2, exS.eq_3, exS.eq_4, exS.eq_5, exS.eq_6, exS.eq_7, exS.eq_8, exS.eq_9, exS.eq_10, exS.eq_11, exS.eq_12, exS.eq_13, exS.eq_14, exS.eq_15, exS.eq_17, exS.eq_18, exS.eq_19, exS.eq_20, exS.eq_21, xs_for, evE.eq_1, evE.eq_2, evE.eq_3, evE.eq_4, evE.eq_5, evE.eq_6, evE.eq_7, evE.eq_8, evE.eq_9, evE.eq_10, evE.eq_11, evE.eq_12, evE.eq_13, evE.eq_14, evE.eq_15, evE.eq_16, evE.eq_17, evE.eq_18, evE.eq_19, evE.eq_20, evE.eq_21, evE.eq_22, evE.eq_23, evE.eq_24, evE.eq_26, xe_comp, evEs, evFs, fmtD, evEo, evTo, evT, evIt, getVar, bT_name, bT_tup, bT_lst, bindTs, Res.bind_ok, Res.bind_exc, Res.bind_stuck, Res.st_ok, Res.st_exc, SR.seq_nx, SR.seq_ret, SR.seq_exc, outF_ret, outF_nx, outI_nx, b2_add, b2_sub, cm_lt, cm_le, cm_gt, cm_ge, cm_eqi, cm_nei, cm_eqb, cm_neb, tr_bl, tr_int, ng_int, noExc, getSelf, getExn, E.isVar, bl_len, bl_absI, bl_maxI, bl_minI, bl_intI, bl_intB, bl_boolB, bl_list, bl_tuple, evLen, items, nb_non, nb_bl, nb_int, nb_str, nb_tup, nb_lst, nb_ins, nb_obj, nb_bor, lim, isNon, ty_non, ty_bl, ty_int, ty_str, ty_tup, ty_lst, ty_ins, isTy, setAtt, cl_ins, dcall, dcallF, dcallL, fldOk, putN, selfOut, fldsOf, lev_T, lev_hot, lev_heat, lev_call, lev_low, lev_make, lev_hcall, lev_hlow, lev_hmake, Option.bind, List.any, List.all, List.set, ite_true, ite_false, LINE, tcls0, c0, tcls1, c1, tcls2, c2, mth2_16, mth2_25, mth2_0, mth2_1, mth2_2, mth2_4, mth2_5, mth2_6, mth2_7, mth2_8, mth2_9, mth2_10, mth2_11, mth2_12, mth2_13, at2_20, at2_21, at2_23, at2_22, b2_mul (mo1 a b hp hq h), b2_mul (mo2 a b hp hq h), le_num]
theorem gt_ok : callT Tk (lev Tk hot (n + 1)) 15 [R p, R q] μ = .ok (.bl (decide (q < p))) μ := by
  rw [go15_2]
  simp [b15, R, rt, exSs, exS.eq_1, exS.eq_2, exS.eq_3, exS.eq_4, exS.eq_5, exS.eq_6, exS.eq_7, exS.eq_8, exS.eq_9, exS.eq_10, exS.eq_11, exS.eq_12, exS.eq_13, exS.eq_14, exS.eq_15, exS.eq_17, exS.eq_18, exS.eq_19, exS.eq_20, exS.eq_21, xs_for, evE.eq_1, evE.eq_2, evE.eq_3, evE.eq_4, evE.eq_5, evE.eq_6, evE.eq_7, evE.eq_8, evE.eq_9, evE.eq_10, evE.eq_11, evE.eq_12, evE.eq_13, evE.eq_14, evE.eq_15, evE.eq_16, evE.eq_17, evE.eq_18, evE.eq_19, evE.eq_20, evE.eq_21, evE.eq_22, evE.eq_23, evE.eq_24, evE.eq_26, xe_comp, evEs, evFs, fmtD, evEo, evTo, evT, evIt, getVar, bT_name, bT_tup, bT_lst, bindTs, Res.bind_ok, Res.bind_exc, Res.bind_stuck, Res.st_ok, Res.st_exc, SR.seq_nx, SR.seq_ret, SR.seq_exc, outF_ret, outF_nx, outI_nx, b2_add, b2_sub, cm_lt, cm_le, cm_gt, cm_ge, cm_eqi, cm_nei, cm_eqb, cm_neb, tr_bl, tr_int, ng_int, noExc, getSelf, getExn, E.isVar, bl_len, bl_absI, bl_maxI, bl_minI, bl_intI, bl_intB, bl_boolB, bl_list, bl_tuple, evLen, items, nb_non, nb_bl, nb_int, nb_str, nb_tup, nb_lst, nb_ins, nb_obj, nb_bor, lim, isNon, ty_non, ty_bl, ty_int, ty_str, ty_tup, ty_lst, ty_ins, isTy, setAtt, cl_ins, dcall, dcallF, dcallL, fldOk, putN, selfOut, fldsOf, lev_T, lev_hot, lev_heat, lev_call, lev_low, lev_make, lev_hcall, lev_hlow, lev_hmake, Option.bind, List.any, List.all, List.set, ite_true, ite_false, LINE, tcls0, c0, tcls1, c1, tcls2, c2, mth2_16, mth2_25, mth2_0, mth2_1, mth2_2, mth2_4, mth2_5, mth2_6, mth2_7, mth2_8, mth2_9, mth2_10, mth2_11, mth2_12, mth2_13, at2_20, at2_21, at2_23, at2_22, b2_mul (mo1 a b hp hq h), b2_mul (mo2 a b hp hq h), lt_num]
theorem ge_ok : callT Tk (lev Tk hot (n + 1)) 16 [R p, R q] μ = .ok (.bl (decide (q ≤ p))) μ := by
  rw [go16_2]
  simp [b16, R, rt, exSs, exS.eq_1, exS.eq_2, exS.eq_3, exS.eq_4, exS.eq_5, exS.eq_6, exS.eq_7, exS.eq_8, exS.eq_9, exS.eq_10, exS.eq_11, exS.eq_12, exS.eq_13, exS.eq_14, exS.eq_15, exS.eq_17, exS.eq_18, exS.eq_19, exS.eq_20, exS.eq_21, xs_for, evE.eq_1, evE.eq_2, evE.eq_3, evE.eq_4, evE.eq_5, evE.eq_6, evE.eq_7, evE.eq_8, evE.eq_9, evE.eq_10, evE.eq_11, evE.eq_12, evE.eq_13, evE.eq_14, evE.eq_15, evE.eq_16, evE.eq_17, evE.eq_18, evE.eq_19, evE.eq_20, evE.eq_21, evE.eq_22, evE.eq_23, evE.eq_24, evE.eq_26, xe_comp, evEs, evFs, fmtD, evEo, evTo, evT, evIt, getVar, bT_name, bT_tup, bT_lst, bindTs, Res.bind_ok, Res.bind_exc, Res.bind_stuck, Res.st_ok, Res.st_exc, SR.seq_nx, SR.seq_ret, SR.seq_exc, outF_ret, outF_nx, outI_nx, b2_add, b2_sub, cm_lt, cm_le, cm_gt, cm_ge, cm_eqi, cm_nei, cm_eqb, cm_neb, tr_bl, tr_int, ng_int, noExc, getSelf, getExn, E.isVar, bl_len, bl_absI, bl_maxI, bl_minI, bl_intI, bl_intB, bl_boolB, bl_list, bl_tuple, evLen, items, nb_non, nb_bl, nb_int, nb_str, nb_tup, nb_lst, nb_ins, nb_obj, nb_bor, lim, isNon, ty_non, ty_bl, ty_int, ty_str, ty_tup, ty_lst, ty_ins, isTy, setAtt, cl_ins, dcall, dcallF, dcallL, fldOk, putN, selfOut, fldsOf, lev_T, lev_hot, lev_heat, lev_call, lev_low, lev_make, lev_hcall, lev_hlow, lev_hmake, Option.bind, List.any, List.all, List.set, ite_true, ite_false, LINE, tcls0, c0, tcls1, c1, tcls2, c2, mth2_16, mth2_25, mth2_0, mth2_1, mth2_2, mth2_4, mth2_5, mth2_6, mth2_7, mth2_8, mth2_9, mth2_10, mth2_11, mth2_12, mth2_13, at2_20, at2_21, at2_23, at2_22, b2_mul (mo1 a b hp hq h), b2_mul (mo2 a b hp hq h), le_num]
theorem over_ok (hz : q ≠ 0) : callT Tk (lev Tk hot (n + 3)) 6 [R p, R q] μ = .ok (R (p / q)) μ := by
  rw [go6_2]
  have h4 : (p.den : Int) * q.num ≠ 0 := Int.mul_ne_zero (den0 p) (num_ne hz)
  simp [b6, R, rt, exSs, exS.eq_1, exS.eq_2, exS.eq_3, exS.eq_4, exS.eq_5, exS.eq_6, exS.eq_7, exS.eq_8, exS.eq_9, exS.eq_10, exS.eq_11, exS.eq_12, exS.eq_13, exS.eq_14, exS.eq_15, exS.eq_17, exS.eq_18, exS.eq_19, exS.eq_20, exS.eq_21, xs_for, evE.eq_1, evE.eq_2, evE.eq_3, evE.eq_4, evE.eq_5, evE.eq_6, evE.eq_7, evE.eq_8, evE.eq_9, evE.eq_10, evE.eq_11, evE.eq_12, evE.eq_13, evE.eq_14, evE.eq_15, evE.eq_16, evE.eq_17, evE.eq_18, evE.eq_19, evE.eq_20, evE.eq_21, evE.eq_22, evE.eq_23, evE.eq_24, evE.eq_26, xe_comp, evEs, evFs, fmtD, evEo, evTo, evT, evIt, getVar, bT_name, bT_tup, bT_lst, bindTs, Res.bind_ok, Res.bind_exc, Res.bind_stuck, Res.st_ok, Res.st_exc, SR.seq_nx, SR.seq_ret, SR.seq_exc, outF_ret, outF_nx, outI_nx, b2_add, b2_sub, cm_lt, cm_le, cm_gt, cm_ge, cm_eqi, cm_nei, cm_eqb, cm_neb, tr_bl, tr_int, ng_int, noExc, getSelf, getExn, E.isVar, bl_len, bl_absI, bl_maxI, bl_minI, bl_intI, bl_intB, bl_boolB, bl_list, bl_tuple, evLen, items, nb_non, nb_bl, nb_int, nb_str, nb_tup, nb_lst, nb_ins, nb_obj, nb_bor, lim, isNon, ty_non, ty_bl, ty_int, ty_str, ty_tup, ty_lst, ty_ins, isTy, setAtt, cl_ins, dcall, dcallF, dcallL, fldOk, putN, selfOut, fldsOf, lev_T, lev_hot, lev_heat, lev_call, lev_low, lev_make, lev_hcall, lev_hlow, lev_hmake, Option.bind, List.any, List.all, List.set, ite_true, ite_false, LINE, tcls0, c0, tcls1, c1, tcls2, c2, mth2_16, mth2_25, mth2_0, mth2_1, mth2_2, mth2_4, mth2_5, mth2_6, mth2_7, mth2_8, mth2_9, mth2_10, mth2_11, mth2_12, mth2_13, at2_20, at2_21, at2_23, at2_22, b2_mul (mo1 a b hp hq h), b2_mul (mo5 a b hp hq h), mk_ok h4, div_divInt, num_ne hz]
end
section
variable {p q : Rat}
theorem rneg_ok : callT Tk (lev Tk hot (n + 3)) 10 [R p] μ = .ok (R (-p)) μ := by
  rw [go10_1]
  have e : mkRat (-p.num) p.den = -p := by rw [← Rat.divInt_ofNat]; exact neg_divInt p
  simp [b10, R, rt, exSs, exS.eq_1, exS.eq_2, exS.eq_3, exS.eq_4, exS.eq_5, exS.eq_6, exS.eq_7, exS.eq_8, exS.eq_9, exS.eq_10, exS.eq_11, exS.eq_12, exS.eq_13, exS.eq_14, exS.eq_15, exS.eq_17, exS.eq_18, exS.eq_19, exS.eq_20, exS.eq_21, xs_for, evE.eq_1, evE.eq_2, evE.eq_3, evE.eq_4, evE.eq_5, evE.eq_6, evE.eq_7, evE.eq_8, evE.eq_9, evE.eq_10, evE.eq_11, evE.eq_12, evE.eq_13, evE.eq_14, evE.eq_15, evE.eq_16, evE.eq_17, evE.eq_18, evE.eq_19, evE.eq_20, evE.eq_21, evE.eq_22, evE.eq_23, evE.eq_24, evE.eq_26, xe_comp, evEs, evFs, fmtD, evEo, evTo, evT, evIt, getVar, bT_name, bT_tup, bT_lst, bindTs, Res.bind_ok, Res.bind_exc, Res.bind_stuck, Res.st_ok, Res.st_exc, SR.seq_nx, SR.seq_ret, SR.seq_exc, outF_ret, outF_nx, outI_nx, b2_add, b2_sub, cm_lt, cm_le, cm_gt, cm_ge, cm_eqi, cm_nei, cm_eqb, cm_neb, tr_bl, tr_int, ng_int, noExc, getSelf, getExn, E.isVar, bl_len, bl_absI, bl_maxI, bl_minI, bl_intI, bl_intB, bl_boolB, bl_list, bl_tuple, evLen, items, nb_non, nb_bl, nb_int, nb_str, nb_tup, nb_lst, nb_ins, nb_obj, nb_bor, lim, isNon, ty_non, ty_bl, ty_int, ty_str, ty_tup, ty_lst, ty_ins, isTy, setAtt, cl_ins, dcall, dcallF, dcallL, fldOk, putN, selfOut, fldsOf, lev_T, lev_hot, lev_heat, lev_call, lev_low, lev_make, lev_hcall, lev_hlow, lev_hmake, Option.bind, List.any, List.all, List.set, ite_true, ite_false, LINE, tcls0, c0, tcls1, c1, tcls2, c2, mth2_16, mth2_25, mth2_0, mth2_1, mth2_2, mth2_4, mth2_5, mth2_6, mth2_7, mth2_8, mth2_9, mth2_10, mth2_11, mth2_12, mth2_13, at2_20, at2_21, at2_23, at2_22, mk_ok (den0 p), e]
theorem rabs_ok : callT Tk (lev Tk hot (n + 3)) 11 [R p] μ = .ok (R p.abs) μ := by
  rw [go11_1]
  have e : mkRat (absI p.num) p.den = p.abs := by rw [← Rat.divInt_ofNat]; exact abs_divInt p
  simp [b11, R, rt, exSs, exS.eq_1, exS.eq_2, exS.eq_3, exS.eq_4, exS.eq_5, exS.eq_6, exS.eq_7, exS.eq_8, exS.eq_9, exS.eq_10, exS.eq_11, exS.eq_12, exS.eq_13, exS.eq_14, exS.eq_15, exS.eq_17, exS.eq_18, exS.eq_19, exS.eq_20, exS.eq_21, xs_for, evE.eq_1, evE.eq_2, evE.eq_3, evE.eq_4, evE.eq_5, evE.eq_6, evE.eq_7, evE.eq_8, evE.eq_9, evE.eq_10, evE.eq_11, evE.eq_12, evE.eq_13, evE.eq_14, evE.eq_15, evE.eq_16, evE.eq_17, evE.eq_18, evE.eq_19, evE.eq_20, evE.eq_21, evE.eq_22, evE.eq_23, evE.eq_24, evE.eq_26, xe_comp, evEs, evFs, fmtD, evEo, evTo, evT, evIt, getVar, bT_name, bT_tup, bT_lst, bindTs, Res.bind_ok, Res.bind_exc, Res.bind_stuck, Res.st_ok, Res.st_exc, SR.seq_nx, SR.seq_ret, SR.seq_exc, outF_ret, outF_nx, outI_nx, b2_add, b2_sub, cm_lt, cm_le, cm_gt, cm_ge, cm_eqi, cm_nei, cm_eqb, cm_neb, tr_bl, tr_int, ng_int, noExc, getSelf, getExn, E.isVar, bl_len, bl_absI, bl_maxI, bl_minI, bl_intI, bl_intB, bl_boolB, bl_list, bl_tuple, evLen, items, nb_non, nb_bl, nb_int, nb_str, nb_tup, nb_lst, nb_ins, nb_obj, nb_bor, lim, isNon, ty_non, ty_bl, ty_int, ty_str, ty_tup, ty_lst, ty_ins, isTy, setAtt, cl_ins, dcall, dcallF, dcallL, fldOk, putN, selfOut, fldsOf, lev_T, lev_hot, lev_heat, lev_call, lev_low, lev_make, lev_hcall, lev_hlow, lev_hmake, Option.bind, List.any, List.all, List.set, ite_true, ite_false, LINE, tcls0, c0, tcls1, c1, tcls2, c2, mth2_16, mth2_25, mth2_0, mth2_1, mth2_2, mth2_4, mth2_5, mth2_6, mth2_7, mth2_8, mth2_9, mth2_10, mth2_11, mth2_12, mth2_13, at2_20, at2_21, at2_23, at2_22, mk_ok (den0 p), e]
theorem bool_ok : callT Tk (lev Tk hot (n + 1)) 17 [R p] μ = .ok (.bl (decide (p ≠ 0))) μ := by
  rw [go17_1]
  have e : (p.num = 0) = (p = 0) := propext Rat.num_eq_zero
  simp [b17, R, rt, exSs, exS.eq_1, exS.eq_2, exS.eq_3, exS.eq_4, exS.eq_5, exS.eq_6, exS.eq_7, exS.eq_8, exS.eq_9, exS.eq_10, exS.eq_11, exS.eq_12, exS.eq_13, exS.eq_14, exS.eq_15, exS.eq_17, exS.eq_18, exS.eq_19, exS.eq_20, exS.eq_21, xs_for, evE.eq_1, evE.eq_2, evE.eq_3, evE.eq_4, evE.eq_5, evE.eq_6, evE.eq_7, evE.eq_8, evE.eq_9, evE.eq_10, evE.eq_11, evE.eq_12, evE.eq_13, evE.eq_14, evE.eq_15, evE.eq_16, evE.eq_17, evE.eq_18, evE.eq_19, evE.eq_20, evE.eq_21, evE.eq_22, evE.eq_23, evE.eq_24, evE.eq_26, xe_comp, evEs, evFs, fmtD, evEo, evTo, evT, evIt, getVar, bT_name, bT_tup, bT_lst, bindTs, Res.bind_ok, Res.bind_exc, Res.bind_stuck, Res.st_ok, Res.st_exc, SR.seq_nx, SR.seq_ret, SR.seq_exc, outF_ret, outF_nx, outI_nx, b2_add, b2_sub, cm_lt, cm_le, cm_gt, cm_ge, cm_eqi, cm_nei, cm_eqb, cm_neb, tr_bl, tr_int, ng_int, noExc, getSelf, getExn, E.isVar, bl_len, bl_absI, bl_maxI, bl_minI, bl_intI, bl_intB, bl_boolB, bl_list, bl_tuple, evLen, items, nb_non, nb_bl, nb_int, nb_str, nb_tup, nb_lst, nb_ins, nb_obj, nb_bor, lim, isNon, ty_non, ty_bl, ty_int, ty_str, ty_tup, ty_lst, ty_ins, isTy, setAtt, cl_ins, dcall, dcallF, dcallL, fldOk, putN, selfOut, fldsOf, lev_T, lev_hot, lev_heat, lev_call, lev_low, lev_make, lev_hcall, lev_hlow, lev_hmake, Option.bind, List.any, List.all, List.set, ite_true, ite_false, LINE, tcls0, c0, tcls1, c1, tcls2, c2, mth2_16, mth2_25, mth2_0, mth2_1, mth2_2, mth2_4, mth2_5, mth2_6, mth2_7, mth2_8, mth2_9, mth2_10, mth2_11, mth2_12, mth2_13, at2_20, at2_21, at2_23, at2_22, e]
theorem top_ok : callT Tk (lev Tk hot n) 4 [R p] μ = .ok (.int p.num) μ := by
  rw [go4_1]
  simp [b4, R, rt, exSs, exS.eq_1, exS.eq_2, exS.eq_3, exS.eq_4, exS.eq_5, exS.eq_6, exS.eq_7, exS.eq_8, exS.eq_9, exS.eq_10, exS.eq_11, exS.eq_12, exS.eq_13, exS.eq_14, exS.eq_15, exS.eq_17, exS.eq_18, exS.eq_19, exS.eq_20, exS.eq_21, xs_for, evE.eq_1, evE.eq_2, evE.eq_3, evE.eq_4, evE.eq_5, evE.eq_6, evE.eq_7, evE.eq_8, evE.eq_9, evE.eq_10, evE.eq_11, evE.eq_12, evE.eq_13, evE.eq_14, evE.eq_15, evE.eq_16, evE.eq_17, evE.eq_18, evE.eq_19, evE.eq_20, evE.eq_21, evE.eq_22, evE.eq_23, evE.eq_24, evE.eq_26, xe_comp, evEs, evFs, fmtD, evEo, evTo, evT, evIt, getVar, bT_name, bT_tup, bT_lst, bindTs, Res.bind_ok, Res.bind_exc, Res.bind_stuck, Res.st_ok, Res.st_exc, SR.seq_nx, SR.seq_ret, SR.seq_exc, outF_ret, outF_nx, outI_nx, b2_add, b2_sub, cm_lt, cm_le, cm_gt, cm_ge, cm_eqi, cm_nei, cm_eqb, cm_neb, tr_bl, tr_int, ng_int, noExc, getSelf, getExn, E.isVar, bl_len, bl_absI, bl_maxI, bl_minI, bl_intI, bl_intB, bl_boolB, bl_list, bl_tuple, evLen, items, nb_non, nb_bl, nb_int, nb_str, nb_tup, nb_lst, nb_ins, nb_obj, nb_bor, lim, isNon, ty_non, ty_bl, ty_int, ty_str, ty_tup, ty_lst, ty_ins, isTy, setAtt, cl_ins, dcall, dcallF, dcallL, fldOk, putN, selfOut, fldsOf, lev_T, lev_hot, lev_heat, lev_call, lev_low, lev_make, lev_hcall, lev_hlow, lev_hmake, Option.bind, List.any, List.all, List.set, ite_true, ite_false, LINE, tcls0, c0, tcls1, c1, tcls2, c2, mth2_16, mth2_25, mth2_0, mth2_1, mth2_2, mth2_4, mth2_5, mth2_6, mth2_7, mth2_8, mth2_9, mth2_10, mth2_11, mth2_12, mth2_13, at2_20, at2_21, at2_23, at2_22]
theorem bottom_ok : callT Tk (lev Tk hot n) 5 [R p] μ = .ok (.int p.den) μ := by
  rw [go5_1]
  simp [b5, R, rt, exSs, exS.eq_1, exS.eq_2, exS.eq_3, exS.eq_4, exS.eq_5, exS.eq_6, exS.eq_7, exS.eq_8, exS.eq_9, exS.eq_10, exS.eq_11, exS.eq_12, exS.eq_13, exS.eq_14, exS.eq_15, exS.eq_17, exS.eq_18, exS.eq_19, exS.eq_20, exS.eq_21, xs_for, evE.eq_1, evE.eq_2, evE.eq_3, evE.eq_4, evE.eq_5, evE.eq_6, evE.eq_7, evE.eq_8, evE.eq_9, evE.eq_10, evE.eq_11, evE.eq_12, evE.eq_13, evE.eq_14, evE.eq_15, evE.eq_16, evE.eq_17, evE.eq_18, evE.eq_19, evE.eq_20, evE.eq_21, evE.eq_22, evE.eq_23, evE.eq_24, evE.eq_26, xe_comp, evEs, evFs, fmtD, evEo, evTo, evT, evIt, getVar, bT_name, bT_tup, bT_lst, bindTs, Res.bind_ok, Res.bind_exc, Res.bind_stuck, Res.st_ok, Res.st_exc, SR.seq_nx, SR.seq_ret, SR.seq_exc, outF_ret, outF_nx, outI_nx, b2_add, b2_sub, cm_lt, cm_le, cm_gt, cm_ge, cm_eqi, cm_nei, cm_eqb, cm_neb, tr_bl, tr_int, ng_int, noExc, getSelf, getExn, E.isVar, bl_len, bl_absI, bl_maxI, bl_minI, bl_intI, bl_intB, bl_boolB, bl_list, bl_tuple, evLen, items, nb_non, nb_bl, nb_int, nb_str, nb_tup, nb_lst, nb_ins, nb_obj, nb_bor, lim, isNon, ty_non, ty_bl, ty_int, ty_str, ty_tup, ty_lst, ty_ins, isTy, setAtt, cl_ins, dcall, dcallF, dcallL, fldOk, putN, selfOut, fldsOf, lev_T, lev_hot, lev_heat, lev_call, lev_low, lev_make, lev_hcall, lev_hlow, lev_hmake, Option.bind, List.any, List.all, List.set, ite_true, ite_false, LINE, tcls0, c0, tcls1, c1, tcls2, c2, mth2_16, mth2_25, mth2_0, mth2_1, mth2_2, mth2_4, mth2_5, mth2_6, mth2_7, mth2_8, mth2_9, mth2_10, mth2_11, mth2_12, mth2_13, at2_20, at2_21, at2_23, at2_22]
theorem rat_num_den : (decide (p.num = q.num) && decide (p.den = q.den)) = decide (p = q) := by
  rw [Bool.eq_iff_iff]
  simp only [Bool.and_eq_true, decide_eq_true_eq]
  exact ⟨fun z => Rat.ext z.1 z.2, fun z => by rw [z]; simp⟩
theorem eq_ok : callT Tk (lev Tk hot (n + 1)) 12 [R p, R q] μ = .ok (.bl (decide (p = q))) μ := by
  rw [go12_2, ← rat_num_den]
  have e : ∀ x y : Nat, ((x : Int) = (y : Int)) = (x = y) := fun x y => by rw [Int.ofNat_inj]
  by_cases h1 : p.num = q.num
  · simp [b12, R, rt, exSs, exS.eq_1, exS.eq_2, exS.eq_3, exS.eq_4, exS.eq_5, exS.eq_6, exS.eq_7, exS.eq_8, exS.eq_9, exS.eq_10, exS.eq_11, exS.eq_12, exS.eq_13, exS.eq_14, exS.eq_15, exS.eq_17, exS.eq_18, exS.eq_19, exS.eq_20, exS.eq_21, xs_for, evE.eq_1, evE.eq_2, evE.eq_3, evE.eq_4, evE.eq_5, evE.eq_6, evE.eq_7, evE.eq_8, evE.eq_9, evE.eq_10, evE.eq_11, evE.eq_12, evE.eq_13, evE.eq_14, evE.eq_15, evE.eq_16, evE.eq_17, evE.eq_18, evE.eq_19, evE.eq_20, evE.eq_21, evE.eq_22, evE.eq_23, evE.eq_24, evE.eq_26, xe_comp, evEs, evFs, fmtD, evEo, evTo, evT, evIt, getVar, bT_name, bT_tup, bT_lst, bindTs, Res.bind_ok, Res.bind_exc, Res.bind_stuck, Res.st_ok, Res.st_exc, SR.seq_nx, SR.seq_ret, SR.seq_exc, outF_ret, outF_nx, outI_nx, b2_add, b2_sub, cm_lt, cm_le, cm_gt, cm_ge, cm_eqi, cm_nei, cm_eqb, cm_neb, tr_bl, tr_int, ng_int, noExc, getSelf, getExn, E.isVar, bl_len, bl_absI, bl_maxI, bl_minI, bl_intI, bl_intB, bl_boolB, bl_list, bl_tuple, evLen, items, nb_non, nb_bl, nb_int, nb_str, nb_tup, nb_lst, nb_ins, nb_obj, nb_bor, lim, isNon, ty_non, ty_bl, ty_int, ty_str, ty_tup, ty_lst, ty_ins, isTy, setAtt, cl_ins, dcall, dcallF, dcallL, fldOk, putN, selfOut, fldsOf, lev_T, lev_hot, lev_heat, lev_call, lev_low, lev_make, lev_hcall, lev_hlow, lev_hmake, Option.bind, List.any, List.all, List.set, ite_true, ite_false, LINE, tcls0, c0, tcls1, c1, tcls2, c2, mth2_16, mth2_25, mth2_0, mth2_1, mth2_2, mth2_4, mth2_5, mth2_6, mth2_7, mth2_8, mth2_9, mth2_10, mth2_11, mth2_12, mth2_13, at2_20, at2_21, at2_23, at2_22, h1, e]
  · simp [b12, R, rt, exSs, exS.eq_1, exS.eq_2, exS.eq_3, exS.eq_4, exS.eq_5, exS.eq_6, exS.eq_7, exS.eq_8, exS.eq_9, exS.eq_10, exS.eq_11, exS.eq_12, exS.eq_13, exS.eq_14, exS.eq_15, exS.eq_17, exS.eq_18, exS.eq_19, exS.eq_20, exS.eq_21, xs_for, evE.eq_1, evE.eq_2, evE.eq_3, evE.eq_4, evE.eq_5, evE.eq_6, evE.eq_7, evE.eq_8, evE.eq_9, evE.eq_10, evE.eq_11, evE.eq_12, evE.eq_13, evE.eq_14, evE.eq_15, evE.eq_16, evE.eq_17, evE.eq_18, evE.eq_19, evE.eq_20, evE.eq_21, evE.eq_22, evE.eq_23, evE.eq_24, evE.eq_26, xe_comp, evEs, evFs, fmtD, evEo, evTo, evT, evIt, getVar, bT_name, bT_tup, bT_lst, bindTs, Res.bind_ok, Res.bind_exc, Res.bind_stuck, Res.st_ok, Res.st_exc, SR.seq_nx, SR.seq_ret, SR.seq_exc, outF_ret, outF_nx, outI_nx, b2_add, b2_sub, cm_lt, cm_le, cm_gt, cm_ge, cm_eqi, cm_nei, cm_eqb, cm_neb, tr_bl, tr_int, ng_int, noExc, getSelf, getExn, E.isVar, bl_len, bl_absI, bl_maxI, bl_minI, bl_intI, bl_intB, bl_boolB, bl_list, bl_tuple, evLen, items, nb_non, nb_bl, nb_int, nb_str, nb_tup, nb_lst, nb_ins, nb_obj, nb_bor, lim, isNon, ty_non, ty_bl, ty_int, ty_str, ty_tup, ty_lst, ty_ins, isTy, setAtt, cl_ins, dcall, dcallF, dcallL, fldOk, putN, selfOut, fldsOf, lev_T, lev_hot, lev_heat, lev_call, lev_low, lev_make, lev_hcall, lev_hlow, lev_hmake, Option.bind, List.any, List.all, List.set, ite_true, ite_false, LINE, tcls0, c0, tcls1, c1, tcls2, c2, mth2_16, mth2_25, mth2_0, mth2_1, mth2_2, mth2_4, mth2_5, mth2_6, mth2_7, mth2_8, mth2_9, mth2_10, mth2_11, mth2_12, mth2_13, at2_20, at2_21, at2_23, at2_22, h1]
theorem one_divInt (i : Int) : Rat.divInt i 1 = (i : Rat) := by rw [Rat.divInt_eq_div]; grind
theorem ratioI_ok (i : Int) : callT Tk (lev Tk hot (n + 3)) 21 [.int i] μ = .ok (R i) μ := by
  rw [go21_1]
  have e : makeT Tk (lev Tk hot (n + 1)) 2 [.int i] μ = .ok (R i) μ := by
    rw [← one_divInt, ← mk_ok (by decide), mk2_1, mk2_2]
  simp [b21, R, rt, exSs, exS.eq_1, exS.eq_2, exS.eq_3, exS.eq_4, exS.eq_5, exS.eq_6, exS.eq_7, exS.eq_8, exS.eq_9, exS.eq_10, exS.eq_11, exS.eq_12, exS.eq_13, exS.eq_14, exS.eq_15, exS.eq_17, exS.eq_18, exS.eq_19, exS.eq_20, exS.eq_21, xs_for, evE.eq_1, evE.eq_2, evE.eq_3, evE.eq_4, evE.eq_5, evE.eq_6, evE.eq_7, evE.eq_8, evE.eq_9, evE.eq_10, evE.eq_11, evE.eq_12, evE.eq_13, evE.eq_14, evE.eq_15, evE.eq_16, evE.eq_17, evE.eq_18, evE.eq_19, evE.eq_20, evE.eq_21, evE.eq_22, evE.eq_23, evE.eq_24, evE.eq_26, xe_comp, evEs, evFs, fmtD, evEo, evTo, evT, evIt, getVar, bT_name, bT_tup, bT_lst, bindTs, Res.bind_ok, Res.bind_exc, Res.bind_stuck, Res.st_ok, Res.st_exc, SR.seq_nx, SR.seq_ret, SR.seq_exc, outF_ret, outF_nx, outI_nx, b2_add, b2_sub, cm_lt, cm_le, cm_gt, cm_ge, cm_eqi, cm_nei, cm_eqb, cm_neb, tr_bl, tr_int, ng_int, noExc, getSelf, getExn, E.isVar, bl_len, bl_absI, bl_maxI, bl_minI, bl_intI, bl_intB, bl_boolB, bl_list, bl_tuple, evLen, items, nb_non, nb_bl, nb_int, nb_str, nb_tup, nb_lst, nb_ins, nb_obj, nb_bor, lim, isNon, ty_non, ty_bl, ty_int, ty_str, ty_tup, ty_lst, ty_ins, isTy, setAtt, cl_ins, dcall, dcallF, dcallL, fldOk, putN, selfOut, fldsOf, lev_T, lev_hot, lev_heat, lev_call, lev_low, lev_make, lev_hcall, lev_hlow, lev_hmake, Option.bind, List.any, List.all, List.set, ite_true, ite_false, LINE, tcls0, c0, tcls1, c1, tcls2, c2, mth2_16, mth2_25, mth2_0, mth2_1, mth2_2, mth2_4, mth2_5, mth2_6, mth2_7, mth2_8, mth2_9, mth2_10, mth2_11, mth2_12, mth2_13, at2_20, at2_21, at2_23, at2_22, isint_int]
  rw [e]
  simp [R, rt, exSs, exS.eq_1, exS.eq_2, exS.eq_3, exS.eq_4, exS.eq_5, exS.eq_6, exS.eq_7, exS.eq_8, exS.eq_9, exS.eq_10, exS.eq_11, exS.eq_12, exS.eq_13, exS.eq_14, exS.eq_15, exS.eq_17, exS.eq_18, exS.eq_19, exS.eq_20, exS.eq_21, xs_for, evE.eq_1, evE.eq_2, evE.eq_3, evE.eq_4, evE.eq_5, evE.eq_6, evE.eq_7, evE.eq_8, evE.eq_9, evE.eq_10, evE.eq_11, evE.eq_12, evE.eq_13, evE.eq_14, evE.eq_15, evE.eq_16, evE.eq_17, evE.eq_18, evE.eq_19, evE.eq_20, evE.eq_21, evE.eq_22, evE.eq_23, evE.eq_24, evE.eq_26, xe_comp, evEs, evFs, fmtD, evEo, evTo, evT, evIt, getVar, bT_name, bT_tup, bT_lst, bindTs, Res.bind_ok, Res.bind_exc, Res.bind_stuck, Res.st_ok, Res.st_exc, SR.seq_nx, SR.seq_ret, SR.seq_exc, outF_ret, outF_nx, outI_nx, b2_add, b2_sub, cm_lt, cm_le, cm_gt, cm_ge, cm_eqi, cm_nei, cm_eqb, cm_neb, tr_bl, tr_int, ng_int, noExc, getSelf, getExn, E.isVar, bl_len, bl_absI, bl_maxI, bl_minI, bl_intI, bl_intB, bl_boolB, bl_list, bl_tuple, evLen, items, nb_non, nb_bl, nb_int, nb_str, nb_tup, nb_lst, nb_ins, nb_obj, nb_bor, lim, isNon, ty_non, ty_bl, ty_int, ty_str, ty_tup, ty_lst, ty_ins, isTy, setAtt, cl_ins, dcall, dcallF, dcallL, fldOk, putN, selfOut, fldsOf, lev_T, lev_hot, lev_heat, lev_call, lev_low, lev_make, lev_hcall, lev_hlow, lev_hmake, Option.bind, List.any, List.all, List.set, ite_true, ite_false, LINE, tcls0, c0, tcls1, c1, tcls2, c2, mth2_16, mth2_25, mth2_0, mth2_1, mth2_2, mth2_4, mth2_5, mth2_6, mth2_7, mth2_8, mth2_9, mth2_10, mth2_11, mth2_12, mth2_13, at2_20, at2_21, at2_23, at2_22]
theorem ratioR_ok : callT Tk (lev Tk hot n) 21 [R p] μ = .ok (R p) μ := by
  rw [go21_1]
  simp [b21, R, rt, exSs, exS.eq_1, exS.eq_2, exS.eq_3, exS.eq_4, exS.eq_5, exS.eq_6, exS.eq_7, exS.eq_8, exS.eq_9, exS.eq_10, exS.eq_11, exS.eq_12, exS.eq_13, exS.eq_14, exS.eq_15, exS.eq_17, exS.eq_18, exS.eq_19, exS.eq_20, exS.eq_21, xs_for, evE.eq_1, evE.eq_2, evE.eq_3, evE.eq_4, evE.eq_5, evE.eq_6, evE.eq_7, evE.eq_8, evE.eq_9, evE.eq_10, evE.eq_11, evE.eq_12, evE.eq_13, evE.eq_14, evE.eq_15, evE.eq_16, evE.eq_17, evE.eq_18, evE.eq_19, evE.eq_20, evE.eq_21, evE.eq_22, evE.eq_23, evE.eq_24, evE.eq_26, xe_comp, evEs, evFs, fmtD, evEo, evTo, evT, evIt, getVar, bT_name, bT_tup, bT_lst, bindTs, Res.bind_ok, Res.bind_exc, Res.bind_stuck, Res.st_ok, Res.st_exc, SR.seq_nx, SR.seq_ret, SR.seq_exc, outF_ret, outF_nx, outI_nx, b2_add, b2_sub, cm_lt, cm_le, cm_gt, cm_ge, cm_eqi, cm_nei, cm_eqb, cm_neb, tr_bl, tr_int, ng_int, noExc, getSelf, getExn, E.isVar, bl_len, bl_absI, bl_maxI, bl_minI, bl_intI, bl_intB, bl_boolB, bl_list, bl_tuple, evLen, items, nb_non, nb_bl, nb_int, nb_str, nb_tup, nb_lst, nb_ins, nb_obj, nb_bor, lim, isNon, ty_non, ty_bl, ty_int, ty_str, ty_tup, ty_lst, ty_ins, isTy, setAtt, cl_ins, dcall, dcallF, dcallL, fldOk, putN, selfOut, fldsOf, lev_T, lev_hot, lev_heat, lev_call, lev_low, lev_make, lev_hcall, lev_hlow, lev_hmake, Option.bind, List.any, List.all, List.set, ite_true, ite_false, LINE, tcls0, c0, tcls1, c1, tcls2, c2, mth2_16, mth2_25, mth2_0, mth2_1, mth2_2, mth2_4, mth2_5, mth2_6, mth2_7, mth2_8, mth2_9, mth2_10, mth2_11, mth2_12, mth2_13, at2_20, at2_21, at2_23, at2_22]
theorem opR {k : B2} : evB2 (lev Tk hot (n + 1)) k (R p) (R q) μ = dcall (lev Tk hot (n + 1)) k.m (R p) [R q] μ := by cases k <;> rfl
theorem b2_addR (a b : Nat) (hp : sz p a) (hq : sz q b) (h : a + b ≤ MLIM) : evB2 (lev Tk hot (n + 4)) .add (R p) (R q) μ = .ok (R (p + q)) μ := by
  rw [opR]; exact add_ok a b hp hq h
theorem b2_subR (a b : Nat) (hp : sz p a) (hq : sz q b) (h : a + b ≤ MLIM) : evB2 (lev Tk hot (n + 4)) .sub (R p) (R q) μ = .ok (R (p - q)) μ := by
  rw [opR]; exact sub_ok a b hp hq h
theorem b2_mulR (a b : Nat) (hp : sz p a) (hq : sz q b) (h : a + b ≤ MLIM) : evB2 (lev Tk hot (n + 4)) .mul (R p) (R q) μ = .ok (R (p * q)) μ := by
  rw [opR]; exact mul_ok a b hp hq h
theorem cm_ltR (a b : Nat) (hp : sz p a) (hq : sz q b) (h : a + b ≤ MLIM) : evCm (lev Tk hot (n + 2)) .lt (R p) (R q) μ = .ok (.bl (decide (p < q))) μ := lt_ok a b hp hq h
theorem cm_leR (a b : Nat) (hp : sz p a) (hq : sz q b) (h : a + b ≤ MLIM) : evCm (lev Tk hot (n + 2)) .le (R p) (R q) μ = .ok (.bl (decide (p ≤ q))) μ := le_ok a b hp hq h
theorem cm_gtR (a b : Nat) (hp : sz p a) (hq : sz q b) (h : a + b ≤ MLIM) : evCm (lev Tk hot (n + 2)) .gt (R p) (R q) μ = .ok (.bl (decide (q < p))) μ := gt_ok a b hp hq h
theorem cm_geR (a b : Nat) (hp : sz p a) (hq : sz q b) (h : a + b ≤ MLIM) : evCm (lev Tk hot (n + 2)) .ge (R p) (R q) μ = .ok (.bl (decide (q ≤ p))) μ := ge_ok a b hp hq h
theorem ng_R : evNeg (lev Tk hot (n + 4)) (R p) μ = .ok (R (-p)) μ := rneg_ok
theorem tr_R : truth (lev Tk hot (n + 2)) (R p) μ = .ok (decide (p ≠ 0)) μ := by
  show (callT Tk (lev Tk hot (n + 1)) 17 [R p] μ).bind _ = _
  rw [bool_ok]; rfl
theorem eqOkR {k : Nat} : eqOk (lev Tk hot (n + 3)) μ (k + 1) (R p) (R q) :=
  ⟨rfl, 12, decide (p = q), rfl, by rw [decide_eq_true_iff]; exact rt_inj.symm, eq_ok⟩
theorem eqD_R : eqD (lev Tk hot (n + 3)) (R p) (R q) μ = .ok (decide (p = q)) μ := by
  unfold eqD
  rw [if_pos eqOkR]
  congr 1
  rw [Bool.eq_iff_iff]
  simp only [decide_eq_true_eq]
  exact rt_inj
theorem cm_eqR : evCm (lev Tk hot (n + 3)) .eq (R p) (R q) μ = .ok (.bl (decide (p = q))) μ := by
  show resB (eqD (lev Tk hot (n + 3)) (R p) (R q) μ) = _
  rw [eqD_R]; rfl
theorem cm_neR : evCm (lev Tk hot (n + 3)) .ne (R p) (R q) μ = .ok (.bl (!decide (p = q))) μ := by
  show resB ((eqD (lev Tk hot (n + 3)) (R p) (R q) μ).bind _) = _
  rw [eqD_R]; rfl
theorem bl_absR : evBl (lev Tk hot (n + 5)) .abs [R p] μ = .ok (R p.abs) μ := rabs_ok
theorem nb_R : nbD (R p) = true := rfl
theorem cl_R : clsOf μ (R p) = some 2 := rfl
theorem ty_R : tyOf μ (R p) = some (.ins 2) := rfl
theorem at_topR : getAt (lev Tk hot (n + 2)) (R p) 23 μ = .ok (.int p.num) μ := by
  show noExc (callT Tk (lev Tk hot n) 4 [R p] μ) = _
  rw [top_ok]; rfl
theorem at_bottomR : getAt (lev Tk hot (n + 2)) (R p) 22 μ = .ok (.int p.den) μ := by
  show noExc (callT Tk (lev Tk hot n) 5 [R p] μ) = _
  rw [bottom_ok]; rfl
theorem b2_addN {a b : Nat} [hp : Sz p a] [hq : Sz q b] (h : a + b ≤ 134217728) : evB2 (lev Tk hot (n + 4)) .add (R p) (R q) μ = .ok (R (p + q)) μ := b2_addR a b hp.h hq.h h
theorem b2_subN {a b : Nat} [hp : Sz p a] [hq : Sz q b] (h : a + b ≤ 134217728) : evB2 (lev Tk hot (n + 4)) .sub (R p) (R q) μ = .ok (R (p - q)) μ := b2_subR a b hp.h hq.h h
theorem b2_mulN {a b : Nat} [hp : Sz p a] [hq : Sz q b] (h : a + b ≤ 134217728) : evB2 (lev Tk hot (n + 4)) .mul (R p) (R q) μ = .ok (R (p * q)) μ := b2_mulR a b hp.h hq.h h
theorem cm_ltN {a b : Nat} [hp : Sz p a] [hq : Sz q b] (h : a + b ≤ 134217728) : evCm (lev Tk hot (n + 2)) .lt (R p) (R q) μ = .ok (.bl (decide (p < q))) μ := cm_ltR a b hp.h hq.h h
theorem cm_leN {a b : Nat} [hp : Sz p a] [hq : Sz q b] (h : a + b ≤ 134217728) : evCm (lev Tk hot (n + 2)) .le (R p) (R q) μ = .ok (.bl (decide (p ≤ q))) μ := cm_leR a b hp.h hq.h h
theorem cm_gtN {a b : Nat} [hp : Sz p a] [hq : Sz q b] (h : a + b ≤ 134217728) : evCm (lev Tk hot (n + 2)) .gt (R p) (R q) μ = .ok (.bl (decide (q < p))) μ := cm_gtR a b hp.h hq.h h
theorem cm_geN {a b : Nat} [hp : Sz p a] [hq : Sz q b] (h : a + b ≤ 134217728) : evCm (lev Tk hot (n + 2)) .ge (R p) (R q) μ = .ok (.bl (decide (q ≤ p))) μ := cm_geR a b hp.h hq.h h
theorem overN {a b : Nat} [hp : Sz p a] [hq : Sz q b] (h : a + b ≤ 134217728) (hz : q ≠ 0) : callT Tk (lev Tk hot (n + 3)) 6 [R p, R q] μ = .ok (R (p / q)) μ := over_ok a b hp.h hq.h h hz
end
end
end Ev

set_option maxRecDepth 100000
set_option maxHeartbeats 1000000
namespace Ev
open PySem
theorem nth_nat {xs : List D} {k : Nat} (h : k < xs.length) : nth xs (k : Int) = xs[k]? := by
  unfold nth L2.atI L2.ixN
  rw [if_pos (by omega), if_pos (by omega)]
  simp
theorem nth_0 {x : D} {xs : List D} : nth (x :: xs) 0 = some x := nth_nat (k := 0) (by simp)
theorem nth_1 {x y : D} {xs : List D} : nth (x :: y :: xs) 1 = some y := nth_nat (k := 1) (by simp)
theorem nth_2 {x y z : D} {xs : List D} : nth (x :: y :: z :: xs) 2 = some z := nth_nat (k := 2) (by simp)
theorem b2_pow {C : Cl} {μ : Mu} {i j : Int} (h : 0 ≤ j ∧ j ≤ 1000000 ∧ i.natAbs < 2 ^ 64) : evB2 C .pow (.int i) (.int j) μ = .ok (.int (i ^ j.toNat)) μ := if_pos h
structure PoolIn (p0 p1 : Int) : Prop where
  a : 0 ≤ p0
  b : 0 ≤ p1
  c : p1 < 2147483647
section
variable {hot : Bool} {n : Nat} {μ : Mu}
theorem take_ok {i : Nat} {p0 p1 m : Int} (hm : 0 < m) (h : μ[i]? = some (.lst [.int p0, .int p1])) (P : PoolIn p0 p1) :
    ∃ v q0 q1, 0 ≤ v ∧ v < m ∧ PoolIn q0 q1 ∧ callT Tk (lev Tk hot n) 23 [.obj i, .int m] μ = .ok (.int v) (μ.set i (.lst [.int q0, .int q1])) := by
  have hi : i < μ.length := (List.getElem?_eq_some_iff.mp h).1
  rw [go23_2]
  have hm0 : m ≠ 0 := by omega
  by_cases h0 : 0 < p0
  · refine ⟨p0 % m, p0 / m, p1, Int.emod_nonneg _ hm0, Int.emod_lt_of_pos _ hm, ⟨Int.ediv_nonneg P.a (by omega), P.b, P.c⟩, ?_⟩
    simp [b23, exSs, exS.eq_1, exS.eq_2, exS.eq_3, exS.eq_4, exS.eq_5, exS.eq_6, exS.eq_7, exS.eq_8, exS.eq_9, exS.eq_10, exS.eq_11, exS.eq_12, exS.eq_13, exS.eq_14, exS.eq_15, exS.eq_17, exS.eq_18, exS.eq_19, exS.eq_20, exS.eq_21, xs_for, evE.eq_1, evE.eq_2, evE.eq_3, evE.eq_4, evE.eq_5, evE.eq_6, evE.eq_7, evE.eq_8, evE.eq_9, evE.eq_10, evE.eq_11, evE.eq_12, evE.eq_13, evE.eq_14, evE.eq_15, evE.eq_16, evE.eq_17, evE.eq_18, evE.eq_19, evE.eq_20, evE.eq_21, evE.eq_22, evE.eq_23, evE.eq_24, evE.eq_26, xe_comp, evEs, evFs, fmtD, evEo, evTo, evT, evIt, getVar, bT_name, bT_tup, bT_lst, bindTs, Res.bind_ok, Res.bind_exc, Res.bind_stuck, Res.st_ok, Res.st_exc, SR.seq_nx, SR.seq_ret, SR.seq_exc, outF_ret, outF_nx, outI_nx, b2_add, b2_sub, cm_lt, cm_le, cm_gt, cm_ge, cm_eqi, cm_nei, cm_eqb, cm_neb, tr_bl, tr_int, ng_int, noExc, getSelf, getExn, E.isVar, bl_len, bl_absI, bl_maxI, bl_minI, bl_intI, bl_intB, bl_boolB, bl_list, bl_tuple, evLen, items, nb_non, nb_bl, nb_int, nb_str, nb_tup, nb_lst, nb_ins, nb_obj, nb_bor, lim, isNon, ty_non, ty_bl, ty_int, ty_str, ty_tup, ty_lst, ty_ins, isTy, setAtt, cl_ins, dcall, dcallF, dcallL, fldOk, putN, selfOut, fldsOf, lev_T, lev_hot, lev_heat, lev_call, lev_low, lev_make, lev_hcall, lev_hlow, lev_hmake, Option.bind, List.any, List.all, List.set, ite_true, ite_false, LINE, tcls0, c0, tcls1, c1, tcls2, c2, mth2_16, mth2_25, mth2_0, mth2_1, mth2_2, mth2_4, mth2_5, mth2_6, mth2_7, mth2_8, mth2_9, mth2_10, mth2_11, mth2_12, mth2_13, at2_20, at2_21, at2_23, at2_22, getIx, nth_0, nth_1, h, h0, b2_mod hm0, b2_div hm0, setIx, Int.fmod_eq_emod_of_nonneg _ (show 0 ≤ m by omega), Int.fdiv_eq_ediv_of_nonneg _ (show 0 ≤ m by omega)]
  · obtain rfl : p0 = 0 := by have := P.a; omega
    generalize hq : (p1 * 48271 + 12345) % 2147483647 = q1
    have q1a : 0 ≤ q1 := by omega
    have q1b : q1 < 2147483647 := by omega
    have hset : ∀ x, (μ.set i x)[i]? = some x := fun x => by simp [hi]
    have hs : mulOk p1 48271 = true := mulOk_r (by decide)
    have hs2 : mulOk q1 q1 = true := mulOk_r (by omega)
    refine ⟨q1 * q1 % 2147483629 / 64 % m, 0, q1, Int.emod_nonneg _ hm0, Int.emod_lt_of_pos _ hm, ⟨by omega, q1a, q1b⟩, ?_⟩
    simp [b23, exSs, exS.eq_1, exS.eq_2, exS.eq_3, exS.eq_4, exS.eq_5, exS.eq_6, exS.eq_7, exS.eq_8, exS.eq_9, exS.eq_10, exS.eq_11, exS.eq_12, exS.eq_13, exS.eq_14, exS.eq_15, exS.eq_17, exS.eq_18, exS.eq_19, exS.eq_20, exS.eq_21, xs_for, evE.eq_1, evE.eq_2, evE.eq_3, evE.eq_4, evE.eq_5, evE.eq_6, evE.eq_7, evE.eq_8, evE.eq_9, evE.eq_10, evE.eq_11, evE.eq_12, evE.eq_13, evE.eq_14, evE.eq_15, evE.eq_16, evE.eq_17, evE.eq_18, evE.eq_19, evE.eq_20, evE.eq_21, evE.eq_22, evE.eq_23, evE.eq_24, evE.eq_26, xe_comp, evEs, evFs, fmtD, evEo, evTo, evT, evIt, getVar, bT_name, bT_tup, bT_lst, bindTs, Res.bind_ok, Res.bind_exc, Res.bind_stuck, Res.st_ok, Res.st_exc, SR.seq_nx, SR.seq_ret, SR.seq_exc, outF_ret, outF_nx, outI_nx, b2_add, b2_sub, cm_lt, cm_le, cm_gt, cm_ge, cm_eqi, cm_nei, cm_eqb, cm_neb, tr_bl, tr_int, ng_int, noExc, getSelf, getExn, E.isVar, bl_len, bl_absI, bl_maxI, bl_minI, bl_intI, bl_intB, bl_boolB, bl_list, bl_tuple, evLen, items, nb_non, nb_bl, nb_int, nb_str, nb_tup, nb_lst, nb_ins, nb_obj, nb_bor, lim, isNon, ty_non, ty_bl, ty_int, ty_str, ty_tup, ty_lst, ty_ins, isTy, setAtt, cl_ins, dcall, dcallF, dcallL, fldOk, putN, selfOut, fldsOf, lev_T, lev_hot, lev_heat, lev_call, lev_low, lev_make, lev_hcall, lev_hlow, lev_hmake, Option.bind, List.any, List.all, List.set, ite_true, ite_false, LINE, tcls0, c0, tcls1, c1, tcls2, c2, mth2_16, mth2_25, mth2_0, mth2_1, mth2_2, mth2_4, mth2_5, mth2_6, mth2_7, mth2_8, mth2_9, mth2_10, mth2_11, mth2_12, mth2_13, at2_20, at2_21, at2_23, at2_22, getIx, nth_0, nth_1, h, hset, b2_mod, b2_div, b2_mul, hs, hs2, hm0, setIx, Int.fmod_eq_emod_of_nonneg, hq, Int.fmod_eq_emod_of_nonneg _ (show 0 ≤ m by omega), Int.fdiv_eq_ediv_of_nonneg]
theorem pool_ok {ns : List Int} {k : Nat} (hk : k < 100) : ∃ p0 p1, PoolIn p0 p1 ∧ callT Tk (lev Tk hot n) 22 [.lst (ns.map D.int), .int k] μ = .ok (.obj μ.length) (μ ++ [.lst [.int p0, .int p1]]) := by
  rw [go22_2]
  obtain ⟨c, hc, e⟩ : ∃ c : Int, 0 ≤ c ∧ (if (k : Int) < (ns.length : Int) then c = ((ns.getD k 0).natAbs : Int) else c = 0) := by
    split
    · exact ⟨_, by omega, rfl⟩
    · exact ⟨0, by omega, rfl⟩
  have h1 : mulOk 7919 (k : Int) = true := mulOk_l (by decide)
  have h2 : mulOk (7919 * (k : Int)) (k : Int) = true := mulOk_r (by omega)
  have h3 : mulOk 31 (k : Int) = true := mulOk_l (by decide)
  have h4 : ∀ z : Int, mulOk z 48271 = true := fun z => mulOk_r (by decide)
  generalize hq : (c % 2147483629 + 7919 * (k : Int) * (k : Int) + 31 * (k : Int) + 17) * 48271 % 2147483647 = q
  have h5 : mulOk q q = true := mulOk_r (by omega)
  have h6 : mulOk c (if 1000000000000000000 ≤ c then 1 else 0) = true := mulOk_r (by split <;> decide)
  refine ⟨c * (if 1000000000000000000 ≤ c then 1 else 0), q * q % 2147483629, ⟨?_, Int.emod_nonneg _ (by decide), ?_⟩, ?_⟩
  · split <;> omega
  · have := Int.emod_lt_of_pos (q * q) (show (0 : Int) < 2147483629 by decide); omega
  by_cases hl : (k : Int) < (ns.length : Int)
  · rw [if_pos hl] at e
    obtain ⟨x, hn, hx⟩ : ∃ x, nth (ns.map D.int) (k : Int) = some (.int x) ∧ absI x = c := by
      refine ⟨ns.getD k 0, ?_, by rw [absI_eq, e]⟩
      rw [nth_nat (by simp; omega)]
      simp [List.getElem?_eq_getElem (show k < ns.length by omega), List.getD_eq_getElem?_getD]
    have hl' : k < ns.length := by omega
    simp [b22, exSs, exS.eq_1, exS.eq_2, exS.eq_3, exS.eq_4, exS.eq_5, exS.eq_6, exS.eq_7, exS.eq_8, exS.eq_9, exS.eq_10, exS.eq_11, exS.eq_12, exS.eq_13, exS.eq_14, exS.eq_15, exS.eq_17, exS.eq_18, exS.eq_19, exS.eq_20, exS.eq_21, xs_for, evE.eq_1, evE.eq_2, evE.eq_3, evE.eq_4, evE.eq_5, evE.eq_6, evE.eq_7, evE.eq_8, evE.eq_9, evE.eq_10, evE.eq_11, evE.eq_12, evE.eq_13, evE.eq_14, evE.eq_15, evE.eq_16, evE.eq_17, evE.eq_18, evE.eq_19, evE.eq_20, evE.eq_21, evE.eq_22, evE.eq_23, evE.eq_24, evE.eq_26, xe_comp, evEs, evFs, fmtD, evEo, evTo, evT, evIt, getVar, bT_name, bT_tup, bT_lst, bindTs, Res.bind_ok, Res.bind_exc, Res.bind_stuck, Res.st_ok, Res.st_exc, SR.seq_nx, SR.seq_ret, SR.seq_exc, outF_ret, outF_nx, outI_nx, b2_add, b2_sub, cm_lt, cm_le, cm_gt, cm_ge, cm_eqi, cm_nei, cm_eqb, cm_neb, tr_bl, tr_int, ng_int, noExc, getSelf, getExn, E.isVar, bl_len, bl_absI, bl_maxI, bl_minI, bl_intI, bl_intB, bl_boolB, bl_list, bl_tuple, evLen, items, nb_non, nb_bl, nb_int, nb_str, nb_tup, nb_lst, nb_ins, nb_obj, nb_bor, lim, isNon, ty_non, ty_bl, ty_int, ty_str, ty_tup, ty_lst, ty_ins, isTy, setAtt, cl_ins, dcall, dcallF, dcallL, fldOk, putN, selfOut, fldsOf, lev_T, lev_hot, lev_heat, lev_call, lev_low, lev_make, lev_hcall, lev_hlow, lev_hmake, Option.bind, List.any, List.all, List.set, ite_true, ite_false, LINE, tcls0, c0, tcls1, c1, tcls2, c2, mth2_16, mth2_25, mth2_0, mth2_1, mth2_2, mth2_4, mth2_5, mth2_6, mth2_7, mth2_8, mth2_9, mth2_10, mth2_11, mth2_12, mth2_13, at2_20, at2_21, at2_23, at2_22, getIx, hn, hl, hl', b2_mod, b2_mul, b2_pow, h1, h2, h3, h4, h5, h6, hx, Int.fmod_eq_emod_of_nonneg, hq]
  · rw [if_neg hl] at e
    subst e
    have hl' : ¬ k < ns.length := by omega
    have h7 : mulOk 0 0 = true := by decide
    simp at hq
    simp [b22, exSs, exS.eq_1, exS.eq_2, exS.eq_3, exS.eq_4, exS.eq_5, exS.eq_6, exS.eq_7, exS.eq_8, exS.eq_9, exS.eq_10, exS.eq_11, exS.eq_12, exS.eq_13, exS.eq_14, exS.eq_15, exS.eq_17, exS.eq_18, exS.eq_19, exS.eq_20, exS.eq_21, xs_for, evE.eq_1, evE.eq_2, evE.eq_3, evE.eq_4, evE.eq_5, evE.eq_6, evE.eq_7, evE.eq_8, evE.eq_9, evE.eq_10, evE.eq_11, evE.eq_12, evE.eq_13, evE.eq_14, evE.eq_15, evE.eq_16, evE.eq_17, evE.eq_18, evE.eq_19, evE.eq_20, evE.eq_21, evE.eq_22, evE.eq_23, evE.eq_24, evE.eq_26, xe_comp, evEs, evFs, fmtD, evEo, evTo, evT, evIt, getVar, bT_name, bT_tup, bT_lst, bindTs, Res.bind_ok, Res.bind_exc, Res.bind_stuck, Res.st_ok, Res.st_exc, SR.seq_nx, SR.seq_ret, SR.seq_exc, outF_ret, outF_nx, outI_nx, b2_add, b2_sub, cm_lt, cm_le, cm_gt, cm_ge, cm_eqi, cm_nei, cm_eqb, cm_neb, tr_bl, tr_int, ng_int, noExc, getSelf, getExn, E.isVar, bl_len, bl_absI, bl_maxI, bl_minI, bl_intI, bl_intB, bl_boolB, bl_list, bl_tuple, evLen, items, nb_non, nb_bl, nb_int, nb_str, nb_tup, nb_lst, nb_ins, nb_obj, nb_bor, lim, isNon, ty_non, ty_bl, ty_int, ty_str, ty_tup, ty_lst, ty_ins, isTy, setAtt, cl_ins, dcall, dcallF, dcallL, fldOk, putN, selfOut, fldsOf, lev_T, lev_hot, lev_heat, lev_call, lev_low, lev_make, lev_hcall, lev_hlow, lev_hmake, Option.bind, List.any, List.all, List.set, ite_true, ite_false, LINE, tcls0, c0, tcls1, c1, tcls2, c2, mth2_16, mth2_25, mth2_0, mth2_1, mth2_2, mth2_4, mth2_5, mth2_6, mth2_7, mth2_8, mth2_9, mth2_10, mth2_11, mth2_12, mth2_13, at2_20, at2_21, at2_23, at2_22, getIx, hl, hl', b2_mod, b2_mul, b2_pow, h1, h2, h3, h4, h5, h7, Int.fmod_eq_emod_of_nonneg, hq]
end
end Ev

set_option maxRecDepth 100000
set_option maxHeartbeats 4000000
namespace Ev
open PySem
def strR (q : Rat) : Str := if q.den = 1 then toString q.num else (toString q.num : Str) ++ ("/" : Str) ++ (toString (q.den : Int) : Str)
theorem str_e (t : Str) : Str.empty ++ t = t := by
  obtain ⟨a⟩ := t
  show Str.mk (#[] ++ a) = _
  simp
theorem len_app (a b : Str) : (a ++ b).length = a.length + b.length := by
  show (a.cps ++ b.cps).size = _
  rw [Array.size_append]; rfl
theorem txt_len {i : Int} (h : i.natAbs.log2 < 1920) : (Str.ofString (toString i)).length ≤ 2000 := by
  have e := int_text_length_le (k := 1920) (by decide) h
  rw [ofString_length]; omega
section
variable {hot : Bool} {n : Nat} {μ : Mu}
theorem bl_strI {C : Cl} {i : Int} (h : i.natAbs.log2 < 1920) : evBl C .str [.int i] μ = .ok (.str (toString i)) μ := if_pos h
theorem str_ok {q : Rat} (h1 : q.num.natAbs.log2 < 1920) (h2 : q.den.log2 < 1920) : callT Tk (lev Tk hot (n + 1)) 18 [R q] μ = .ok (.str (strR q)) μ := by
  rw [go18_1]
  unfold strR
  by_cases hd : q.den = 1
  · simp [b18, R, rt, exSs, exS.eq_1, exS.eq_2, exS.eq_3, exS.eq_4, exS.eq_5, exS.eq_6, exS.eq_7, exS.eq_8, exS.eq_9, exS.eq_10, exS.eq_11, exS.eq_12, exS.eq_13, exS.eq_14, exS.eq_15, exS.eq_17, exS.eq_18, exS.eq_19, exS.eq_20, exS.eq_21, xs_for, evE.eq_1, evE.eq_2, evE.eq_3, evE.eq_4, evE.eq_5, evE.eq_6, evE.eq_7, evE.eq_8, evE.eq_9, evE.eq_10, evE.eq_11, evE.eq_12, evE.eq_13, evE.eq_14, evE.eq_15, evE.eq_16, evE.eq_17, evE.eq_18, evE.eq_19, evE.eq_20, evE.eq_21, evE.eq_22, evE.eq_23, evE.eq_24, evE.eq_26, xe_comp, evEs, evFs, fmtD, evEo, evTo, evT, evIt, getVar, bT_name, bT_tup, bT_lst, bindTs, Res.bind_ok, Res.bind_exc, Res.bind_stuck, Res.st_ok, Res.st_exc, SR.seq_nx, SR.seq_ret, SR.seq_exc, outF_ret, outF_nx, outI_nx, b2_add, b2_sub, cm_lt, cm_le, cm_gt, cm_ge, cm_eqi, cm_nei, cm_eqb, cm_neb, tr_bl, tr_int, ng_int, noExc, getSelf, getExn, E.isVar, bl_len, bl_absI, bl_maxI, bl_minI, bl_intI, bl_intB, bl_boolB, bl_list, bl_tuple, evLen, items, nb_non, nb_bl, nb_int, nb_str, nb_tup, nb_lst, nb_ins, nb_obj, nb_bor, lim, isNon, ty_non, ty_bl, ty_int, ty_str, ty_tup, ty_lst, ty_ins, isTy, setAtt, cl_ins, dcall, dcallF, dcallL, fldOk, putN, selfOut, fldsOf, lev_T, lev_hot, lev_heat, lev_call, lev_low, lev_make, lev_hcall, lev_hlow, lev_hmake, Option.bind, List.any, List.all, List.set, ite_true, ite_false, LINE, tcls0, c0, tcls1, c1, tcls2, c2, mth2_16, mth2_25, mth2_0, mth2_1, mth2_2, mth2_4, mth2_5, mth2_6, mth2_7, mth2_8, mth2_9, mth2_10, mth2_11, mth2_12, mth2_13, at2_20, at2_21, at2_23, at2_22, bl_strI h1, hd]
  · have hd2 : ¬ ((q.den : Int) = 1) := by omega
    have l1 := txt_len h1
    have l2 := txt_len (i := (q.den : Int)) (by simpa using h2)
    have l3 : (Str.ofString "/").length = 1 := by decide
    have e1 : (Str.ofString (toString q.num)).length ≤ 16777216 := by omega
    have e2 : (Str.ofString "/").length ≤ 16777216 := by omega
    have e3 : (Str.ofString (toString q.num) ++ Str.ofString "/").length ≤ 16777216 := by rw [len_app]; omega
    have e4 : (Str.ofString (toString q.num) ++ Str.ofString "/" ++ Str.ofString (toString (q.den : Int))).length ≤ 16777216 := by rw [len_app, len_app]; omega
    generalize hx : Str.ofString (toString q.num) = tx at *
    generalize hy : Str.ofString (toString (q.den : Int)) = ty at *
    have f1 : fmtD (.int q.num) = some tx := by rw [← hx]; exact if_pos h1
    have f2 : fmtD (.int (q.den : Int)) = some ty := by rw [← hy]; exact if_pos (by simpa using h2)
    have f3 : fmtD (.str (Str.ofString "/")) = some (Str.ofString "/") := by unfold fmtD; exact if_pos e2
    rw [if_neg hd]
    simp [b18, R, rt, exSs, exS.eq_1, exS.eq_2, exS.eq_3, exS.eq_4, exS.eq_5, exS.eq_6, exS.eq_7, exS.eq_8, exS.eq_9, exS.eq_10, exS.eq_11, exS.eq_12, exS.eq_13, exS.eq_14, exS.eq_15, exS.eq_17, exS.eq_18, exS.eq_19, exS.eq_20, exS.eq_21, xs_for, evE.eq_1, evE.eq_2, evE.eq_3, evE.eq_4, evE.eq_5, evE.eq_6, evE.eq_7, evE.eq_8, evE.eq_9, evE.eq_10, evE.eq_11, evE.eq_12, evE.eq_13, evE.eq_14, evE.eq_15, evE.eq_16, evE.eq_17, evE.eq_18, evE.eq_19, evE.eq_20, evE.eq_21, evE.eq_22, evE.eq_23, evE.eq_24, evE.eq_26, xe_comp, evEs, evFs, evEo, evTo, evT, evIt, getVar, bT_name, bT_tup, bT_lst, bindTs, Res.bind_ok, Res.bind_exc, Res.bind_stuck, Res.st_ok, Res.st_exc, SR.seq_nx, SR.seq_ret, SR.seq_exc, outF_ret, outF_nx, outI_nx, b2_add, b2_sub, cm_lt, cm_le, cm_gt, cm_ge, cm_eqi, cm_nei, cm_eqb, cm_neb, tr_bl, tr_int, ng_int, noExc, getSelf, getExn, E.isVar, bl_len, bl_absI, bl_maxI, bl_minI, bl_intI, bl_intB, bl_boolB, bl_list, bl_tuple, evLen, items, nb_non, nb_bl, nb_int, nb_str, nb_tup, nb_lst, nb_ins, nb_obj, nb_bor, lim, isNon, ty_non, ty_bl, ty_int, ty_str, ty_tup, ty_lst, ty_ins, isTy, setAtt, cl_ins, dcall, dcallF, dcallL, fldOk, putN, selfOut, fldsOf, lev_T, lev_hot, lev_heat, lev_call, lev_low, lev_make, lev_hcall, lev_hlow, lev_hmake, Option.bind, List.any, List.all, List.set, ite_true, ite_false, LINE, tcls0, c0, tcls1, c1, tcls2, c2, mth2_16, mth2_25, mth2_0, mth2_1, mth2_2, mth2_4, mth2_5, mth2_6, mth2_7, mth2_8, mth2_9, mth2_10, mth2_11, mth2_12, mth2_13, at2_20, at2_21, at2_23, at2_22, hd, hd2, f1, f2, f3, str_e, e1, e3, e4]
theorem repr_ok {q : Rat} (h1 : q.num.natAbs.log2 < 1920) (h2 : q.den.log2 < 1920) : callT Tk (lev Tk hot (n + 1)) 19 [R q] μ = .ok (.str (strR q)) μ := by
  rw [go19_1]
  unfold strR
  by_cases hd : q.den = 1
  · simp [b19, R, rt, exSs, exS.eq_1, exS.eq_2, exS.eq_3, exS.eq_4, exS.eq_5, exS.eq_6, exS.eq_7, exS.eq_8, exS.eq_9, exS.eq_10, exS.eq_11, exS.eq_12, exS.eq_13, exS.eq_14, exS.eq_15, exS.eq_17, exS.eq_18, exS.eq_19, exS.eq_20, exS.eq_21, xs_for, evE.eq_1, evE.eq_2, evE.eq_3, evE.eq_4, evE.eq_5, evE.eq_6, evE.eq_7, evE.eq_8, evE.eq_9, evE.eq_10, evE.eq_11, evE.eq_12, evE.eq_13, evE.eq_14, evE.eq_15, evE.eq_16, evE.eq_17, evE.eq_18, evE.eq_19, evE.eq_20, evE.eq_21, evE.eq_22, evE.eq_23, evE.eq_24, evE.eq_26, xe_comp, evEs, evFs, fmtD, evEo, evTo, evT, evIt, getVar, bT_name, bT_tup, bT_lst, bindTs, Res.bind_ok, Res.bind_exc, Res.bind_stuck, Res.st_ok, Res.st_exc, SR.seq_nx, SR.seq_ret, SR.seq_exc, outF_ret, outF_nx, outI_nx, b2_add, b2_sub, cm_lt, cm_le, cm_gt, cm_ge, cm_eqi, cm_nei, cm_eqb, cm_neb, tr_bl, tr_int, ng_int, noExc, getSelf, getExn, E.isVar, bl_len, bl_absI, bl_maxI, bl_minI, bl_intI, bl_intB, bl_boolB, bl_list, bl_tuple, evLen, items, nb_non, nb_bl, nb_int, nb_str, nb_tup, nb_lst, nb_ins, nb_obj, nb_bor, lim, isNon, ty_non, ty_bl, ty_int, ty_str, ty_tup, ty_lst, ty_ins, isTy, setAtt, cl_ins, dcall, dcallF, dcallL, fldOk, putN, selfOut, fldsOf, lev_T, lev_hot, lev_heat, lev_call, lev_low, lev_make, lev_hcall, lev_hlow, lev_hmake, Option.bind, List.any, List.all, List.set, ite_true, ite_false, LINE, tcls0, c0, tcls1, c1, tcls2, c2, mth2_16, mth2_25, mth2_0, mth2_1, mth2_2, mth2_4, mth2_5, mth2_6, mth2_7, mth2_8, mth2_9, mth2_10, mth2_11, mth2_12, mth2_13, at2_20, at2_21, at2_23, at2_22, bl_strI h1, hd]
  · have hd2 : ¬ ((q.den : Int) = 1) := by omega
    have l1 := txt_len h1
    have l2 := txt_len (i := (q.den : Int)) (by simpa using h2)
    have l3 : (Str.ofString "/").length = 1 := by decide
    have e1 : (Str.ofString (toString q.num)).length ≤ 16777216 := by omega
    have e2 : (Str.ofString "/").length ≤ 16777216 := by omega
    have e3 : (Str.ofString (toString q.num) ++ Str.ofString "/").length ≤ 16777216 := by rw [len_app]; omega
    have e4 : (Str.ofString (toString q.num) ++ Str.ofString "/" ++ Str.ofString (toString (q.den : Int))).length ≤ 16777216 := by rw [len_app, len_app]; omega
    generalize hx : Str.ofString (toString q.num) = tx at *
    generalize hy : Str.ofString (toString (q.den : Int)) = ty at *
    have f1 : fmtD (.int q.num) = some tx := by rw [← hx]; exact if_pos h1
    have f2 : fmtD (.int (q.den : Int)) = some ty := by rw [← hy]; exact if_pos (by simpa using h2)
    have f3 : fmtD (.str (Str.ofString "/")) = some (Str.ofString "/") := by unfold fmtD; exact if_pos e2
    rw [if_neg hd]
    simp [b19, R, rt, exSs, exS.eq_1, exS.eq_2, exS.eq_3, exS.eq_4, exS.eq_5, exS.eq_6, exS.eq_7, exS.eq_8, exS.eq_9, exS.eq_10, exS.eq_11, exS.eq_12, exS.eq_13, exS.eq_14, exS.eq_15, exS.eq_17, exS.eq_18, exS.eq_19, exS.eq_20, exS.eq_21, xs_for, evE.eq_1, evE.eq_2, evE.eq_3, evE.eq_4, evE.eq_5, evE.eq_6, evE.eq_7, evE.eq_8, evE.eq_9, evE.eq_10, evE.eq_11, evE.eq_12, evE.eq_13, evE.eq_14, evE.eq_15, evE.eq_16, evE.eq_17, evE.eq_18, evE.eq_19, evE.eq_20, evE.eq_21, evE.eq_22, evE.eq_23, evE.eq_24, evE.eq_26, xe_comp, evEs, evFs, evEo, evTo, evT, evIt, getVar, bT_name, bT_tup, bT_lst, bindTs, Res.bind_ok, Res.bind_exc, Res.bind_stuck, Res.st_ok, Res.st_exc, SR.seq_nx, SR.seq_ret, SR.seq_exc, outF_ret, outF_nx, outI_nx, b2_add, b2_sub, cm_lt, cm_le, cm_gt, cm_ge, cm_eqi, cm_nei, cm_eqb, cm_neb, tr_bl, tr_int, ng_int, noExc, getSelf, getExn, E.isVar, bl_len, bl_absI, bl_maxI, bl_minI, bl_intI, bl_intB, bl_boolB, bl_list, bl_tuple, evLen, items, nb_non, nb_bl, nb_int, nb_str, nb_tup, nb_lst, nb_ins, nb_obj, nb_bor, lim, isNon, ty_non, ty_bl, ty_int, ty_str, ty_tup, ty_lst, ty_ins, isTy, setAtt, cl_ins, dcall, dcallF, dcallL, fldOk, putN, selfOut, fldsOf, lev_T, lev_hot, lev_heat, lev_call, lev_low, lev_make, lev_hcall, lev_hlow, lev_hmake, Option.bind, List.any, List.all, List.set, ite_true, ite_false, LINE, tcls0, c0, tcls1, c1, tcls2, c2, mth2_16, mth2_25, mth2_0, mth2_1, mth2_2, mth2_4, mth2_5, mth2_6, mth2_7, mth2_8, mth2_9, mth2_10, mth2_11, mth2_12, mth2_13, at2_20, at2_21, at2_23, at2_22, hd, hd2, f1, f2, f3, str_e, e1, e3, e4]
theorem bl_strR {q : Rat} (h1 : q.num.natAbs.log2 < 1920) (h2 : q.den.log2 < 1920) : evBl (lev Tk hot (n + 3)) .str [R q] μ = .ok (.str (strR q)) μ := by
  show (callT Tk (lev Tk hot (n + 1)) 18 [R q] μ).bind _ = _
  rw [str_ok h1 h2]; rfl
theorem bl_reprR {q : Rat} (h1 : q.num.natAbs.log2 < 1920) (h2 : q.den.log2 < 1920) : evBl (lev Tk hot (n + 3)) .repr [R q] μ = .ok (.str (strR q)) μ := by
  show (callT Tk (lev Tk hot (n + 1)) 19 [R q] μ).bind _ = _
  rw [repr_ok h1 h2]; rfl
theorem bl_boolR {q : Rat} : evBl (lev Tk hot (n + 3)) .bool [R q] μ = .ok (.bl (decide (q ≠ 0))) μ := by
  show (callT Tk (lev Tk hot (n + 1)) 17 [R q] μ).bind _ = _
  rw [bool_ok]; rfl
theorem ldiv_ok (a b : Nat) : callT Tk (lev Tk hot n) 24 [.int a, .int b] μ = .ok (.int (a.gcd b : Nat)) μ := by
  rw [go24_2]
  simp only [b24, T24_0, L24_0, exSs, exS]
  have e := gcd_while (C := lev Tk hot n) (μ := μ) b a
  simp only [exSs, exS] at e
  rw [e]
  simp [exSs, exS.eq_1, exS.eq_2, exS.eq_3, exS.eq_4, exS.eq_5, exS.eq_6, exS.eq_7, exS.eq_8, exS.eq_9, exS.eq_10, exS.eq_11, exS.eq_12, exS.eq_13, exS.eq_14, exS.eq_15, exS.eq_17, exS.eq_18, exS.eq_19, exS.eq_20, exS.eq_21, xs_for, evE.eq_1, evE.eq_2, evE.eq_3, evE.eq_4, evE.eq_5, evE.eq_6, evE.eq_7, evE.eq_8, evE.eq_9, evE.eq_10, evE.eq_11, evE.eq_12, evE.eq_13, evE.eq_14, evE.eq_15, evE.eq_16, evE.eq_17, evE.eq_18, evE.eq_19, evE.eq_20, evE.eq_21, evE.eq_22, evE.eq_23, evE.eq_24, evE.eq_26, xe_comp, evEs, evFs, fmtD, evEo, evTo, evT, evIt, getVar, bT_name, bT_tup, bT_lst, bindTs, Res.bind_ok, Res.bind_exc, Res.bind_stuck, Res.st_ok, Res.st_exc, SR.seq_nx, SR.seq_ret, SR.seq_exc, outF_ret, outF_nx, outI_nx, b2_add, b2_sub, cm_lt, cm_le, cm_gt, cm_ge, cm_eqi, cm_nei, cm_eqb, cm_neb, tr_bl, tr_int, ng_int, noExc, getSelf, getExn, E.isVar, bl_len, bl_absI, bl_maxI, bl_minI, bl_intI, bl_intB, bl_boolB, bl_list, bl_tuple, evLen, items, nb_non, nb_bl, nb_int, nb_str, nb_tup, nb_lst, nb_ins, nb_obj, nb_bor, lim, isNon, ty_non, ty_bl, ty_int, ty_str, ty_tup, ty_lst, ty_ins, isTy, setAtt, cl_ins, dcall, dcallF, dcallL, fldOk, putN, selfOut, fldsOf, lev_T, lev_hot, lev_heat, lev_call, lev_low, lev_make, lev_hcall, lev_hlow, lev_hmake, Option.bind, List.any, List.all, List.set, ite_true, ite_false, LINE, tcls0, c0, tcls1, c1, tcls2, c2, mth2_16, mth2_25, mth2_0, mth2_1, mth2_2, mth2_4, mth2_5, mth2_6, mth2_7, mth2_8, mth2_9, mth2_10, mth2_11, mth2_12, mth2_13, at2_20, at2_21, at2_23, at2_22]
theorem eqD_same {C : Cl} {x : D} (h : eqOk C μ 7 x x) : eqD C x x μ = .ok true μ := by unfold eqD; rw [if_pos h]; simp
theorem cm_ne4 {C : Cl} {a b : Int} {s t : Str} : evCm C .ne (.lst [.int a, .int b, .str s, .str t]) (.lst [.int a, .int b, .str s, .str t]) μ = .ok (.bl false) μ := by
  show resB ((eqD C _ _ μ).bind _) = _
  rw [eqD_same]
  · rfl
  · intro i x y hx hy
    have e : x = y := by rw [hx] at hy; exact Option.some.inj hy
    subst e
    match i, hx with
    | 0, hx => cases hx; exact .inl ⟨rfl, rfl, rfl⟩
    | 1, hx => cases hx; exact .inl ⟨rfl, rfl, rfl⟩
    | 2, hx => cases hx; exact .inl ⟨rfl, rfl, rfl⟩
    | 3, hx => cases hx; exact .inl ⟨rfl, rfl, rfl⟩
    | i + 4, hx => simp at hx
theorem b2_addS {C : Cl} {a b : Str} (h : a.length + b.length ≤ LINE) : evB2 C .add (.str a) (.str b) μ = .ok (.str (a ++ b)) μ := if_pos h
theorem mk_self (q : Rat) : makeT Tk (lev Tk hot (n + 1)) 2 [.int q.num, .int (q.den : Int)] μ = .ok (R q) μ := by
  rw [mk_ok (den0 q)]
  congr 2
  exact Rat.num_divInt_den q
theorem right_ok {t b : Int} (hb : b ≠ 0) (h1 : (Rat.divInt t b).num.natAbs.log2 < 1920) (h2 : (Rat.divInt t b).den.log2 < 1920) : callT Tk (lev Tk hot (n + 6)) 25 [R (Rat.divInt t b), .int t, .int b] μ = .ok (.bl true) μ := by
  rw [go25_3]
  have hn := num_of (a := t) hb
  have hd := den_of (a := t) hb
  have h3 := gcd_ne (a := t) hb
  have tz : decide (Rat.divInt t b ≠ 0) = decide (t ≠ 0) := by
    have e : Rat.divInt t b = 0 ↔ t = 0 := by
      have hb2 : (b : Rat) ≠ 0 := by simpa using hb
      rw [Rat.divInt_eq_div]
      constructor
      · intro z
        have z2 : (t : Rat) = 0 := by grind
        simpa using z2
      · intro z; subst z; grind
    rw [Bool.eq_iff_iff]; simp [e]
  have mk2 := mk_ok (hot := hot) (n := n + 3) (μ := μ) (a := t) hb
  generalize hq : Rat.divInt t b = q at *
  have hms := mk_self (hot := hot) (n := n + 3) (μ := μ) q
  have hs : ∀ (i : Int), evB2 (lev Tk hot (n + 6)) .mul (.int (if 0 < b then 1 else -1)) (.int i) μ = .ok (.int ((if 0 < b then 1 else -1) * i)) μ := fun i => b2_mul (mulOk_l (by split <;> decide))
  have hsg : (if 0 < b then Res.ok (D.int 1) μ else Res.ok (D.int (-1)) μ) = Res.ok (D.int (if 0 < b then 1 else -1)) μ := by split <;> rfl
  have htx : (if (q.den : Int) = 1 then Res.ok (D.str (Str.ofString q.num.repr)) μ else (evB2 (lev Tk hot (n + 6)) .add (.str (Str.ofString q.num.repr)) (.str (Str.ofString "/")) μ).bind fun x m => (evBl (lev Tk hot (n + 6)) .str [.int (q.den : Int)] m).bind fun y m => evB2 (lev Tk hot (n + 6)) .add x y m) = Res.ok (.str (strR q)) μ := by
    have l1 : (Str.ofString q.num.repr).length ≤ 2000 := txt_len h1
    have l2 : (Str.ofString (toString (q.den : Int))).length ≤ 2000 := txt_len (i := (q.den : Int)) (by simpa using h2)
    have l3 : (Str.ofString "/").length = 1 := by decide
    have hL : LINE = 16777216 := rfl
    unfold strR
    by_cases hd1 : q.den = 1
    · have : (q.den : Int) = 1 := by omega
      rw [if_pos this, if_pos hd1]; rfl
    · have : ¬ (q.den : Int) = 1 := by omega
      rw [if_neg this, if_neg hd1, b2_addS (by omega), Res.bind_ok, bl_strI (by simpa using h2), Res.bind_ok, b2_addS (by rw [len_app]; omega)]
      rfl
  simp [b25, T25_0, exSs, exS.eq_1, exS.eq_2, exS.eq_3, exS.eq_4, exS.eq_5, exS.eq_6, exS.eq_7, exS.eq_8, exS.eq_9, exS.eq_10, exS.eq_11, exS.eq_12, exS.eq_13, exS.eq_14, exS.eq_15, exS.eq_17, exS.eq_18, exS.eq_19, exS.eq_20, exS.eq_21, xs_for, evE.eq_1, evE.eq_2, evE.eq_3, evE.eq_4, evE.eq_5, evE.eq_6, evE.eq_7, evE.eq_8, evE.eq_9, evE.eq_10, evE.eq_11, evE.eq_12, evE.eq_13, evE.eq_14, evE.eq_15, evE.eq_16, evE.eq_17, evE.eq_18, evE.eq_19, evE.eq_20, evE.eq_21, evE.eq_22, evE.eq_23, evE.eq_24, evE.eq_26, xe_comp, evEs, evFs, fmtD, evEo, evTo, evT, evIt, getVar, bT_name, bT_tup, bT_lst, bindTs, Res.bind_ok, Res.bind_exc, Res.bind_stuck, Res.st_ok, Res.st_exc, SR.seq_nx, SR.seq_ret, SR.seq_exc, outF_ret, outF_nx, outI_nx, b2_add, b2_sub, cm_lt, cm_le, cm_gt, cm_ge, cm_eqi, cm_nei, cm_eqb, cm_neb, tr_bl, tr_int, ng_int, noExc, getSelf, getExn, E.isVar, bl_len, bl_absI, bl_maxI, bl_minI, bl_intI, bl_intB, bl_boolB, bl_list, bl_tuple, evLen, items, nb_non, nb_bl, nb_int, nb_str, nb_tup, nb_lst, nb_ins, nb_obj, nb_bor, lim, isNon, ty_non, ty_bl, ty_int, ty_str, ty_tup, ty_lst, ty_ins, isTy, setAtt, cl_ins, dcall, dcallF, dcallL, fldOk, putN, selfOut, fldsOf, lev_T, lev_hot, lev_heat, lev_call, lev_low, lev_make, lev_hcall, lev_hlow, lev_hmake, Option.bind, List.any, List.all, List.set, ite_true, ite_false, LINE, tcls0, c0, tcls1, c1, tcls2, c2, mth2_16, mth2_25, mth2_0, mth2_1, mth2_2, mth2_4, mth2_5, mth2_6, mth2_7, mth2_8, mth2_9, mth2_10, mth2_11, mth2_12, mth2_13, at2_20, at2_21, at2_23, at2_22, hsg, absI_eq, ldiv_ok, hs, b2_div h3, hn, hd, cm_eqR, cm_neR, bl_strR h1 h2, bl_reprR h1 h2, bl_strI h1, cm_ne4, bl_boolR, mk2, hms, htx, tz, at_topR, at_bottomR, nb_R]
def odd : D → Bool
  | .non | .bl _ | .str _ | .tup _ | .lst _ => true
  | _ => false
theorem isint_odd {x : D} (h : odd x = true) : callT Tk (lev Tk hot n) 1 [x] μ = .ok (.bl false) μ := by
  rw [go1_1]
  cases x <;> first | (simp [odd] at h; done) | simp [b1, exSs, exS.eq_1, exS.eq_2, exS.eq_3, exS.eq_4, exS.eq_5, exS.eq_6, exS.eq_7, exS.eq_8, exS.eq_9, exS.eq_10, exS.eq_11, exS.eq_12, exS.eq_13, exS.eq_14, exS.eq_15, exS.eq_17, exS.eq_18, exS.eq_19, exS.eq_20, exS.eq_21, xs_for, evE.eq_1, evE.eq_2, evE.eq_3, evE.eq_4, evE.eq_5, evE.eq_6, evE.eq_7, evE.eq_8, evE.eq_9, evE.eq_10, evE.eq_11, evE.eq_12, evE.eq_13, evE.eq_14, evE.eq_15, evE.eq_16, evE.eq_17, evE.eq_18, evE.eq_19, evE.eq_20, evE.eq_21, evE.eq_22, evE.eq_23, evE.eq_24, evE.eq_26, xe_comp, evEs, evFs, fmtD, evEo, evTo, evT, evIt, getVar, bT_name, bT_tup, bT_lst, bindTs, Res.bind_ok, Res.bind_exc, Res.bind_stuck, Res.st_ok, Res.st_exc, SR.seq_nx, SR.seq_ret, SR.seq_exc, outF_ret, outF_nx, outI_nx, b2_add, b2_sub, cm_lt, cm_le, cm_gt, cm_ge, cm_eqi, cm_nei, cm_eqb, cm_neb, tr_bl, tr_int, ng_int, noExc, getSelf, getExn, E.isVar, bl_len, bl_absI, bl_maxI, bl_minI, bl_intI, bl_intB, bl_boolB, bl_list, bl_tuple, evLen, items, nb_non, nb_bl, nb_int, nb_str, nb_tup, nb_lst, nb_ins, nb_obj, nb_bor, lim, isNon, ty_non, ty_bl, ty_int, ty_str, ty_tup, ty_lst, ty_ins, isTy, setAtt, cl_ins, dcall, dcallF, dcallL, fldOk, putN, selfOut, fldsOf, lev_T, lev_hot, lev_heat, lev_call, lev_low, lev_make, lev_hcall, lev_hlow, lev_hmake, Option.bind, List.any, List.all, List.set, ite_true, ite_false, LINE, tcls0, c0, tcls1, c1, tcls2, c2, mth2_16, mth2_25, mth2_0, mth2_1, mth2_2, mth2_4, mth2_5, mth2_6, mth2_7, mth2_8, mth2_9, mth2_10, mth2_11, mth2_12, mth2_13, at2_20, at2_21, at2_23, at2_22, tyOf]
theorem exc_one {x : D} : excOf Tk 1 [x] = some [(24, x)] := rfl
theorem outI_exc {c : Nat} {ks : List Nat} {c' : Nat} {fs : List (Nat × D)} {f2 : List (Nat × D)} {r : Sg} : outI c ks (.exc c' fs (some (.self c f2) :: r) μ) = .exc c' fs μ := by
  unfold outI
  unfold excOut
  simp
theorem mk_bad1 {x y : D} (h : odd x = true) (hb : nbD y = true) : makeT Tk (lev Tk false (n + 1)) 2 [x, y] μ = .exc 1 [(24, .tup [x, y])] μ := by
  rw [mk2_2]
  have hx : nbD x = true := by cases x <;> first | rfl | (simp [odd] at h; done)
  simp [b3, exSs, exS.eq_1, exS.eq_2, exS.eq_3, exS.eq_4, exS.eq_5, exS.eq_6, exS.eq_7, exS.eq_8, exS.eq_9, exS.eq_10, exS.eq_11, exS.eq_12, exS.eq_13, exS.eq_14, exS.eq_15, exS.eq_17, exS.eq_18, exS.eq_19, exS.eq_20, exS.eq_21, xs_for, evE.eq_1, evE.eq_2, evE.eq_3, evE.eq_4, evE.eq_5, evE.eq_6, evE.eq_7, evE.eq_8, evE.eq_9, evE.eq_10, evE.eq_11, evE.eq_12, evE.eq_13, evE.eq_14, evE.eq_15, evE.eq_16, evE.eq_17, evE.eq_18, evE.eq_19, evE.eq_20, evE.eq_21, evE.eq_22, evE.eq_23, evE.eq_24, evE.eq_26, xe_comp, evEs, evFs, fmtD, evEo, evTo, evT, evIt, getVar, bT_name, bT_tup, bT_lst, bindTs, Res.bind_ok, Res.bind_exc, Res.bind_stuck, Res.st_ok, Res.st_exc, SR.seq_nx, SR.seq_ret, SR.seq_exc, outF_ret, outF_nx, outI_nx, b2_add, b2_sub, cm_lt, cm_le, cm_gt, cm_ge, cm_eqi, cm_nei, cm_eqb, cm_neb, tr_bl, tr_int, ng_int, noExc, getSelf, getExn, E.isVar, bl_len, bl_absI, bl_maxI, bl_minI, bl_intI, bl_intB, bl_boolB, bl_list, bl_tuple, evLen, items, nb_non, nb_bl, nb_int, nb_str, nb_tup, nb_lst, nb_ins, nb_obj, nb_bor, lim, isNon, ty_non, ty_bl, ty_int, ty_str, ty_tup, ty_lst, ty_ins, isTy, setAtt, cl_ins, dcall, dcallF, dcallL, fldOk, putN, selfOut, fldsOf, lev_T, lev_hot, lev_heat, lev_call, lev_low, lev_make, lev_hcall, lev_hlow, lev_hmake, Option.bind, List.any, List.all, List.set, ite_true, ite_false, LINE, tcls0, c0, tcls1, c1, tcls2, c2, mth2_16, mth2_25, mth2_0, mth2_1, mth2_2, mth2_4, mth2_5, mth2_6, mth2_7, mth2_8, mth2_9, mth2_10, mth2_11, mth2_12, mth2_13, at2_20, at2_21, at2_23, at2_22, isint_odd h, hx, hb, exc_one, outI_exc]
theorem odd_nb {x : D} (h : odd x = true) : nbD x = true := by cases x <;> first | rfl | (simp [odd] at h; done)
theorem mk_bad2 {i : Int} {y : D} (h : odd y = true) : makeT Tk (lev Tk false (n + 1)) 2 [.int i, y] μ = .exc 1 [(24, .tup [.int i, y])] μ := by
  rw [mk2_2]
  simp [b3, exSs, exS.eq_1, exS.eq_2, exS.eq_3, exS.eq_4, exS.eq_5, exS.eq_6, exS.eq_7, exS.eq_8, exS.eq_9, exS.eq_10, exS.eq_11, exS.eq_12, exS.eq_13, exS.eq_14, exS.eq_15, exS.eq_17, exS.eq_18, exS.eq_19, exS.eq_20, exS.eq_21, xs_for, evE.eq_1, evE.eq_2, evE.eq_3, evE.eq_4, evE.eq_5, evE.eq_6, evE.eq_7, evE.eq_8, evE.eq_9, evE.eq_10, evE.eq_11, evE.eq_12, evE.eq_13, evE.eq_14, evE.eq_15, evE.eq_16, evE.eq_17, evE.eq_18, evE.eq_19, evE.eq_20, evE.eq_21, evE.eq_22, evE.eq_23, evE.eq_24, evE.eq_26, xe_comp, evEs, evFs, fmtD, evEo, evTo, evT, evIt, getVar, bT_name, bT_tup, bT_lst, bindTs, Res.bind_ok, Res.bind_exc, Res.bind_stuck, Res.st_ok, Res.st_exc, SR.seq_nx, SR.seq_ret, SR.seq_exc, outF_ret, outF_nx, outI_nx, b2_add, b2_sub, cm_lt, cm_le, cm_gt, cm_ge, cm_eqi, cm_nei, cm_eqb, cm_neb, tr_bl, tr_int, ng_int, noExc, getSelf, getExn, E.isVar, bl_len, bl_absI, bl_maxI, bl_minI, bl_intI, bl_intB, bl_boolB, bl_list, bl_tuple, evLen, items, nb_non, nb_bl, nb_int, nb_str, nb_tup, nb_lst, nb_ins, nb_obj, nb_bor, lim, isNon, ty_non, ty_bl, ty_int, ty_str, ty_tup, ty_lst, ty_ins, isTy, setAtt, cl_ins, dcall, dcallF, dcallL, fldOk, putN, selfOut, fldsOf, lev_T, lev_hot, lev_heat, lev_call, lev_low, lev_make, lev_hcall, lev_hlow, lev_hmake, Option.bind, List.any, List.all, List.set, ite_true, ite_false, LINE, tcls0, c0, tcls1, c1, tcls2, c2, mth2_16, mth2_25, mth2_0, mth2_1, mth2_2, mth2_4, mth2_5, mth2_6, mth2_7, mth2_8, mth2_9, mth2_10, mth2_11, mth2_12, mth2_13, at2_20, at2_21, at2_23, at2_22, isint_int, isint_odd h, odd_nb h, exc_one, outI_exc]
theorem mk_bad0 {i : Int} : makeT Tk (lev Tk false (n + 1)) 2 [.int i, .int 0] μ = .exc 1 [(24, .tup [.int i, .int 0])] μ := by
  rw [mk2_2]
  simp [b3, exSs, exS.eq_1, exS.eq_2, exS.eq_3, exS.eq_4, exS.eq_5, exS.eq_6, exS.eq_7, exS.eq_8, exS.eq_9, exS.eq_10, exS.eq_11, exS.eq_12, exS.eq_13, exS.eq_14, exS.eq_15, exS.eq_17, exS.eq_18, exS.eq_19, exS.eq_20, exS.eq_21, xs_for, evE.eq_1, evE.eq_2, evE.eq_3, evE.eq_4, evE.eq_5, evE.eq_6, evE.eq_7, evE.eq_8, evE.eq_9, evE.eq_10, evE.eq_11, evE.eq_12, evE.eq_13, evE.eq_14, evE.eq_15, evE.eq_16, evE.eq_17, evE.eq_18, evE.eq_19, evE.eq_20, evE.eq_21, evE.eq_22, evE.eq_23, evE.eq_24, evE.eq_26, xe_comp, evEs, evFs, fmtD, evEo, evTo, evT, evIt, getVar, bT_name, bT_tup, bT_lst, bindTs, Res.bind_ok, Res.bind_exc, Res.bind_stuck, Res.st_ok, Res.st_exc, SR.seq_nx, SR.seq_ret, SR.seq_exc, outF_ret, outF_nx, outI_nx, b2_add, b2_sub, cm_lt, cm_le, cm_gt, cm_ge, cm_eqi, cm_nei, cm_eqb, cm_neb, tr_bl, tr_int, ng_int, noExc, getSelf, getExn, E.isVar, bl_len, bl_absI, bl_maxI, bl_minI, bl_intI, bl_intB, bl_boolB, bl_list, bl_tuple, evLen, items, nb_non, nb_bl, nb_int, nb_str, nb_tup, nb_lst, nb_ins, nb_obj, nb_bor, lim, isNon, ty_non, ty_bl, ty_int, ty_str, ty_tup, ty_lst, ty_ins, isTy, setAtt, cl_ins, dcall, dcallF, dcallL, fldOk, putN, selfOut, fldsOf, lev_T, lev_hot, lev_heat, lev_call, lev_low, lev_make, lev_hcall, lev_hlow, lev_hmake, Option.bind, List.any, List.all, List.set, ite_true, ite_false, LINE, tcls0, c0, tcls1, c1, tcls2, c2, mth2_16, mth2_25, mth2_0, mth2_1, mth2_2, mth2_4, mth2_5, mth2_6, mth2_7, mth2_8, mth2_9, mth2_10, mth2_11, mth2_12, mth2_13, at2_20, at2_21, at2_23, at2_22, isint_int, exc_one, outI_exc]
theorem ty_odd {x : D} (h : odd x = true) : (tyOf μ x).map (fun t => isTy Tk t (.cls 2)) = some false := by
  cases x <;> first | rfl | (simp [odd] at h; done)
theorem ratio_bad {x : D} (h : odd x = true) : callT Tk (lev Tk false (n + 3)) 21 [x] μ = .exc 1 [(24, x)] μ := by
  rw [go21_1]
  cases x <;> first | (simp [odd] at h; done) | simp [b21, exSs, exS.eq_1, exS.eq_2, exS.eq_3, exS.eq_4, exS.eq_5, exS.eq_6, exS.eq_7, exS.eq_8, exS.eq_9, exS.eq_10, exS.eq_11, exS.eq_12, exS.eq_13, exS.eq_14, exS.eq_15, exS.eq_17, exS.eq_18, exS.eq_19, exS.eq_20, exS.eq_21, xs_for, evE.eq_1, evE.eq_2, evE.eq_3, evE.eq_4, evE.eq_5, evE.eq_6, evE.eq_7, evE.eq_8, evE.eq_9, evE.eq_10, evE.eq_11, evE.eq_12, evE.eq_13, evE.eq_14, evE.eq_15, evE.eq_16, evE.eq_17, evE.eq_18, evE.eq_19, evE.eq_20, evE.eq_21, evE.eq_22, evE.eq_23, evE.eq_24, evE.eq_26, xe_comp, evEs, evFs, fmtD, evEo, evTo, evT, evIt, getVar, bT_name, bT_tup, bT_lst, bindTs, Res.bind_ok, Res.bind_exc, Res.bind_stuck, Res.st_ok, Res.st_exc, SR.seq_nx, SR.seq_ret, SR.seq_exc, outF_ret, outF_nx, outI_nx, b2_add, b2_sub, cm_lt, cm_le, cm_gt, cm_ge, cm_eqi, cm_nei, cm_eqb, cm_neb, tr_bl, tr_int, ng_int, noExc, getSelf, getExn, E.isVar, bl_len, bl_absI, bl_maxI, bl_minI, bl_intI, bl_intB, bl_boolB, bl_list, bl_tuple, evLen, items, nb_non, nb_bl, nb_int, nb_str, nb_tup, nb_lst, nb_ins, nb_obj, nb_bor, lim, isNon, ty_non, ty_bl, ty_int, ty_str, ty_tup, ty_lst, ty_ins, isTy, setAtt, cl_ins, dcall, dcallF, dcallL, fldOk, putN, selfOut, fldsOf, lev_T, lev_hot, lev_heat, lev_call, lev_low, lev_make, lev_hcall, lev_hlow, lev_hmake, Option.bind, List.any, List.all, List.set, ite_true, ite_false, LINE, tcls0, c0, tcls1, c1, tcls2, c2, mth2_16, mth2_25, mth2_0, mth2_1, mth2_2, mth2_4, mth2_5, mth2_6, mth2_7, mth2_8, mth2_9, mth2_10, mth2_11, mth2_12, mth2_13, at2_20, at2_21, at2_23, at2_22, isint_odd h, exc_one]
theorem over_bad {p : Rat} {x : D} (h : odd x = true ∨ x = R 0 ∨ ∃ i, x = .int i) : callT Tk (lev Tk false (n + 3)) 6 [R p, x] μ = .exc 1 [(24, x)] μ := by
  rw [go6_2]
  rcases h with h | rfl | ⟨i, rfl⟩
  · cases x <;> first | (simp [odd] at h; done) | simp [b6, exSs, exS.eq_1, exS.eq_2, exS.eq_3, exS.eq_4, exS.eq_5, exS.eq_6, exS.eq_7, exS.eq_8, exS.eq_9, exS.eq_10, exS.eq_11, exS.eq_12, exS.eq_13, exS.eq_14, exS.eq_15, exS.eq_17, exS.eq_18, exS.eq_19, exS.eq_20, exS.eq_21, xs_for, evE.eq_1, evE.eq_2, evE.eq_3, evE.eq_4, evE.eq_5, evE.eq_6, evE.eq_7, evE.eq_8, evE.eq_9, evE.eq_10, evE.eq_11, evE.eq_12, evE.eq_13, evE.eq_14, evE.eq_15, evE.eq_16, evE.eq_17, evE.eq_18, evE.eq_19, evE.eq_20, evE.eq_21, evE.eq_22, evE.eq_23, evE.eq_24, evE.eq_26, xe_comp, evEs, evFs, fmtD, evEo, evTo, evT, evIt, getVar, bT_name, bT_tup, bT_lst, bindTs, Res.bind_ok, Res.bind_exc, Res.bind_stuck, Res.st_ok, Res.st_exc, SR.seq_nx, SR.seq_ret, SR.seq_exc, outF_ret, outF_nx, outI_nx, b2_add, b2_sub, cm_lt, cm_le, cm_gt, cm_ge, cm_eqi, cm_nei, cm_eqb, cm_neb, tr_bl, tr_int, ng_int, noExc, getSelf, getExn, E.isVar, bl_len, bl_absI, bl_maxI, bl_minI, bl_intI, bl_intB, bl_boolB, bl_list, bl_tuple, evLen, items, nb_non, nb_bl, nb_int, nb_str, nb_tup, nb_lst, nb_ins, nb_obj, nb_bor, lim, isNon, ty_non, ty_bl, ty_int, ty_str, ty_tup, ty_lst, ty_ins, isTy, setAtt, cl_ins, dcall, dcallF, dcallL, fldOk, putN, selfOut, fldsOf, lev_T, lev_hot, lev_heat, lev_call, lev_low, lev_make, lev_hcall, lev_hlow, lev_hmake, Option.bind, List.any, List.all, List.set, ite_true, ite_false, LINE, tcls0, c0, tcls1, c1, tcls2, c2, mth2_16, mth2_25, mth2_0, mth2_1, mth2_2, mth2_4, mth2_5, mth2_6, mth2_7, mth2_8, mth2_9, mth2_10, mth2_11, mth2_12, mth2_13, at2_20, at2_21, at2_23, at2_22, exc_one]
  · simp [b6, R, rt, exSs, exS.eq_1, exS.eq_2, exS.eq_3, exS.eq_4, exS.eq_5, exS.eq_6, exS.eq_7, exS.eq_8, exS.eq_9, exS.eq_10, exS.eq_11, exS.eq_12, exS.eq_13, exS.eq_14, exS.eq_15, exS.eq_17, exS.eq_18, exS.eq_19, exS.eq_20, exS.eq_21, xs_for, evE.eq_1, evE.eq_2, evE.eq_3, evE.eq_4, evE.eq_5, evE.eq_6, evE.eq_7, evE.eq_8, evE.eq_9, evE.eq_10, evE.eq_11, evE.eq_12, evE.eq_13, evE.eq_14, evE.eq_15, evE.eq_16, evE.eq_17, evE.eq_18, evE.eq_19, evE.eq_20, evE.eq_21, evE.eq_22, evE.eq_23, evE.eq_24, evE.eq_26, xe_comp, evEs, evFs, fmtD, evEo, evTo, evT, evIt, getVar, bT_name, bT_tup, bT_lst, bindTs, Res.bind_ok, Res.bind_exc, Res.bind_stuck, Res.st_ok, Res.st_exc, SR.seq_nx, SR.seq_ret, SR.seq_exc, outF_ret, outF_nx, outI_nx, b2_add, b2_sub, cm_lt, cm_le, cm_gt, cm_ge, cm_eqi, cm_nei, cm_eqb, cm_neb, tr_bl, tr_int, ng_int, noExc, getSelf, getExn, E.isVar, bl_len, bl_absI, bl_maxI, bl_minI, bl_intI, bl_intB, bl_boolB, bl_list, bl_tuple, evLen, items, nb_non, nb_bl, nb_int, nb_str, nb_tup, nb_lst, nb_ins, nb_obj, nb_bor, lim, isNon, ty_non, ty_bl, ty_int, ty_str, ty_tup, ty_lst, ty_ins, isTy, setAtt, cl_ins, dcall, dcallF, dcallL, fldOk, putN, selfOut, fldsOf, lev_T, lev_hot, lev_heat, lev_call, lev_low, lev_make, lev_hcall, lev_hlow, lev_hmake, Option.bind, List.any, List.all, List.set, ite_true, ite_false, LINE, tcls0, c0, tcls1, c1, tcls2, c2, mth2_16, mth2_25, mth2_0, mth2_1, mth2_2, mth2_4, mth2_5, mth2_6, mth2_7, mth2_8, mth2_9, mth2_10, mth2_11, mth2_12, mth2_13, at2_20, at2_21, at2_23, at2_22, exc_one]
  · simp [b6, exSs, exS.eq_1, exS.eq_2, exS.eq_3, exS.eq_4, exS.eq_5, exS.eq_6, exS.eq_7, exS.eq_8, exS.eq_9, exS.eq_10, exS.eq_11, exS.eq_12, exS.eq_13, exS.eq_14, exS.eq_15, exS.eq_17, exS.eq_18, exS.eq_19, exS.eq_20, exS.eq_21, xs_for, evE.eq_1, evE.eq_2, evE.eq_3, evE.eq_4, evE.eq_5, evE.eq_6, evE.eq_7, evE.eq_8, evE.eq_9, evE.eq_10, evE.eq_11, evE.eq_12, evE.eq_13, evE.eq_14, evE.eq_15, evE.eq_16, evE.eq_17, evE.eq_18, evE.eq_19, evE.eq_20, evE.eq_21, evE.eq_22, evE.eq_23, evE.eq_24, evE.eq_26, xe_comp, evEs, evFs, fmtD, evEo, evTo, evT, evIt, getVar, bT_name, bT_tup, bT_lst, bindTs, Res.bind_ok, Res.bind_exc, Res.bind_stuck, Res.st_ok, Res.st_exc, SR.seq_nx, SR.seq_ret, SR.seq_exc, outF_ret, outF_nx, outI_nx, b2_add, b2_sub, cm_lt, cm_le, cm_gt, cm_ge, cm_eqi, cm_nei, cm_eqb, cm_neb, tr_bl, tr_int, ng_int, noExc, getSelf, getExn, E.isVar, bl_len, bl_absI, bl_maxI, bl_minI, bl_intI, bl_intB, bl_boolB, bl_list, bl_tuple, evLen, items, nb_non, nb_bl, nb_int, nb_str, nb_tup, nb_lst, nb_ins, nb_obj, nb_bor, lim, isNon, ty_non, ty_bl, ty_int, ty_str, ty_tup, ty_lst, ty_ins, isTy, setAtt, cl_ins, dcall, dcallF, dcallL, fldOk, putN, selfOut, fldsOf, lev_T, lev_hot, lev_heat, lev_call, lev_low, lev_make, lev_hcall, lev_hlow, lev_hmake, Option.bind, List.any, List.all, List.set, ite_true, ite_false, LINE, tcls0, c0, tcls1, c1, tcls2, c2, mth2_16, mth2_25, mth2_0, mth2_1, mth2_2, mth2_4, mth2_5, mth2_6, mth2_7, mth2_8, mth2_9, mth2_10, mth2_11, mth2_12, mth2_13, at2_20, at2_21, at2_23, at2_22, exc_one]
end
section
variable {n : Nat} {μ : Mu}
theorem cm_eqs {C : Cl} {a : Str} : evCm C .eq (.str a) (.str a) μ = .ok (.bl true) μ := by
  show resB (eqD C (.str a) (.str a) μ) = _
  rw [eq_flat rfl rfl rfl]; simp [resB, feq]
theorem bl_reprD {C : Cl} {d : D} {t : Str} (h : reprT d = some t) (hi : ∀ c fs, d ≠ .ins c fs) : evBl C .repr [d] μ = .ok (.str t) μ := by
  have e : evBl C .repr [d] μ = (match reprT d with
      | some t => Res.ok (D.str t) μ
      | none => Res.stuck) := by
    cases d <;> first | rfl | exact absurd rfl (hi _ _)
  rw [e, h]
theorem ref_mk {x y : D} {t : Str} (hx : nbD x = true) (hy : nbD y = true) (hb : makeT Tk (lev Tk false (n + 1)) 2 [x, y] μ = .exc 1 [(24, .tup [x, y])] μ) (hr : reprT (.tup [x, y]) = some t) :
    callT Tk (lev Tk false (n + 3)) 26 [.int 0, x, y] μ = .ok (.bl true) μ := by
  rw [go26_3]
  have r1 := bl_reprD (C := lev Tk true (n + 3)) (μ := μ) hr nofun
  simp [b26, T26_0, T26_1, exSs, exS.eq_1, exS.eq_2, exS.eq_3, exS.eq_4, exS.eq_5, exS.eq_6, exS.eq_7, exS.eq_8, exS.eq_9, exS.eq_10, exS.eq_11, exS.eq_12, exS.eq_13, exS.eq_14, exS.eq_15, exS.eq_17, exS.eq_18, exS.eq_19, exS.eq_20, exS.eq_21, xs_for, evE.eq_1, evE.eq_2, evE.eq_3, evE.eq_4, evE.eq_5, evE.eq_6, evE.eq_7, evE.eq_8, evE.eq_9, evE.eq_10, evE.eq_11, evE.eq_12, evE.eq_13, evE.eq_14, evE.eq_15, evE.eq_16, evE.eq_17, evE.eq_18, evE.eq_19, evE.eq_20, evE.eq_21, evE.eq_22, evE.eq_23, evE.eq_24, evE.eq_26, xe_comp, evEs, evFs, fmtD, evEo, evTo, evT, evIt, getVar, bT_name, bT_tup, bT_lst, bindTs, Res.bind_ok, Res.bind_exc, Res.bind_stuck, Res.st_ok, Res.st_exc, SR.seq_nx, SR.seq_ret, SR.seq_exc, outF_ret, outF_nx, outI_nx, b2_add, b2_sub, cm_lt, cm_le, cm_gt, cm_ge, cm_eqi, cm_nei, cm_eqb, cm_neb, tr_bl, tr_int, ng_int, noExc, getSelf, getExn, E.isVar, bl_len, bl_absI, bl_maxI, bl_minI, bl_intI, bl_intB, bl_boolB, bl_list, bl_tuple, evLen, items, nb_non, nb_bl, nb_int, nb_str, nb_tup, nb_lst, nb_ins, nb_obj, nb_bor, lim, isNon, ty_non, ty_bl, ty_int, ty_str, ty_tup, ty_lst, ty_ins, isTy, setAtt, cl_ins, dcall, dcallF, dcallL, fldOk, putN, selfOut, fldsOf, lev_T, lev_hot, lev_heat, lev_call, lev_low, lev_make, lev_hcall, lev_hlow, lev_hmake, Option.bind, List.any, List.all, List.set, ite_true, ite_false, LINE, tcls0, c0, tcls1, c1, tcls2, c2, mth2_16, mth2_25, mth2_0, mth2_1, mth2_2, mth2_4, mth2_5, mth2_6, mth2_7, mth2_8, mth2_9, mth2_10, mth2_11, mth2_12, mth2_13, at2_20, at2_21, at2_23, at2_22, hx, hy, hb, exHs, isSubc, suiteIn, suiteOut, gone, noX, r1, getIx, nth_0, cm_eqs]
theorem ref_over {p : Rat} {y : D} {t : Str} (hy : nbD y = true) (hb : callT Tk (lev Tk false (n + 3)) 6 [R p, y] μ = .exc 1 [(24, y)] μ) (hr : evBl (lev Tk true (n + 4)) .repr [y] μ = .ok (.str t) μ) :
    callT Tk (lev Tk false (n + 4)) 26 [.int 1, R p, y] μ = .ok (.bl true) μ := by
  rw [go26_3]
  simp [b26, T26_0, T26_1, exSs, exS.eq_1, exS.eq_2, exS.eq_3, exS.eq_4, exS.eq_5, exS.eq_6, exS.eq_7, exS.eq_8, exS.eq_9, exS.eq_10, exS.eq_11, exS.eq_12, exS.eq_13, exS.eq_14, exS.eq_15, exS.eq_17, exS.eq_18, exS.eq_19, exS.eq_20, exS.eq_21, xs_for, evE.eq_1, evE.eq_2, evE.eq_3, evE.eq_4, evE.eq_5, evE.eq_6, evE.eq_7, evE.eq_8, evE.eq_9, evE.eq_10, evE.eq_11, evE.eq_12, evE.eq_13, evE.eq_14, evE.eq_15, evE.eq_16, evE.eq_17, evE.eq_18, evE.eq_19, evE.eq_20, evE.eq_21, evE.eq_22, evE.eq_23, evE.eq_24, evE.eq_26, xe_comp, evEs, evFs, fmtD, evEo, evTo, evT, evIt, getVar, bT_name, bT_tup, bT_lst, bindTs, Res.bind_ok, Res.bind_exc, Res.bind_stuck, Res.st_ok, Res.st_exc, SR.seq_nx, SR.seq_ret, SR.seq_exc, outF_ret, outF_nx, outI_nx, b2_add, b2_sub, cm_lt, cm_le, cm_gt, cm_ge, cm_eqi, cm_nei, cm_eqb, cm_neb, tr_bl, tr_int, ng_int, noExc, getSelf, getExn, E.isVar, bl_len, bl_absI, bl_maxI, bl_minI, bl_intI, bl_intB, bl_boolB, bl_list, bl_tuple, evLen, items, nb_non, nb_bl, nb_int, nb_str, nb_tup, nb_lst, nb_ins, nb_obj, nb_bor, lim, isNon, ty_non, ty_bl, ty_int, ty_str, ty_tup, ty_lst, ty_ins, isTy, setAtt, cl_ins, dcall, dcallF, dcallL, fldOk, putN, selfOut, fldsOf, lev_T, lev_hot, lev_heat, lev_call, lev_low, lev_make, lev_hcall, lev_hlow, lev_hmake, Option.bind, List.any, List.all, List.set, ite_true, ite_false, LINE, tcls0, c0, tcls1, c1, tcls2, c2, mth2_16, mth2_25, mth2_0, mth2_1, mth2_2, mth2_4, mth2_5, mth2_6, mth2_7, mth2_8, mth2_9, mth2_10, mth2_11, mth2_12, mth2_13, at2_20, at2_21, at2_23, at2_22, R, rt, hy] at hb ⊢
  simp [hb, exSs, exS.eq_1, exS.eq_2, exS.eq_3, exS.eq_4, exS.eq_5, exS.eq_6, exS.eq_7, exS.eq_8, exS.eq_9, exS.eq_10, exS.eq_11, exS.eq_12, exS.eq_13, exS.eq_14, exS.eq_15, exS.eq_17, exS.eq_18, exS.eq_19, exS.eq_20, exS.eq_21, xs_for, evE.eq_1, evE.eq_2, evE.eq_3, evE.eq_4, evE.eq_5, evE.eq_6, evE.eq_7, evE.eq_8, evE.eq_9, evE.eq_10, evE.eq_11, evE.eq_12, evE.eq_13, evE.eq_14, evE.eq_15, evE.eq_16, evE.eq_17, evE.eq_18, evE.eq_19, evE.eq_20, evE.eq_21, evE.eq_22, evE.eq_23, evE.eq_24, evE.eq_26, xe_comp, evEs, evFs, fmtD, evEo, evTo, evT, evIt, getVar, bT_name, bT_tup, bT_lst, bindTs, Res.bind_ok, Res.bind_exc, Res.bind_stuck, Res.st_ok, Res.st_exc, SR.seq_nx, SR.seq_ret, SR.seq_exc, outF_ret, outF_nx, outI_nx, b2_add, b2_sub, cm_lt, cm_le, cm_gt, cm_ge, cm_eqi, cm_nei, cm_eqb, cm_neb, tr_bl, tr_int, ng_int, noExc, getSelf, getExn, E.isVar, bl_len, bl_absI, bl_maxI, bl_minI, bl_intI, bl_intB, bl_boolB, bl_list, bl_tuple, evLen, items, nb_non, nb_bl, nb_int, nb_str, nb_tup, nb_lst, nb_ins, nb_obj, nb_bor, lim, isNon, ty_non, ty_bl, ty_int, ty_str, ty_tup, ty_lst, ty_ins, isTy, setAtt, cl_ins, dcall, dcallF, dcallL, fldOk, putN, selfOut, fldsOf, lev_T, lev_hot, lev_heat, lev_call, lev_low, lev_make, lev_hcall, lev_hlow, lev_hmake, Option.bind, List.any, List.all, List.set, ite_true, ite_false, LINE, tcls0, c0, tcls1, c1, tcls2, c2, mth2_16, mth2_25, mth2_0, mth2_1, mth2_2, mth2_4, mth2_5, mth2_6, mth2_7, mth2_8, mth2_9, mth2_10, mth2_11, mth2_12, mth2_13, at2_20, at2_21, at2_23, at2_22, exHs, isSubc, suiteIn, suiteOut, gone, noX, hr, getIx, nth_1, cm_eqs, hy]
theorem ref_ratio {x : D} {t : Str} (hx : nbD x = true) (hb : callT Tk (lev Tk false (n + 3)) 21 [x] μ = .exc 1 [(24, x)] μ) (hr : evBl (lev Tk true (n + 4)) .repr [x] μ = .ok (.str t) μ) :
    callT Tk (lev Tk false (n + 4)) 26 [.int 2, x, .non] μ = .ok (.bl true) μ := by
  rw [go26_3]
  simp [b26, T26_0, T26_1, exSs, exS.eq_1, exS.eq_2, exS.eq_3, exS.eq_4, exS.eq_5, exS.eq_6, exS.eq_7, exS.eq_8, exS.eq_9, exS.eq_10, exS.eq_11, exS.eq_12, exS.eq_13, exS.eq_14, exS.eq_15, exS.eq_17, exS.eq_18, exS.eq_19, exS.eq_20, exS.eq_21, xs_for, evE.eq_1, evE.eq_2, evE.eq_3, evE.eq_4, evE.eq_5, evE.eq_6, evE.eq_7, evE.eq_8, evE.eq_9, evE.eq_10, evE.eq_11, evE.eq_12, evE.eq_13, evE.eq_14, evE.eq_15, evE.eq_16, evE.eq_17, evE.eq_18, evE.eq_19, evE.eq_20, evE.eq_21, evE.eq_22, evE.eq_23, evE.eq_24, evE.eq_26, xe_comp, evEs, evFs, fmtD, evEo, evTo, evT, evIt, getVar, bT_name, bT_tup, bT_lst, bindTs, Res.bind_ok, Res.bind_exc, Res.bind_stuck, Res.st_ok, Res.st_exc, SR.seq_nx, SR.seq_ret, SR.seq_exc, outF_ret, outF_nx, outI_nx, b2_add, b2_sub, cm_lt, cm_le, cm_gt, cm_ge, cm_eqi, cm_nei, cm_eqb, cm_neb, tr_bl, tr_int, ng_int, noExc, getSelf, getExn, E.isVar, bl_len, bl_absI, bl_maxI, bl_minI, bl_intI, bl_intB, bl_boolB, bl_list, bl_tuple, evLen, items, nb_non, nb_bl, nb_int, nb_str, nb_tup, nb_lst, nb_ins, nb_obj, nb_bor, lim, isNon, ty_non, ty_bl, ty_int, ty_str, ty_tup, ty_lst, ty_ins, isTy, setAtt, cl_ins, dcall, dcallF, dcallL, fldOk, putN, selfOut, fldsOf, lev_T, lev_hot, lev_heat, lev_call, lev_low, lev_make, lev_hcall, lev_hlow, lev_hmake, Option.bind, List.any, List.all, List.set, ite_true, ite_false, LINE, tcls0, c0, tcls1, c1, tcls2, c2, mth2_16, mth2_25, mth2_0, mth2_1, mth2_2, mth2_4, mth2_5, mth2_6, mth2_7, mth2_8, mth2_9, mth2_10, mth2_11, mth2_12, mth2_13, at2_20, at2_21, at2_23, at2_22, hx, hb, exHs, isSubc, suiteIn, suiteOut, gone, noX, hr, getIx, nth_2, cm_eqs]
theorem repr_pair {a : Int} (h : a.natAbs.log2 < 1920) {x : D} {p : PyData} (hp : toPy x = some p) (hs : p.showable = true) (hl : p.shown.length ≤ 100) (hd : p.depth ≤ 10) : ∃ t, reprT (.tup [.int a, x]) = some t := by
  have e1 : toPy (.tup [.int a, x]) = some (.tuple [.int a, p]) := by simp [toPy, toPys, hp, consP]
  unfold reprT
  rw [e1]
  show ∃ t, showT (.tuple [.int a, p]) = some t
  unfold showT
  have l1 := txt_len h
  have l2 := join_length_add [Str.ofString (toString a), p.shown] (by simp)
  have e3 : (PyData.tuple [.int a, p]).shown.length ≤ LINE := by
    have z : (PyData.tuple [.int a, p]).shown = ("(" : Str) ++ Str.join ", " [Str.ofString (toString a), p.shown] ++ (")" : Str) := by
      simp [PyData.shown, PyData.shownAll, tupleText]
    rw [z, len_app, len_app]
    have b1 : (Str.ofString "(").length = 1 := by decide
    have b2 : (Str.ofString ")").length = 1 := by decide
    have hL : LINE = 16777216 := rfl
    simp only [piled, List.map, List.sum_cons, List.sum_nil] at l2
    omega
  have e4 : (PyData.tuple [.int a, p]).showable = true := by simp [PyData.showable, PyData.showableAll, h, hs]
  have e5 : (PyData.tuple [.int a, p]).depth ≤ 50 := by simp [PyData.depth, PyData.depthAll]; omega
  simp [e3, e4, e5]
structure Num (i : Int) (k : Nat) : Prop where
  h : i.natAbs < 2 ^ k
theorem Num.log {i : Int} {k : Nat} (h : Num i k) (hk : k ≤ 1900) : i.natAbs.log2 < 1920 := by
  by_cases z : i.natAbs = 0
  · rw [z]; decide
  · have := (Nat.log2_lt z).mpr h.h
    omega
theorem log_of {q : Rat} {k : Nat} (h : sz q k) (hk : k ≤ 1900) : q.num.natAbs.log2 < 1920 ∧ q.den.log2 < 1920 := by
  refine ⟨Num.log ⟨h.1⟩ hk, ?_⟩
  have := (Nat.log2_lt (by have := q.den_pos; omega)).mpr h.2
  omega
theorem right_of {q : Rat} {t b : Int} (hb : b ≠ 0) (e : q = Rat.divInt t b) (k : Nat) (hz : sz q k) (hk : k ≤ 1900) : callT Tk (lev Tk false (n + 6)) 25 [R q, .int t, .int b] μ = .ok (.bl true) μ := by
  subst e
  exact right_ok hb (log_of hz hk).1 (log_of hz hk).2
theorem eq_odd {p : Rat} {i : Int} : evCm (lev Tk false (n + 3)) .eq (R p) (.int i) μ = .ok (.bl false) μ := by
  have e1 : callT Tk (lev Tk false (n + 1)) 12 [R p, .int i] μ = .ok (.bl false) μ := by
    rw [go12_2]
    simp [b12, R, rt, exSs, exS.eq_1, exS.eq_2, exS.eq_3, exS.eq_4, exS.eq_5, exS.eq_6, exS.eq_7, exS.eq_8, exS.eq_9, exS.eq_10, exS.eq_11, exS.eq_12, exS.eq_13, exS.eq_14, exS.eq_15, exS.eq_17, exS.eq_18, exS.eq_19, exS.eq_20, exS.eq_21, xs_for, evE.eq_1, evE.eq_2, evE.eq_3, evE.eq_4, evE.eq_5, evE.eq_6, evE.eq_7, evE.eq_8, evE.eq_9, evE.eq_10, evE.eq_11, evE.eq_12, evE.eq_13, evE.eq_14, evE.eq_15, evE.eq_16, evE.eq_17, evE.eq_18, evE.eq_19, evE.eq_20, evE.eq_21, evE.eq_22, evE.eq_23, evE.eq_24, evE.eq_26, xe_comp, evEs, evFs, fmtD, evEo, evTo, evT, evIt, getVar, bT_name, bT_tup, bT_lst, bindTs, Res.bind_ok, Res.bind_exc, Res.bind_stuck, Res.st_ok, Res.st_exc, SR.seq_nx, SR.seq_ret, SR.seq_exc, outF_ret, outF_nx, outI_nx, b2_add, b2_sub, cm_lt, cm_le, cm_gt, cm_ge, cm_eqi, cm_nei, cm_eqb, cm_neb, tr_bl, tr_int, ng_int, noExc, getSelf, getExn, E.isVar, bl_len, bl_absI, bl_maxI, bl_minI, bl_intI, bl_intB, bl_boolB, bl_list, bl_tuple, evLen, items, nb_non, nb_bl, nb_int, nb_str, nb_tup, nb_lst, nb_ins, nb_obj, nb_bor, lim, isNon, ty_non, ty_bl, ty_int, ty_str, ty_tup, ty_lst, ty_ins, isTy, setAtt, cl_ins, dcall, dcallF, dcallL, fldOk, putN, selfOut, fldsOf, lev_T, lev_hot, lev_heat, lev_call, lev_low, lev_make, lev_hcall, lev_hlow, lev_hmake, Option.bind, List.any, List.all, List.set, ite_true, ite_false, LINE, tcls0, c0, tcls1, c1, tcls2, c2, mth2_16, mth2_25, mth2_0, mth2_1, mth2_2, mth2_4, mth2_5, mth2_6, mth2_7, mth2_8, mth2_9, mth2_10, mth2_11, mth2_12, mth2_13, at2_20, at2_21, at2_23, at2_22]
  have e2 : eqOk (lev Tk false (n + 3)) μ 7 (R p) (.int i) := ⟨trivial, 12, false, rfl, by simp [R, rt], e1⟩
  show resB (eqD (lev Tk false (n + 3)) (R p) (.int i) μ) = _
  unfold eqD
  rw [if_pos e2]
  simp [resB, R, rt]
theorem isint_R (p : Rat) : callT Tk (lev Tk false n) 1 [R p] μ = .ok (.bl false) μ := by
  rw [go1_1]
  simp [b1, R, rt, exSs, exS.eq_1, exS.eq_2, exS.eq_3, exS.eq_4, exS.eq_5, exS.eq_6, exS.eq_7, exS.eq_8, exS.eq_9, exS.eq_10, exS.eq_11, exS.eq_12, exS.eq_13, exS.eq_14, exS.eq_15, exS.eq_17, exS.eq_18, exS.eq_19, exS.eq_20, exS.eq_21, xs_for, evE.eq_1, evE.eq_2, evE.eq_3, evE.eq_4, evE.eq_5, evE.eq_6, evE.eq_7, evE.eq_8, evE.eq_9, evE.eq_10, evE.eq_11, evE.eq_12, evE.eq_13, evE.eq_14, evE.eq_15, evE.eq_16, evE.eq_17, evE.eq_18, evE.eq_19, evE.eq_20, evE.eq_21, evE.eq_22, evE.eq_23, evE.eq_24, evE.eq_26, xe_comp, evEs, evFs, fmtD, evEo, evTo, evT, evIt, getVar, bT_name, bT_tup, bT_lst, bindTs, Res.bind_ok, Res.bind_exc, Res.bind_stuck, Res.st_ok, Res.st_exc, SR.seq_nx, SR.seq_ret, SR.seq_exc, outF_ret, outF_nx, outI_nx, b2_add, b2_sub, cm_lt, cm_le, cm_gt, cm_ge, cm_eqi, cm_nei, cm_eqb, cm_neb, tr_bl, tr_int, ng_int, noExc, getSelf, getExn, E.isVar, bl_len, bl_absI, bl_maxI, bl_minI, bl_intI, bl_intB, bl_boolB, bl_list, bl_tuple, evLen, items, nb_non, nb_bl, nb_int, nb_str, nb_tup, nb_lst, nb_ins, nb_obj, nb_bor, lim, isNon, ty_non, ty_bl, ty_int, ty_str, ty_tup, ty_lst, ty_ins, isTy, setAtt, cl_ins, dcall, dcallF, dcallL, fldOk, putN, selfOut, fldsOf, lev_T, lev_hot, lev_heat, lev_call, lev_low, lev_make, lev_hcall, lev_hlow, lev_hmake, Option.bind, List.any, List.all, List.set, ite_true, ite_false, LINE, tcls0, c0, tcls1, c1, tcls2, c2, mth2_16, mth2_25, mth2_0, mth2_1, mth2_2, mth2_4, mth2_5, mth2_6, mth2_7, mth2_8, mth2_9, mth2_10, mth2_11, mth2_12, mth2_13, at2_20, at2_21, at2_23, at2_22]
theorem isnum_I (i : Int) : callT Tk (lev Tk false (n + 1)) 20 [.int i] μ = .ok (.bl true) μ := by
  rw [go20_1]
  simp [b20, exSs, exS.eq_1, exS.eq_2, exS.eq_3, exS.eq_4, exS.eq_5, exS.eq_6, exS.eq_7, exS.eq_8, exS.eq_9, exS.eq_10, exS.eq_11, exS.eq_12, exS.eq_13, exS.eq_14, exS.eq_15, exS.eq_17, exS.eq_18, exS.eq_19, exS.eq_20, exS.eq_21, xs_for, evE.eq_1, evE.eq_2, evE.eq_3, evE.eq_4, evE.eq_5, evE.eq_6, evE.eq_7, evE.eq_8, evE.eq_9, evE.eq_10, evE.eq_11, evE.eq_12, evE.eq_13, evE.eq_14, evE.eq_15, evE.eq_16, evE.eq_17, evE.eq_18, evE.eq_19, evE.eq_20, evE.eq_21, evE.eq_22, evE.eq_23, evE.eq_24, evE.eq_26, xe_comp, evEs, evFs, fmtD, evEo, evTo, evT, evIt, getVar, bT_name, bT_tup, bT_lst, bindTs, Res.bind_ok, Res.bind_exc, Res.bind_stuck, Res.st_ok, Res.st_exc, SR.seq_nx, SR.seq_ret, SR.seq_exc, outF_ret, outF_nx, outI_nx, b2_add, b2_sub, cm_lt, cm_le, cm_gt, cm_ge, cm_eqi, cm_nei, cm_eqb, cm_neb, tr_bl, tr_int, ng_int, noExc, getSelf, getExn, E.isVar, bl_len, bl_absI, bl_maxI, bl_minI, bl_intI, bl_intB, bl_boolB, bl_list, bl_tuple, evLen, items, nb_non, nb_bl, nb_int, nb_str, nb_tup, nb_lst, nb_ins, nb_obj, nb_bor, lim, isNon, ty_non, ty_bl, ty_int, ty_str, ty_tup, ty_lst, ty_ins, isTy, setAtt, cl_ins, dcall, dcallF, dcallL, fldOk, putN, selfOut, fldsOf, lev_T, lev_hot, lev_heat, lev_call, lev_low, lev_make, lev_hcall, lev_hlow, lev_hmake, Option.bind, List.any, List.all, List.set, ite_true, ite_false, LINE, tcls0, c0, tcls1, c1, tcls2, c2, mth2_16, mth2_25, mth2_0, mth2_1, mth2_2, mth2_4, mth2_5, mth2_6, mth2_7, mth2_8, mth2_9, mth2_10, mth2_11, mth2_12, mth2_13, at2_20, at2_21, at2_23, at2_22, isint_int]
theorem isnum_R (p : Rat) : callT Tk (lev Tk false (n + 1)) 20 [R p] μ = .ok (.bl true) μ := by
  rw [go20_1]
  have e := isint_R (n := n) (μ := μ) p
  simp only [R, rt] at e
  simp [b20, R, rt, exSs, exS.eq_1, exS.eq_2, exS.eq_3, exS.eq_4, exS.eq_5, exS.eq_6, exS.eq_7, exS.eq_8, exS.eq_9, exS.eq_10, exS.eq_11, exS.eq_12, exS.eq_13, exS.eq_14, exS.eq_15, exS.eq_17, exS.eq_18, exS.eq_19, exS.eq_20, exS.eq_21, xs_for, evE.eq_1, evE.eq_2, evE.eq_3, evE.eq_4, evE.eq_5, evE.eq_6, evE.eq_7, evE.eq_8, evE.eq_9, evE.eq_10, evE.eq_11, evE.eq_12, evE.eq_13, evE.eq_14, evE.eq_15, evE.eq_16, evE.eq_17, evE.eq_18, evE.eq_19, evE.eq_20, evE.eq_21, evE.eq_22, evE.eq_23, evE.eq_24, evE.eq_26, xe_comp, evEs, evFs, fmtD, evEo, evTo, evT, evIt, getVar, bT_name, bT_tup, bT_lst, bindTs, Res.bind_ok, Res.bind_exc, Res.bind_stuck, Res.st_ok, Res.st_exc, SR.seq_nx, SR.seq_ret, SR.seq_exc, outF_ret, outF_nx, outI_nx, b2_add, b2_sub, cm_lt, cm_le, cm_gt, cm_ge, cm_eqi, cm_nei, cm_eqb, cm_neb, tr_bl, tr_int, ng_int, noExc, getSelf, getExn, E.isVar, bl_len, bl_absI, bl_maxI, bl_minI, bl_intI, bl_intB, bl_boolB, bl_list, bl_tuple, evLen, items, nb_non, nb_bl, nb_int, nb_str, nb_tup, nb_lst, nb_ins, nb_obj, nb_bor, lim, isNon, ty_non, ty_bl, ty_int, ty_str, ty_tup, ty_lst, ty_ins, isTy, setAtt, cl_ins, dcall, dcallF, dcallL, fldOk, putN, selfOut, fldsOf, lev_T, lev_hot, lev_heat, lev_call, lev_low, lev_make, lev_hcall, lev_hlow, lev_hmake, Option.bind, List.any, List.all, List.set, ite_true, ite_false, LINE, tcls0, c0, tcls1, c1, tcls2, c2, mth2_16, mth2_25, mth2_0, mth2_1, mth2_2, mth2_4, mth2_5, mth2_6, mth2_7, mth2_8, mth2_9, mth2_10, mth2_11, mth2_12, mth2_13, at2_20, at2_21, at2_23, at2_22, e]
theorem isnum_odd {x : D} (h : odd x = true) : callT Tk (lev Tk false (n + 1)) 20 [x] μ = .ok (.bl false) μ := by
  rw [go20_1]
  cases x <;> first | (simp [odd] at h; done) | simp [b20, exSs, exS.eq_1, exS.eq_2, exS.eq_3, exS.eq_4, exS.eq_5, exS.eq_6, exS.eq_7, exS.eq_8, exS.eq_9, exS.eq_10, exS.eq_11, exS.eq_12, exS.eq_13, exS.eq_14, exS.eq_15, exS.eq_17, exS.eq_18, exS.eq_19, exS.eq_20, exS.eq_21, xs_for, evE.eq_1, evE.eq_2, evE.eq_3, evE.eq_4, evE.eq_5, evE.eq_6, evE.eq_7, evE.eq_8, evE.eq_9, evE.eq_10, evE.eq_11, evE.eq_12, evE.eq_13, evE.eq_14, evE.eq_15, evE.eq_16, evE.eq_17, evE.eq_18, evE.eq_19, evE.eq_20, evE.eq_21, evE.eq_22, evE.eq_23, evE.eq_24, evE.eq_26, xe_comp, evEs, evFs, fmtD, evEo, evTo, evT, evIt, getVar, bT_name, bT_tup, bT_lst, bindTs, Res.bind_ok, Res.bind_exc, Res.bind_stuck, Res.st_ok, Res.st_exc, SR.seq_nx, SR.seq_ret, SR.seq_exc, outF_ret, outF_nx, outI_nx, b2_add, b2_sub, cm_lt, cm_le, cm_gt, cm_ge, cm_eqi, cm_nei, cm_eqb, cm_neb, tr_bl, tr_int, ng_int, noExc, getSelf, getExn, E.isVar, bl_len, bl_absI, bl_maxI, bl_minI, bl_intI, bl_intB, bl_boolB, bl_list, bl_tuple, evLen, items, nb_non, nb_bl, nb_int, nb_str, nb_tup, nb_lst, nb_ins, nb_obj, nb_bor, lim, isNon, ty_non, ty_bl, ty_int, ty_str, ty_tup, ty_lst, ty_ins, isTy, setAtt, cl_ins, dcall, dcallF, dcallL, fldOk, putN, selfOut, fldsOf, lev_T, lev_hot, lev_heat, lev_call, lev_low, lev_make, lev_hcall, lev_hlow, lev_hmake, Option.bind, List.any, List.all, List.set, ite_true, ite_false, LINE, tcls0, c0, tcls1, c1, tcls2, c2, mth2_16, mth2_25, mth2_0, mth2_1, mth2_2, mth2_4, mth2_5, mth2_6, mth2_7, mth2_8, mth2_9, mth2_10, mth2_11, mth2_12, mth2_13, at2_20, at2_21, at2_23, at2_22, isint_odd h]
theorem is_bb {C : Cl} {a b : Bool} : evCm C .isn (.bl a) (.bl b) μ = .ok (.bl (!decide (a = b))) μ := rfl
theorem odds {x : D} (hx : x ∈ [D.non, .bl true, .str "1", .tup [.int 1], .lst [.int 1]]) : odd x = true ∧ nbD x = true ∧ (∃ t, reprT x = some t) ∧ (∃ t, reprT (.tup [x, .int 1]) = some t) ∧ (∀ c fs, x ≠ .ins c fs) ∧ ∃ p, toPy x = some p ∧ p.showable = true ∧ p.shown.length ≤ 100 ∧ p.depth ≤ 10 := by
  simp only [List.mem_cons, List.not_mem_nil, or_false] at hx
  have some_of : ∀ {o : Option Str}, o.isSome = true → ∃ t, o = some t := fun h => Option.isSome_iff_exists.mp h
  rcases hx with rfl | rfl | rfl | rfl | rfl
  · exact ⟨rfl, rfl, some_of (by decide +kernel), some_of (by decide +kernel), nofun, .none, rfl, by decide +kernel, by decide +kernel, by decide +kernel⟩
  · exact ⟨rfl, rfl, some_of (by decide +kernel), some_of (by decide +kernel), nofun, .bool true, rfl, by decide +kernel, by decide +kernel, by decide +kernel⟩
  · exact ⟨rfl, rfl, some_of (by decide +kernel), some_of (by decide +kernel), nofun, .str "1", rfl, by decide +kernel, by decide +kernel, by decide +kernel⟩
  · exact ⟨rfl, rfl, some_of (by decide +kernel), some_of (by decide +kernel), nofun, .tuple [.int 1], rfl, by decide +kernel, by decide +kernel, by decide +kernel⟩
  · exact ⟨rfl, rfl, some_of (by decide +kernel), some_of (by decide +kernel), nofun, .list [.int 1], rfl, by decide +kernel, by decide +kernel, by decide +kernel⟩
theorem odd_turn {x : D} (hx : x ∈ [D.non, .bl true, .str "1", .tup [.int 1], .lst [.int 1]]) {a : Int} {p : Rat} (ha : a.natAbs.log2 < 1920) {x0 x1 x2 x3 x4 x5 x7 x8 x9 x11 : Option L} :
    turnF (lev Tk false (n + 7)) (.name 5) L27_0 x [x0, x1, x2, x3, x4, x5, some (.val (.int a)), x7, x8, x9, some (.val (R p)), x11] μ = .nx [x0, x1, x2, x3, x4, some (.val x), some (.val (.int a)), x7, x8, x9, some (.val (R p)), x11] μ := by
  obtain ⟨ho, hn, ⟨t1, h1⟩, ⟨t2, h2⟩, hi, q, q1, q2, q3, q4⟩ := odds hx
  obtain ⟨t3, h3⟩ := repr_pair ha q1 q2 q3 q4
  have r1 := ref_mk (n := n + 3) (μ := μ) hn rfl (mk_bad1 (n := n + 3) (μ := μ) ho rfl) h2
  have r2 := ref_mk (n := n + 3) (μ := μ) (x := .int a) rfl hn (mk_bad2 (n := n + 3) (μ := μ) ho) h3
  have r3 := ref_ratio (n := n + 2) (μ := μ) hn (ratio_bad (n := n + 2) (μ := μ) ho) (bl_reprD h1 hi)
  have r4 := ref_over (n := n + 2) (μ := μ) (p := p) hn (over_bad (n := n + 2) (μ := μ) (.inl ho)) (bl_reprD h1 hi)
  have r5 := isnum_odd (n := n + 5) (μ := μ) ho
  simp [turnF, L27_0, T27_7, T27_8, exSs, exS.eq_1, exS.eq_2, exS.eq_3, exS.eq_4, exS.eq_5, exS.eq_6, exS.eq_7, exS.eq_8, exS.eq_9, exS.eq_10, exS.eq_11, exS.eq_12, exS.eq_13, exS.eq_14, exS.eq_15, exS.eq_17, exS.eq_18, exS.eq_19, exS.eq_20, exS.eq_21, xs_for, evE.eq_1, evE.eq_2, evE.eq_3, evE.eq_4, evE.eq_5, evE.eq_6, evE.eq_7, evE.eq_8, evE.eq_9, evE.eq_10, evE.eq_11, evE.eq_12, evE.eq_13, evE.eq_14, evE.eq_15, evE.eq_16, evE.eq_17, evE.eq_18, evE.eq_19, evE.eq_20, evE.eq_21, evE.eq_22, evE.eq_23, evE.eq_24, evE.eq_26, xe_comp, evEs, evFs, fmtD, evEo, evTo, evT, evIt, getVar, bT_name, bT_tup, bT_lst, bindTs, Res.bind_ok, Res.bind_exc, Res.bind_stuck, Res.st_ok, Res.st_exc, SR.seq_nx, SR.seq_ret, SR.seq_exc, outF_ret, outF_nx, outI_nx, b2_add, b2_sub, cm_lt, cm_le, cm_gt, cm_ge, cm_eqi, cm_nei, cm_eqb, cm_neb, tr_bl, tr_int, ng_int, noExc, getSelf, getExn, E.isVar, bl_len, bl_absI, bl_maxI, bl_minI, bl_intI, bl_intB, bl_boolB, bl_list, bl_tuple, evLen, items, nb_non, nb_bl, nb_int, nb_str, nb_tup, nb_lst, nb_ins, nb_obj, nb_bor, lim, isNon, ty_non, ty_bl, ty_int, ty_str, ty_tup, ty_lst, ty_ins, isTy, setAtt, cl_ins, dcall, dcallF, dcallL, fldOk, putN, selfOut, fldsOf, lev_T, lev_hot, lev_heat, lev_call, lev_low, lev_make, lev_hcall, lev_hlow, lev_hmake, Option.bind, List.any, List.all, List.set, ite_true, ite_false, LINE, tcls0, c0, tcls1, c1, tcls2, c2, mth2_16, mth2_25, mth2_0, mth2_1, mth2_2, mth2_4, mth2_5, mth2_6, mth2_7, mth2_8, mth2_9, mth2_10, mth2_11, mth2_12, mth2_13, at2_20, at2_21, at2_23, at2_22, hn, r1, r2, r3, r4, r5, is_bb, nb_R]
end
section
variable {n : Nat} {μ : Mu} {a b c d : Int}
abbrev sg (s0 s1 s2 s3 s4 s5 : Option L) (a b c d : Int) : Sg := [s0, s1, s2, s3, s4, s5, some (.val (.int a)), some (.val (.int b)), some (.val (.int c)), some (.val (.int d)), some (.val (R (Rat.divInt a b))), some (.val (R (Rat.divInt c d)))]
structure Four (a b c d : Int) : Prop where
  ha : a.natAbs < 2 ^ 140
  hb : b.natAbs < 2 ^ 140
  hc : c.natAbs < 2 ^ 140
  hd : d.natAbs < 2 ^ 140
  b0 : 0 < b
  d0 : d < 0
variable {s0 s1 s2 s3 s4 s5 : Option L}
theorem abs_of (hd : d < 0) : (Rat.divInt c d).abs = Rat.divInt (absI c) (-d) := by
  have hd' : (0 : Rat) < ((-d : Int) : Rat) := Rat.intCast_pos.mpr (by omega)
  have e : Rat.divInt c d = Rat.divInt (-c) (-d) := (Rat.neg_divInt_neg ..).symm
  rw [e, Rat.divInt_eq_div, Rat.divInt_eq_div]
  unfold Rat.abs absI
  have hinv : (0 : Rat) < (((-d : Int) : Rat))⁻¹ := Rat.inv_pos.mpr hd'
  by_cases hc : c < 0
  · rw [if_pos hc]
    have h1 : (0 : Rat) ≤ ((-c : Int) : Rat) := Rat.intCast_nonneg.mpr (by omega)
    rw [if_pos (by rw [Rat.div_def]; exact Rat.mul_nonneg h1 (Rat.le_of_lt hinv))]
  · rw [if_neg hc]
    have h1 : (0 : Rat) ≤ ((c : Int) : Rat) := Rat.intCast_nonneg.mpr (by omega)
    by_cases h0 : c = 0
    · subst h0
      have e0 : ((-0 : Int) : Rat) / ((-d : Int) : Rat) = 0 := by rw [Rat.div_def]; simp
      have e1 : ((0 : Int) : Rat) / ((-d : Int) : Rat) = 0 := by rw [Rat.div_def]; simp
      rw [e0, e1]; simp
    · rw [if_neg]
      · rw [Rat.intCast_neg]; grind
      · intro z
        have h2 : (0 : Rat) < ((c : Int) : Rat) := Rat.intCast_pos.mpr (by omega)
        have h3 := Rat.mul_pos h2 hinv
        rw [Rat.div_def, Rat.intCast_neg] at z
        grind
theorem div_eq2 (hb : b ≠ 0) (hd : d ≠ 0) : (Rat.divInt a b = Rat.divInt c d) = (a * d = c * b) := propext (Rat.divInt_eq_divInt_iff hb hd)
section
variable (F : Four a b c d)
include F
theorem mul_ab {x y : Int} (hx : x.natAbs < 2 ^ 140) (hy : y.natAbs < 2 ^ 140) : mulOk x y = true := mulOk_of 140 140 hx hy (by decide)
theorem tst0 : evT (lev Tk false (n + 7)) T27_0 (sg s0 s1 s2 s3 (some (.val (R (Rat.divInt (a * 30) (b * 30))))) s5 a b c d) μ = .ok false μ := by
  have hb := F.b0
  have hd := F.d0
  have z1 := sz_divInt (a := a) (b := b) F.ha F.hb (by omega)
  have z2 := sz_divInt (a := c) (b := d) F.hc F.hd (by omega)
  have z3 : sz (Rat.divInt (a * 30) (b * 30)) 150 := sz_divInt (by have := F.ha; omega) (by have := F.hb; omega) (by omega)
  have m1 : mulOk a 30 = true := mulOk_r (by decide)
  have m2 : mulOk b 30 = true := mulOk_r (by decide)
  have r1 := right_of (n := n) (μ := μ) (t := a) (b := b) (by omega) rfl 140 z1 (by decide)
  have r2 := right_of (n := n) (μ := μ) (t := c) (b := d) (by omega) rfl 140 z2 (by decide)
  have r3 := right_of (n := n) (μ := μ) (t := a * 30) (b := b * 30) (by omega) rfl 150 z3 (by decide)
  simp [T27_0, exSs, exS.eq_1, exS.eq_2, exS.eq_3, exS.eq_4, exS.eq_5, exS.eq_6, exS.eq_7, exS.eq_8, exS.eq_9, exS.eq_10, exS.eq_11, exS.eq_12, exS.eq_13, exS.eq_14, exS.eq_15, exS.eq_17, exS.eq_18, exS.eq_19, exS.eq_20, exS.eq_21, xs_for, evE.eq_1, evE.eq_2, evE.eq_3, evE.eq_4, evE.eq_5, evE.eq_6, evE.eq_7, evE.eq_8, evE.eq_9, evE.eq_10, evE.eq_11, evE.eq_12, evE.eq_13, evE.eq_14, evE.eq_15, evE.eq_16, evE.eq_17, evE.eq_18, evE.eq_19, evE.eq_20, evE.eq_21, evE.eq_22, evE.eq_23, evE.eq_24, evE.eq_26, xe_comp, evEs, evFs, fmtD, evEo, evTo, evT, evIt, getVar, bT_name, bT_tup, bT_lst, bindTs, Res.bind_ok, Res.bind_exc, Res.bind_stuck, Res.st_ok, Res.st_exc, SR.seq_nx, SR.seq_ret, SR.seq_exc, outF_ret, outF_nx, outI_nx, b2_add, b2_sub, cm_lt, cm_le, cm_gt, cm_ge, cm_eqi, cm_nei, cm_eqb, cm_neb, tr_bl, tr_int, ng_int, noExc, getSelf, getExn, E.isVar, bl_len, bl_absI, bl_maxI, bl_minI, bl_intI, bl_intB, bl_boolB, bl_list, bl_tuple, evLen, items, nb_non, nb_bl, nb_int, nb_str, nb_tup, nb_lst, nb_ins, nb_obj, nb_bor, lim, isNon, ty_non, ty_bl, ty_int, ty_str, ty_tup, ty_lst, ty_ins, isTy, setAtt, cl_ins, dcall, dcallF, dcallL, fldOk, putN, selfOut, fldsOf, lev_T, lev_hot, lev_heat, lev_call, lev_low, lev_make, lev_hcall, lev_hlow, lev_hmake, Option.bind, List.any, List.all, List.set, ite_true, ite_false, LINE, tcls0, c0, tcls1, c1, tcls2, c2, mth2_16, mth2_25, mth2_0, mth2_1, mth2_2, mth2_4, mth2_5, mth2_6, mth2_7, mth2_8, mth2_9, mth2_10, mth2_11, mth2_12, mth2_13, at2_20, at2_21, at2_23, at2_22, b2_mul m1, b2_mul m2, r1, r2, r3, nb_R]
theorem tst1 : evT (lev Tk false (n + 7)) T27_1 (sg s0 s1 s2 s3 s4 s5 a b c d) μ = .ok false μ := by
  have hb := F.b0
  have hd := F.d0
  haveI z1 : Sz (Rat.divInt a b) 140 := ⟨sz_divInt F.ha F.hb (by omega)⟩
  haveI z2 : Sz (Rat.divInt c d) 140 := ⟨sz_divInt F.hc F.hd (by omega)⟩
  have hbd : b * d ≠ 0 := Int.mul_ne_zero (by omega) (by omega)
  have e1 := Rat.divInt_add_divInt a c (d₁ := b) (d₂ := d) (by omega) (by omega)
  have e2 := Rat.divInt_sub_divInt a c (d₁ := b) (d₂ := d) (by omega) (by omega)
  have r1 := right_of (n := n) (μ := μ) hbd e1 281 (sz_add z1.h z2.h) (by decide)
  have r2 := right_of (n := n) (μ := μ) hbd e2 281 (sz_sub z1.h z2.h) (by decide)
  simp [T27_1, exSs, exS.eq_1, exS.eq_2, exS.eq_3, exS.eq_4, exS.eq_5, exS.eq_6, exS.eq_7, exS.eq_8, exS.eq_9, exS.eq_10, exS.eq_11, exS.eq_12, exS.eq_13, exS.eq_14, exS.eq_15, exS.eq_17, exS.eq_18, exS.eq_19, exS.eq_20, exS.eq_21, xs_for, evE.eq_1, evE.eq_2, evE.eq_3, evE.eq_4, evE.eq_5, evE.eq_6, evE.eq_7, evE.eq_8, evE.eq_9, evE.eq_10, evE.eq_11, evE.eq_12, evE.eq_13, evE.eq_14, evE.eq_15, evE.eq_16, evE.eq_17, evE.eq_18, evE.eq_19, evE.eq_20, evE.eq_21, evE.eq_22, evE.eq_23, evE.eq_24, evE.eq_26, xe_comp, evEs, evFs, fmtD, evEo, evTo, evT, evIt, getVar, bT_name, bT_tup, bT_lst, bindTs, Res.bind_ok, Res.bind_exc, Res.bind_stuck, Res.st_ok, Res.st_exc, SR.seq_nx, SR.seq_ret, SR.seq_exc, outF_ret, outF_nx, outI_nx, b2_add, b2_sub, cm_lt, cm_le, cm_gt, cm_ge, cm_eqi, cm_nei, cm_eqb, cm_neb, tr_bl, tr_int, ng_int, noExc, getSelf, getExn, E.isVar, bl_len, bl_absI, bl_maxI, bl_minI, bl_intI, bl_intB, bl_boolB, bl_list, bl_tuple, evLen, items, nb_non, nb_bl, nb_int, nb_str, nb_tup, nb_lst, nb_ins, nb_obj, nb_bor, lim, isNon, ty_non, ty_bl, ty_int, ty_str, ty_tup, ty_lst, ty_ins, isTy, setAtt, cl_ins, dcall, dcallF, dcallL, fldOk, putN, selfOut, fldsOf, lev_T, lev_hot, lev_heat, lev_call, lev_low, lev_make, lev_hcall, lev_hlow, lev_hmake, Option.bind, List.any, List.all, List.set, ite_true, ite_false, LINE, tcls0, c0, tcls1, c1, tcls2, c2, mth2_16, mth2_25, mth2_0, mth2_1, mth2_2, mth2_4, mth2_5, mth2_6, mth2_7, mth2_8, mth2_9, mth2_10, mth2_11, mth2_12, mth2_13, at2_20, at2_21, at2_23, at2_22, b2_addN, b2_subN, b2_mulN, cm_ltN, cm_leN, cm_gtN, cm_geN, cm_eqR, cm_neR, ng_R, tr_R, bl_absR, overN, at_topR, at_bottomR, ratioI_ok, ratioR_ok, nb_R, cl_R, ty_R, b2_mul (mul_ab F F.ha F.hd), b2_mul (mul_ab F F.hc F.hb), b2_mul (mul_ab F F.hb F.hd), r1, r2]
theorem tst2 : evT (lev Tk false (n + 7)) T27_2 (sg s0 s1 s2 s3 s4 s5 a b c d) μ = .ok false μ := by
  have hb := F.b0
  have hd := F.d0
  haveI z1 : Sz (Rat.divInt a b) 140 := ⟨sz_divInt F.ha F.hb (by omega)⟩
  haveI z2 : Sz (Rat.divInt c d) 140 := ⟨sz_divInt F.hc F.hd (by omega)⟩
  have hbd : b * d ≠ 0 := Int.mul_ne_zero (by omega) (by omega)
  have e1 := Rat.divInt_mul_divInt a c (d₁ := b) (d₂ := d)
  have e2 : -Rat.divInt a b = Rat.divInt (-a) b := by rw [Rat.neg_divInt]
  have r1 := right_of (n := n) (μ := μ) hbd e1 280 (sz_mul z1.h z2.h) (by decide)
  have r2 := right_of (n := n) (μ := μ) (by omega) e2 140 (sz_neg z1.h) (by decide)
  rw [e2] at r2
  have e3 : -Rat.divInt a b = Rat.divInt (-a) b := e2
  simp [T27_2, exSs, exS.eq_1, exS.eq_2, exS.eq_3, exS.eq_4, exS.eq_5, exS.eq_6, exS.eq_7, exS.eq_8, exS.eq_9, exS.eq_10, exS.eq_11, exS.eq_12, exS.eq_13, exS.eq_14, exS.eq_15, exS.eq_17, exS.eq_18, exS.eq_19, exS.eq_20, exS.eq_21, xs_for, evE.eq_1, evE.eq_2, evE.eq_3, evE.eq_4, evE.eq_5, evE.eq_6, evE.eq_7, evE.eq_8, evE.eq_9, evE.eq_10, evE.eq_11, evE.eq_12, evE.eq_13, evE.eq_14, evE.eq_15, evE.eq_16, evE.eq_17, evE.eq_18, evE.eq_19, evE.eq_20, evE.eq_21, evE.eq_22, evE.eq_23, evE.eq_24, evE.eq_26, xe_comp, evEs, evFs, fmtD, evEo, evTo, evT, evIt, getVar, bT_name, bT_tup, bT_lst, bindTs, Res.bind_ok, Res.bind_exc, Res.bind_stuck, Res.st_ok, Res.st_exc, SR.seq_nx, SR.seq_ret, SR.seq_exc, outF_ret, outF_nx, outI_nx, b2_add, b2_sub, cm_lt, cm_le, cm_gt, cm_ge, cm_eqi, cm_nei, cm_eqb, cm_neb, tr_bl, tr_int, ng_int, noExc, getSelf, getExn, E.isVar, bl_len, bl_absI, bl_maxI, bl_minI, bl_intI, bl_intB, bl_boolB, bl_list, bl_tuple, evLen, items, nb_non, nb_bl, nb_int, nb_str, nb_tup, nb_lst, nb_ins, nb_obj, nb_bor, lim, isNon, ty_non, ty_bl, ty_int, ty_str, ty_tup, ty_lst, ty_ins, isTy, setAtt, cl_ins, dcall, dcallF, dcallL, fldOk, putN, selfOut, fldsOf, lev_T, lev_hot, lev_heat, lev_call, lev_low, lev_make, lev_hcall, lev_hlow, lev_hmake, Option.bind, List.any, List.all, List.set, ite_true, ite_false, LINE, tcls0, c0, tcls1, c1, tcls2, c2, mth2_16, mth2_25, mth2_0, mth2_1, mth2_2, mth2_4, mth2_5, mth2_6, mth2_7, mth2_8, mth2_9, mth2_10, mth2_11, mth2_12, mth2_13, at2_20, at2_21, at2_23, at2_22, b2_addN, b2_subN, b2_mulN, cm_ltN, cm_leN, cm_gtN, cm_geN, cm_eqR, cm_neR, ng_R, tr_R, bl_absR, overN, at_topR, at_bottomR, ratioI_ok, ratioR_ok, nb_R, cl_R, ty_R, b2_mul (mul_ab F F.ha F.hc), b2_mul (mul_ab F F.hb F.hd), r1, e3, r2]
theorem tst3 : evT (lev Tk false (n + 7)) T27_3 (sg s0 s1 s2 s3 s4 s5 a b c d) μ = .ok false μ := by
  have hd := F.d0
  haveI z2 : Sz (Rat.divInt c d) 140 := ⟨sz_divInt F.hc F.hd (by omega)⟩
  have r1 := right_of (n := n) (μ := μ) (b := -d) (by omega) (abs_of hd) 140 (sz_abs z2.h) (by decide)
  simp [T27_3, exSs, exS.eq_1, exS.eq_2, exS.eq_3, exS.eq_4, exS.eq_5, exS.eq_6, exS.eq_7, exS.eq_8, exS.eq_9, exS.eq_10, exS.eq_11, exS.eq_12, exS.eq_13, exS.eq_14, exS.eq_15, exS.eq_17, exS.eq_18, exS.eq_19, exS.eq_20, exS.eq_21, xs_for, evE.eq_1, evE.eq_2, evE.eq_3, evE.eq_4, evE.eq_5, evE.eq_6, evE.eq_7, evE.eq_8, evE.eq_9, evE.eq_10, evE.eq_11, evE.eq_12, evE.eq_13, evE.eq_14, evE.eq_15, evE.eq_16, evE.eq_17, evE.eq_18, evE.eq_19, evE.eq_20, evE.eq_21, evE.eq_22, evE.eq_23, evE.eq_24, evE.eq_26, xe_comp, evEs, evFs, fmtD, evEo, evTo, evT, evIt, getVar, bT_name, bT_tup, bT_lst, bindTs, Res.bind_ok, Res.bind_exc, Res.bind_stuck, Res.st_ok, Res.st_exc, SR.seq_nx, SR.seq_ret, SR.seq_exc, outF_ret, outF_nx, outI_nx, b2_add, b2_sub, cm_lt, cm_le, cm_gt, cm_ge, cm_eqi, cm_nei, cm_eqb, cm_neb, tr_bl, tr_int, ng_int, noExc, getSelf, getExn, E.isVar, bl_len, bl_absI, bl_maxI, bl_minI, bl_intI, bl_intB, bl_boolB, bl_list, bl_tuple, evLen, items, nb_non, nb_bl, nb_int, nb_str, nb_tup, nb_lst, nb_ins, nb_obj, nb_bor, lim, isNon, ty_non, ty_bl, ty_int, ty_str, ty_tup, ty_lst, ty_ins, isTy, setAtt, cl_ins, dcall, dcallF, dcallL, fldOk, putN, selfOut, fldsOf, lev_T, lev_hot, lev_heat, lev_call, lev_low, lev_make, lev_hcall, lev_hlow, lev_hmake, Option.bind, List.any, List.all, List.set, ite_true, ite_false, LINE, tcls0, c0, tcls1, c1, tcls2, c2, mth2_16, mth2_25, mth2_0, mth2_1, mth2_2, mth2_4, mth2_5, mth2_6, mth2_7, mth2_8, mth2_9, mth2_10, mth2_11, mth2_12, mth2_13, at2_20, at2_21, at2_23, at2_22, b2_addN, b2_subN, b2_mulN, cm_ltN, cm_leN, cm_gtN, cm_geN, cm_eqR, cm_neR, ng_R, tr_R, bl_absR, overN, at_topR, at_bottomR, ratioI_ok, ratioR_ok, nb_R, cl_R, ty_R, r1]
theorem tst4 : evT (lev Tk false (n + 7)) T27_4 (sg s0 s1 s2 s3 s4 s5 a b c d) μ = .ok false μ := by
  have hb := F.b0
  have hd := F.d0
  haveI z1 : Sz (Rat.divInt a b) 140 := ⟨sz_divInt F.ha F.hb (by omega)⟩
  haveI z2 : Sz (Rat.divInt c d) 140 := ⟨sz_divInt F.hc F.hd (by omega)⟩
  by_cases hc : c = 0
  · subst hc
    simp [T27_4, exSs, exS.eq_1, exS.eq_2, exS.eq_3, exS.eq_4, exS.eq_5, exS.eq_6, exS.eq_7, exS.eq_8, exS.eq_9, exS.eq_10, exS.eq_11, exS.eq_12, exS.eq_13, exS.eq_14, exS.eq_15, exS.eq_17, exS.eq_18, exS.eq_19, exS.eq_20, exS.eq_21, xs_for, evE.eq_1, evE.eq_2, evE.eq_3, evE.eq_4, evE.eq_5, evE.eq_6, evE.eq_7, evE.eq_8, evE.eq_9, evE.eq_10, evE.eq_11, evE.eq_12, evE.eq_13, evE.eq_14, evE.eq_15, evE.eq_16, evE.eq_17, evE.eq_18, evE.eq_19, evE.eq_20, evE.eq_21, evE.eq_22, evE.eq_23, evE.eq_24, evE.eq_26, xe_comp, evEs, evFs, fmtD, evEo, evTo, evT, evIt, getVar, bT_name, bT_tup, bT_lst, bindTs, Res.bind_ok, Res.bind_exc, Res.bind_stuck, Res.st_ok, Res.st_exc, SR.seq_nx, SR.seq_ret, SR.seq_exc, outF_ret, outF_nx, outI_nx, b2_add, b2_sub, cm_lt, cm_le, cm_gt, cm_ge, cm_eqi, cm_nei, cm_eqb, cm_neb, tr_bl, tr_int, ng_int, noExc, getSelf, getExn, E.isVar, bl_len, bl_absI, bl_maxI, bl_minI, bl_intI, bl_intB, bl_boolB, bl_list, bl_tuple, evLen, items, nb_non, nb_bl, nb_int, nb_str, nb_tup, nb_lst, nb_ins, nb_obj, nb_bor, lim, isNon, ty_non, ty_bl, ty_int, ty_str, ty_tup, ty_lst, ty_ins, isTy, setAtt, cl_ins, dcall, dcallF, dcallL, fldOk, putN, selfOut, fldsOf, lev_T, lev_hot, lev_heat, lev_call, lev_low, lev_make, lev_hcall, lev_hlow, lev_hmake, Option.bind, List.any, List.all, List.set, ite_true, ite_false, LINE, tcls0, c0, tcls1, c1, tcls2, c2, mth2_16, mth2_25, mth2_0, mth2_1, mth2_2, mth2_4, mth2_5, mth2_6, mth2_7, mth2_8, mth2_9, mth2_10, mth2_11, mth2_12, mth2_13, at2_20, at2_21, at2_23, at2_22]
  · have hq : Rat.divInt c d ≠ 0 := by
      intro z
      rw [Rat.divInt_eq_div] at z
      have h1 : (c : Rat) ≠ 0 := by simpa using hc
      have h2 : (d : Rat) ≠ 0 := by have : d ≠ 0 := by omega
                                    simpa using this
      grind
    have hbc : b * c ≠ 0 := Int.mul_ne_zero (by omega) hc
    have e1 : Rat.divInt a b / Rat.divInt c d = Rat.divInt (a * d) (b * c) := by
      rw [Rat.div_def, Rat.inv_divInt, Rat.divInt_mul_divInt]
    have r1 := right_of (n := n) (μ := μ) hbc e1 280 (sz_div z1.h z2.h) (by decide)
    have o := overN (hot := false) (n := n + 3) (μ := μ) (p := Rat.divInt a b) (q := Rat.divInt c d) (by decide) hq
    simp [T27_4, exSs, exS.eq_1, exS.eq_2, exS.eq_3, exS.eq_4, exS.eq_5, exS.eq_6, exS.eq_7, exS.eq_8, exS.eq_9, exS.eq_10, exS.eq_11, exS.eq_12, exS.eq_13, exS.eq_14, exS.eq_15, exS.eq_17, exS.eq_18, exS.eq_19, exS.eq_20, exS.eq_21, xs_for, evE.eq_1, evE.eq_2, evE.eq_3, evE.eq_4, evE.eq_5, evE.eq_6, evE.eq_7, evE.eq_8, evE.eq_9, evE.eq_10, evE.eq_11, evE.eq_12, evE.eq_13, evE.eq_14, evE.eq_15, evE.eq_16, evE.eq_17, evE.eq_18, evE.eq_19, evE.eq_20, evE.eq_21, evE.eq_22, evE.eq_23, evE.eq_24, evE.eq_26, xe_comp, evEs, evFs, fmtD, evEo, evTo, evT, evIt, getVar, bT_name, bT_tup, bT_lst, bindTs, Res.bind_ok, Res.bind_exc, Res.bind_stuck, Res.st_ok, Res.st_exc, SR.seq_nx, SR.seq_ret, SR.seq_exc, outF_ret, outF_nx, outI_nx, b2_add, b2_sub, cm_lt, cm_le, cm_gt, cm_ge, cm_eqi, cm_nei, cm_eqb, cm_neb, tr_bl, tr_int, ng_int, noExc, getSelf, getExn, E.isVar, bl_len, bl_absI, bl_maxI, bl_minI, bl_intI, bl_intB, bl_boolB, bl_list, bl_tuple, evLen, items, nb_non, nb_bl, nb_int, nb_str, nb_tup, nb_lst, nb_ins, nb_obj, nb_bor, lim, isNon, ty_non, ty_bl, ty_int, ty_str, ty_tup, ty_lst, ty_ins, isTy, setAtt, cl_ins, dcall, dcallF, dcallL, fldOk, putN, selfOut, fldsOf, lev_T, lev_hot, lev_heat, lev_call, lev_low, lev_make, lev_hcall, lev_hlow, lev_hmake, Option.bind, List.any, List.all, List.set, ite_true, ite_false, LINE, tcls0, c0, tcls1, c1, tcls2, c2, mth2_16, mth2_25, mth2_0, mth2_1, mth2_2, mth2_4, mth2_5, mth2_6, mth2_7, mth2_8, mth2_9, mth2_10, mth2_11, mth2_12, mth2_13, at2_20, at2_21, at2_23, at2_22, b2_addN, b2_subN, b2_mulN, cm_ltN, cm_leN, cm_gtN, cm_geN, cm_eqR, cm_neR, ng_R, tr_R, bl_absR, overN, at_topR, at_bottomR, ratioI_ok, ratioR_ok, nb_R, cl_R, ty_R, hc, b2_mul (mul_ab F F.ha F.hd), b2_mul (mul_ab F F.hb F.hc), r1, o]
theorem tst5 : evT (lev Tk false (n + 7)) T27_5 (sg s0 s1 s2 s3 s4 s5 a b c d) μ = .ok false μ := by
  have hb := F.b0
  have hd := F.d0
  have e := div_eq2 (a := a) (c := c) (b := b) (d := d) (by omega) (by omega)
  have e2 := eq_odd (n := n + 4) (μ := μ) (p := Rat.divInt a b) (i := a)
  simp [T27_5, exSs, exS.eq_1, exS.eq_2, exS.eq_3, exS.eq_4, exS.eq_5, exS.eq_6, exS.eq_7, exS.eq_8, exS.eq_9, exS.eq_10, exS.eq_11, exS.eq_12, exS.eq_13, exS.eq_14, exS.eq_15, exS.eq_17, exS.eq_18, exS.eq_19, exS.eq_20, exS.eq_21, xs_for, evE.eq_1, evE.eq_2, evE.eq_3, evE.eq_4, evE.eq_5, evE.eq_6, evE.eq_7, evE.eq_8, evE.eq_9, evE.eq_10, evE.eq_11, evE.eq_12, evE.eq_13, evE.eq_14, evE.eq_15, evE.eq_16, evE.eq_17, evE.eq_18, evE.eq_19, evE.eq_20, evE.eq_21, evE.eq_22, evE.eq_23, evE.eq_24, evE.eq_26, xe_comp, evEs, evFs, fmtD, evEo, evTo, evT, evIt, getVar, bT_name, bT_tup, bT_lst, bindTs, Res.bind_ok, Res.bind_exc, Res.bind_stuck, Res.st_ok, Res.st_exc, SR.seq_nx, SR.seq_ret, SR.seq_exc, outF_ret, outF_nx, outI_nx, b2_add, b2_sub, cm_lt, cm_le, cm_gt, cm_ge, cm_eqi, cm_nei, cm_eqb, cm_neb, tr_bl, tr_int, ng_int, noExc, getSelf, getExn, E.isVar, bl_len, bl_absI, bl_maxI, bl_minI, bl_intI, bl_intB, bl_boolB, bl_list, bl_tuple, evLen, items, nb_non, nb_bl, nb_int, nb_str, nb_tup, nb_lst, nb_ins, nb_obj, nb_bor, lim, isNon, ty_non, ty_bl, ty_int, ty_str, ty_tup, ty_lst, ty_ins, isTy, setAtt, cl_ins, dcall, dcallF, dcallL, fldOk, putN, selfOut, fldsOf, lev_T, lev_hot, lev_heat, lev_call, lev_low, lev_make, lev_hcall, lev_hlow, lev_hmake, Option.bind, List.any, List.all, List.set, ite_true, ite_false, LINE, tcls0, c0, tcls1, c1, tcls2, c2, mth2_16, mth2_25, mth2_0, mth2_1, mth2_2, mth2_4, mth2_5, mth2_6, mth2_7, mth2_8, mth2_9, mth2_10, mth2_11, mth2_12, mth2_13, at2_20, at2_21, at2_23, at2_22, b2_addN, b2_subN, b2_mulN, cm_ltN, cm_leN, cm_gtN, cm_geN, cm_eqR, cm_neR, ng_R, tr_R, bl_absR, overN, at_topR, at_bottomR, ratioI_ok, ratioR_ok, nb_R, cl_R, ty_R, b2_mul (mul_ab F F.ha F.hd), b2_mul (mul_ab F F.hc F.hb), e, e2]
theorem mk_one : makeT Tk (lev Tk false (n + 1)) 2 [.int a] μ = .ok (R a) μ := by
  rw [← one_divInt, ← mk_ok (by decide), mk2_1, mk2_2]
theorem tst6 : evT (lev Tk false (n + 7)) T27_6 (sg s0 s1 s2 s3 s4 s5 a b c d) μ = .ok false μ := by
  have m1 := mk_ok (hot := false) (n := n + 4) (μ := μ) (a := a) (b := 1) (by decide)
  have m2 := mk_one F (n := n + 4) (μ := μ)
  rw [one_divInt] at m1
  simp [T27_6, exSs, exS.eq_1, exS.eq_2, exS.eq_3, exS.eq_4, exS.eq_5, exS.eq_6, exS.eq_7, exS.eq_8, exS.eq_9, exS.eq_10, exS.eq_11, exS.eq_12, exS.eq_13, exS.eq_14, exS.eq_15, exS.eq_17, exS.eq_18, exS.eq_19, exS.eq_20, exS.eq_21, xs_for, evE.eq_1, evE.eq_2, evE.eq_3, evE.eq_4, evE.eq_5, evE.eq_6, evE.eq_7, evE.eq_8, evE.eq_9, evE.eq_10, evE.eq_11, evE.eq_12, evE.eq_13, evE.eq_14, evE.eq_15, evE.eq_16, evE.eq_17, evE.eq_18, evE.eq_19, evE.eq_20, evE.eq_21, evE.eq_22, evE.eq_23, evE.eq_24, evE.eq_26, xe_comp, evEs, evFs, fmtD, evEo, evTo, evT, evIt, getVar, bT_name, bT_tup, bT_lst, bindTs, Res.bind_ok, Res.bind_exc, Res.bind_stuck, Res.st_ok, Res.st_exc, SR.seq_nx, SR.seq_ret, SR.seq_exc, outF_ret, outF_nx, outI_nx, b2_add, b2_sub, cm_lt, cm_le, cm_gt, cm_ge, cm_eqi, cm_nei, cm_eqb, cm_neb, tr_bl, tr_int, ng_int, noExc, getSelf, getExn, E.isVar, bl_len, bl_absI, bl_maxI, bl_minI, bl_intI, bl_intB, bl_boolB, bl_list, bl_tuple, evLen, items, nb_non, nb_bl, nb_int, nb_str, nb_tup, nb_lst, nb_ins, nb_obj, nb_bor, lim, isNon, ty_non, ty_bl, ty_int, ty_str, ty_tup, ty_lst, ty_ins, isTy, setAtt, cl_ins, dcall, dcallF, dcallL, fldOk, putN, selfOut, fldsOf, lev_T, lev_hot, lev_heat, lev_call, lev_low, lev_make, lev_hcall, lev_hlow, lev_hmake, Option.bind, List.any, List.all, List.set, ite_true, ite_false, LINE, tcls0, c0, tcls1, c1, tcls2, c2, mth2_16, mth2_25, mth2_0, mth2_1, mth2_2, mth2_4, mth2_5, mth2_6, mth2_7, mth2_8, mth2_9, mth2_10, mth2_11, mth2_12, mth2_13, at2_20, at2_21, at2_23, at2_22, b2_addN, b2_subN, b2_mulN, cm_ltN, cm_leN, cm_gtN, cm_geN, cm_eqR, cm_neR, ng_R, tr_R, bl_absR, overN, at_topR, at_bottomR, ratioI_ok, ratioR_ok, nb_R, cl_R, ty_R, m1, m2]
theorem tst9 : evT (lev Tk false (n + 7)) T27_9 (sg s0 s1 s2 s3 s4 s5 a b c d) μ = .ok false μ := by
  have la : a.natAbs.log2 < 1920 := Num.log ⟨F.ha⟩ (by decide)
  obtain ⟨t1, h1⟩ := repr_pair la (x := .int 0) (p := .int 0) rfl (by decide +kernel) (by decide +kernel) (by decide +kernel)
  have r1 := ref_mk (n := n + 3) (μ := μ) (x := .int a) (y := .int 0) rfl rfl (mk_bad0 (n := n + 3) (μ := μ)) h1
  have z0 : ((0 : Int) : Rat) = 0 := rfl
  have m1 : makeT Tk (lev Tk false (n + 5)) 2 [.int 0] μ = .ok (R 0) μ := by
    rw [show R 0 = R ((0 : Int) : Rat) from rfl, ← one_divInt, ← mk_ok (by decide), mk2_1, mk2_2]
  have r2 := ref_over (n := n + 2) (μ := μ) (p := Rat.divInt a b) (y := R 0) rfl (over_bad (n := n + 2) (μ := μ) (.inr (.inl rfl))) (bl_reprR (hot := true) (n := n + 3) (q := 0) (by decide) (by decide))
  obtain ⟨t3, h3⟩ : ∃ t, reprT (.int 2) = some t := Option.isSome_iff_exists.mp (by decide +kernel)
  have r3 := ref_over (n := n + 2) (μ := μ) (p := Rat.divInt a b) (y := .int 2) rfl (over_bad (n := n + 2) (μ := μ) (.inr (.inr ⟨2, rfl⟩))) (bl_reprD h3 nofun)
  simp [T27_9, exSs, exS.eq_1, exS.eq_2, exS.eq_3, exS.eq_4, exS.eq_5, exS.eq_6, exS.eq_7, exS.eq_8, exS.eq_9, exS.eq_10, exS.eq_11, exS.eq_12, exS.eq_13, exS.eq_14, exS.eq_15, exS.eq_17, exS.eq_18, exS.eq_19, exS.eq_20, exS.eq_21, xs_for, evE.eq_1, evE.eq_2, evE.eq_3, evE.eq_4, evE.eq_5, evE.eq_6, evE.eq_7, evE.eq_8, evE.eq_9, evE.eq_10, evE.eq_11, evE.eq_12, evE.eq_13, evE.eq_14, evE.eq_15, evE.eq_16, evE.eq_17, evE.eq_18, evE.eq_19, evE.eq_20, evE.eq_21, evE.eq_22, evE.eq_23, evE.eq_24, evE.eq_26, xe_comp, evEs, evFs, fmtD, evEo, evTo, evT, evIt, getVar, bT_name, bT_tup, bT_lst, bindTs, Res.bind_ok, Res.bind_exc, Res.bind_stuck, Res.st_ok, Res.st_exc, SR.seq_nx, SR.seq_ret, SR.seq_exc, outF_ret, outF_nx, outI_nx, b2_add, b2_sub, cm_lt, cm_le, cm_gt, cm_ge, cm_eqi, cm_nei, cm_eqb, cm_neb, tr_bl, tr_int, ng_int, noExc, getSelf, getExn, E.isVar, bl_len, bl_absI, bl_maxI, bl_minI, bl_intI, bl_intB, bl_boolB, bl_list, bl_tuple, evLen, items, nb_non, nb_bl, nb_int, nb_str, nb_tup, nb_lst, nb_ins, nb_obj, nb_bor, lim, isNon, ty_non, ty_bl, ty_int, ty_str, ty_tup, ty_lst, ty_ins, isTy, setAtt, cl_ins, dcall, dcallF, dcallL, fldOk, putN, selfOut, fldsOf, lev_T, lev_hot, lev_heat, lev_call, lev_low, lev_make, lev_hcall, lev_hlow, lev_hmake, Option.bind, List.any, List.all, List.set, ite_true, ite_false, LINE, tcls0, c0, tcls1, c1, tcls2, c2, mth2_16, mth2_25, mth2_0, mth2_1, mth2_2, mth2_4, mth2_5, mth2_6, mth2_7, mth2_8, mth2_9, mth2_10, mth2_11, mth2_12, mth2_13, at2_20, at2_21, at2_23, at2_22, m1, r1, r2, r3, nb_R]
theorem tst10 : evT (lev Tk false (n + 7)) T27_10 (sg s0 s1 s2 s3 s4 s5 a b c d) μ = .ok false μ := by
  have r1 := isnum_I (n := n + 5) (μ := μ) a
  have r2 := isnum_R (n := n + 5) (μ := μ) (Rat.divInt a b)
  simp [T27_10, exSs, exS.eq_1, exS.eq_2, exS.eq_3, exS.eq_4, exS.eq_5, exS.eq_6, exS.eq_7, exS.eq_8, exS.eq_9, exS.eq_10, exS.eq_11, exS.eq_12, exS.eq_13, exS.eq_14, exS.eq_15, exS.eq_17, exS.eq_18, exS.eq_19, exS.eq_20, exS.eq_21, xs_for, evE.eq_1, evE.eq_2, evE.eq_3, evE.eq_4, evE.eq_5, evE.eq_6, evE.eq_7, evE.eq_8, evE.eq_9, evE.eq_10, evE.eq_11, evE.eq_12, evE.eq_13, evE.eq_14, evE.eq_15, evE.eq_16, evE.eq_17, evE.eq_18, evE.eq_19, evE.eq_20, evE.eq_21, evE.eq_22, evE.eq_23, evE.eq_24, evE.eq_26, xe_comp, evEs, evFs, fmtD, evEo, evTo, evT, evIt, getVar, bT_name, bT_tup, bT_lst, bindTs, Res.bind_ok, Res.bind_exc, Res.bind_stuck, Res.st_ok, Res.st_exc, SR.seq_nx, SR.seq_ret, SR.seq_exc, outF_ret, outF_nx, outI_nx, b2_add, b2_sub, cm_lt, cm_le, cm_gt, cm_ge, cm_eqi, cm_nei, cm_eqb, cm_neb, tr_bl, tr_int, ng_int, noExc, getSelf, getExn, E.isVar, bl_len, bl_absI, bl_maxI, bl_minI, bl_intI, bl_intB, bl_boolB, bl_list, bl_tuple, evLen, items, nb_non, nb_bl, nb_int, nb_str, nb_tup, nb_lst, nb_ins, nb_obj, nb_bor, lim, isNon, ty_non, ty_bl, ty_int, ty_str, ty_tup, ty_lst, ty_ins, isTy, setAtt, cl_ins, dcall, dcallF, dcallL, fldOk, putN, selfOut, fldsOf, lev_T, lev_hot, lev_heat, lev_call, lev_low, lev_make, lev_hcall, lev_hlow, lev_hmake, Option.bind, List.any, List.all, List.set, ite_true, ite_false, LINE, tcls0, c0, tcls1, c1, tcls2, c2, mth2_16, mth2_25, mth2_0, mth2_1, mth2_2, mth2_4, mth2_5, mth2_6, mth2_7, mth2_8, mth2_9, mth2_10, mth2_11, mth2_12, mth2_13, at2_20, at2_21, at2_23, at2_22, r1, r2, is_bb, nb_R]
end
end
section
variable {n : Nat} {μ : Mu}
theorem loop_odd {a : Int} {p : Rat} (ha : a.natAbs.log2 < 1920) {x0 x1 x2 x3 x4 x5 x7 x8 x9 x11 : Option L} :
    ∃ y5, forL (turnF (lev Tk false (n + 7)) (.name 5) L27_0) [D.non, .bl true, .str "1", .tup [.int 1], .lst [.int 1]] [x0, x1, x2, x3, x4, x5, some (.val (.int a)), x7, x8, x9, some (.val (R p)), x11] μ = .nx [x0, x1, x2, x3, x4, y5, some (.val (.int a)), x7, x8, x9, some (.val (R p)), x11] μ := by
  refine ⟨some (.val (.lst [.int 1])), ?_⟩
  have st : ∀ {x : D} {xs : List D} {σ σ' : Sg} {r : SR}, turnF (lev Tk false (n + 7)) (.name 5) L27_0 x σ μ = .nx σ' μ → forL (turnF (lev Tk false (n + 7)) (.name 5) L27_0) xs σ' μ = r → forL (turnF (lev Tk false (n + 7)) (.name 5) L27_0) (x :: xs) σ μ = r := by
    intro x xs σ σ' r h g
    rw [← g]
    show (match turnF (lev Tk false (n + 7)) (.name 5) L27_0 x σ μ with
      | .nx σ' m' => forL (turnF (lev Tk false (n + 7)) (.name 5) L27_0) xs σ' m'
      | .brk σ' m' => .nx σ' m'
      | r => r) = _
    rw [h]
  exact st (odd_turn (by simp) ha) (st (odd_turn (by simp) ha) (st (odd_turn (by simp) ha) (st (odd_turn (by simp) ha) (st (odd_turn (by simp) ha) rfl))))
theorem step_to {C : Cl} {s : S} {ss : Ss} {σ σ' : Sg} {m : Mu} {r : SR} (h : exS C s σ μ = .nx σ' m) (g : exSs C ss σ' m = r) : exSs C (.cons s ss) σ μ = r := by
  rw [← g]
  show (exS C s σ μ).seq _ = _
  rw [h]; rfl
theorem ite_to {C : Cl} {t : T} {a ss : Ss} {σ : Sg} {m : Mu} {r : SR} (h : evT C t σ μ = .ok false m) (g : exSs C ss σ m = r) : exSs C (.cons (.ite t a .nil) ss) σ μ = r := by
  refine step_to (σ' := σ) (m := m) ?_ g
  simp [exS, h, exSs]
theorem turn_ok {ns : List Int} {k : Nat} (hk : k < 100) {x2 x3 x4 x5 x6 x7 x8 x9 x10 x11 : Option L} :
    ∃ y2 y3 y4 y5 y6 y7 y8 y9 y10 y11 μ', exSs (lev Tk false (n + 7)) L27_1 [some (.val (.lst (ns.map D.int))), some (.val (.int k)), x2, x3, x4, x5, x6, x7, x8, x9, x10, x11] μ =
      .nx [some (.val (.lst (ns.map D.int))), some (.val (.int k)), y2, y3, y4, y5, y6, y7, y8, y9, y10, y11] μ' := by
  obtain ⟨p0, p1, P, e1⟩ := pool_ok (hot := false) (n := n + 6) (μ := μ) (ns := ns) hk
  have hset : ∀ x y : SO, (μ ++ [x]).set μ.length y = μ ++ [y] := fun x y => by simp
  obtain ⟨v, u0', u1', hv0, hv1, Q, e2⟩ := take_ok (hot := false) (n := n + 6) (μ := μ ++ [SO.lst [.int p0, .int p1]]) (i := μ.length) (m := 3) (by decide) (by simp) P
  rw [hset] at e2
  obtain ⟨s, hs, hs2, hn⟩ : ∃ s : Int, 0 < s ∧ s ≤ 10 ^ 40 ∧ nth [.int 30, .int 1000, .int 10000000000000000000000000000000000000000] v = some (.int s) := by
    obtain rfl | rfl | rfl : v = 0 ∨ v = 1 ∨ v = 2 := by omega
    · exact ⟨30, by decide, by decide, nth_0⟩
    · exact ⟨1000, by decide, by decide, nth_1⟩
    · exact ⟨10000000000000000000000000000000000000000, by decide, by decide, nth_2⟩
  obtain ⟨a, r0, r1, ha0, ha1, Q1, e3⟩ := take_ok (hot := false) (n := n + 6) (μ := μ ++ [SO.lst [.int u0', .int u1']]) (i := μ.length) hs (by simp) Q
  rw [hset] at e3
  obtain ⟨b, t0, t1, hb0, hb1, Q2, e4⟩ := take_ok (hot := false) (n := n + 6) (μ := μ ++ [SO.lst [.int r0, .int r1]]) (i := μ.length) hs (by simp) Q1
  rw [hset] at e4
  obtain ⟨c, u0, u1, hc0, hc1, Q3, e5⟩ := take_ok (hot := false) (n := n + 6) (μ := μ ++ [SO.lst [.int t0, .int t1]]) (i := μ.length) hs (by simp) Q2
  rw [hset] at e5
  obtain ⟨d, w0, w1, hd0, hd1, Q4, e6⟩ := take_ok (hot := false) (n := n + 6) (μ := μ ++ [SO.lst [.int u0, .int u1]]) (i := μ.length) hs (by simp) Q3
  rw [hset] at e6
  have f2 : s.fdiv 2 = s / 2 := Int.fdiv_eq_ediv_of_nonneg _ (by decide)
  have f3 : s.fdiv 3 = s / 3 := Int.fdiv_eq_ediv_of_nonneg _ (by decide)
  have p40 : (10 : Int) ^ 40 = 10000000000000000000000000000000000000000 := by decide
  have p140 : (2 : Nat) ^ 140 = 1393796574908163946345982392040522594123776 := by decide
  have F : Four (a - s / 2) (1 + b) (c - s / 3) (-1 - d) := ⟨by omega, by omega, by omega, by omega, by omega, by omega⟩
  generalize hA : a - s / 2 = A at F
  generalize hB : 1 + b = B at F
  generalize hC : c - s / 3 = C at F
  generalize hD : -1 - d = D' at F
  generalize hM : μ ++ [SO.lst [.int w0, .int w1]] = M at e6
  have m1 : mulOk A 30 = true := mulOk_r (by decide)
  have m2 : mulOk B 30 = true := mulOk_r (by decide)
  have k1 := mk_ok (hot := false) (n := n + 4) (μ := M) (a := A) (b := B) (by have := F.b0; omega)
  have k2 := mk_ok (hot := false) (n := n + 4) (μ := M) (a := C) (b := D') (by have := F.d0; omega)
  have k3 := mk_ok (hot := false) (n := n + 4) (μ := M) (a := A * 30) (b := B * 30) (by have := F.b0; omega)
  have la : A.natAbs.log2 < 1920 := Num.log ⟨F.ha⟩ (by decide)
  obtain ⟨y5, eo⟩ := loop_odd (n := n) (μ := M) (a := A) (p := Rat.divInt A B) la (x0 := some (.val (.lst (ns.map D.int)))) (x1 := some (.val (.int k))) (x2 := some (.val (.obj μ.length))) (x3 := some (.val (.int s))) (x4 := some (.val (R (Rat.divInt (A * 30) (B * 30))))) (x5 := x5) (x7 := some (.val (.int B))) (x8 := some (.val (.int C))) (x9 := some (.val (.int D'))) (x11 := some (.val (R (Rat.divInt C D'))))
  have q0 := tst0 F (n := n) (μ := M) (s0 := some (.val (.lst (ns.map D.int)))) (s1 := some (.val (.int k))) (s2 := some (.val (.obj μ.length))) (s3 := some (.val (.int s))) (s5 := x5)
  have q1 := tst1 F (n := n) (μ := M) (s0 := some (.val (.lst (ns.map D.int)))) (s1 := some (.val (.int k))) (s2 := some (.val (.obj μ.length))) (s3 := some (.val (.int s))) (s4 := some (.val (R (Rat.divInt (A * 30) (B * 30))))) (s5 := x5)
  have q2 := tst2 F (n := n) (μ := M) (s0 := some (.val (.lst (ns.map D.int)))) (s1 := some (.val (.int k))) (s2 := some (.val (.obj μ.length))) (s3 := some (.val (.int s))) (s4 := some (.val (R (Rat.divInt (A * 30) (B * 30))))) (s5 := x5)
  have q3 := tst3 F (n := n) (μ := M) (s0 := some (.val (.lst (ns.map D.int)))) (s1 := some (.val (.int k))) (s2 := some (.val (.obj μ.length))) (s3 := some (.val (.int s))) (s4 := some (.val (R (Rat.divInt (A * 30) (B * 30))))) (s5 := x5)
  have q4 := tst4 F (n := n) (μ := M) (s0 := some (.val (.lst (ns.map D.int)))) (s1 := some (.val (.int k))) (s2 := some (.val (.obj μ.length))) (s3 := some (.val (.int s))) (s4 := some (.val (R (Rat.divInt (A * 30) (B * 30))))) (s5 := x5)
  have q5 := tst5 F (n := n) (μ := M) (s0 := some (.val (.lst (ns.map D.int)))) (s1 := some (.val (.int k))) (s2 := some (.val (.obj μ.length))) (s3 := some (.val (.int s))) (s4 := some (.val (R (Rat.divInt (A * 30) (B * 30))))) (s5 := x5)
  have q6 := tst6 F (n := n) (μ := M) (s0 := some (.val (.lst (ns.map D.int)))) (s1 := some (.val (.int k))) (s2 := some (.val (.obj μ.length))) (s3 := some (.val (.int s))) (s4 := some (.val (R (Rat.divInt (A * 30) (B * 30))))) (s5 := x5)
  have q9 := tst9 F (n := n) (μ := M) (s0 := some (.val (.lst (ns.map D.int)))) (s1 := some (.val (.int k))) (s2 := some (.val (.obj μ.length))) (s3 := some (.val (.int s))) (s4 := some (.val (R (Rat.divInt (A * 30) (B * 30))))) (s5 := y5)
  have q10 := tst10 F (n := n) (μ := M) (s0 := some (.val (.lst (ns.map D.int)))) (s1 := some (.val (.int k))) (s2 := some (.val (.obj μ.length))) (s3 := some (.val (.int s))) (s4 := some (.val (R (Rat.divInt (A * 30) (B * 30))))) (s5 := y5)
  simp only [sg] at q0 q1 q2 q3 q4 q5 q6 q9 q10
  refine ⟨some (.val (.obj μ.length)), some (.val (.int s)), some (.val (R (Rat.divInt (A * 30) (B * 30)))), y5, some (.val (.int A)), some (.val (.int B)), some (.val (.int C)), some (.val (.int D')), some (.val (R (Rat.divInt A B))), some (.val (R (Rat.divInt C D'))), M, ?_⟩
  unfold L27_1
  refine step_to (σ' := [some (.val (.lst (ns.map D.int))), some (.val (.int k)), some (.val (.obj μ.length)), x3, x4, x5, x6, x7, x8, x9, x10, x11]) (m := μ ++ [SO.lst [.int p0, .int p1]]) (by simp [exSs, exS.eq_1, exS.eq_2, exS.eq_3, exS.eq_4, exS.eq_5, exS.eq_6, exS.eq_7, exS.eq_8, exS.eq_9, exS.eq_10, exS.eq_11, exS.eq_12, exS.eq_13, exS.eq_14, exS.eq_15, exS.eq_17, exS.eq_18, exS.eq_19, exS.eq_20, exS.eq_21, xs_for, evE.eq_1, evE.eq_2, evE.eq_3, evE.eq_4, evE.eq_5, evE.eq_6, evE.eq_7, evE.eq_8, evE.eq_9, evE.eq_10, evE.eq_11, evE.eq_12, evE.eq_13, evE.eq_14, evE.eq_15, evE.eq_16, evE.eq_17, evE.eq_18, evE.eq_19, evE.eq_20, evE.eq_21, evE.eq_22, evE.eq_23, evE.eq_24, evE.eq_26, xe_comp, evEs, evFs, fmtD, evEo, evTo, evT, evIt, getVar, bT_name, bT_tup, bT_lst, bindTs, Res.bind_ok, Res.bind_exc, Res.bind_stuck, Res.st_ok, Res.st_exc, SR.seq_nx, SR.seq_ret, SR.seq_exc, outF_ret, outF_nx, outI_nx, b2_add, b2_sub, cm_lt, cm_le, cm_gt, cm_ge, cm_eqi, cm_nei, cm_eqb, cm_neb, tr_bl, tr_int, ng_int, noExc, getSelf, getExn, E.isVar, bl_len, bl_absI, bl_maxI, bl_minI, bl_intI, bl_intB, bl_boolB, bl_list, bl_tuple, evLen, items, nb_non, nb_bl, nb_int, nb_str, nb_tup, nb_lst, nb_ins, nb_obj, nb_bor, lim, isNon, ty_non, ty_bl, ty_int, ty_str, ty_tup, ty_lst, ty_ins, isTy, setAtt, cl_ins, dcall, dcallF, dcallL, fldOk, putN, selfOut, fldsOf, lev_T, lev_hot, lev_heat, lev_call, lev_low, lev_make, lev_hcall, lev_hlow, lev_hmake, Option.bind, List.any, List.all, List.set, ite_true, ite_false, LINE, tcls0, c0, tcls1, c1, tcls2, c2, mth2_16, mth2_25, mth2_0, mth2_1, mth2_2, mth2_4, mth2_5, mth2_6, mth2_7, mth2_8, mth2_9, mth2_10, mth2_11, mth2_12, mth2_13, at2_20, at2_21, at2_23, at2_22, e1]) ?_
  refine step_to (σ' := [some (.val (.lst (ns.map D.int))), some (.val (.int k)), some (.val (.obj μ.length)), some (.val (.int s)), x4, x5, x6, x7, x8, x9, x10, x11]) (m := μ ++ [SO.lst [.int u0', .int u1']]) (by simp [exSs, exS.eq_1, exS.eq_2, exS.eq_3, exS.eq_4, exS.eq_5, exS.eq_6, exS.eq_7, exS.eq_8, exS.eq_9, exS.eq_10, exS.eq_11, exS.eq_12, exS.eq_13, exS.eq_14, exS.eq_15, exS.eq_17, exS.eq_18, exS.eq_19, exS.eq_20, exS.eq_21, xs_for, evE.eq_1, evE.eq_2, evE.eq_3, evE.eq_4, evE.eq_5, evE.eq_6, evE.eq_7, evE.eq_8, evE.eq_9, evE.eq_10, evE.eq_11, evE.eq_12, evE.eq_13, evE.eq_14, evE.eq_15, evE.eq_16, evE.eq_17, evE.eq_18, evE.eq_19, evE.eq_20, evE.eq_21, evE.eq_22, evE.eq_23, evE.eq_24, evE.eq_26, xe_comp, evEs, evFs, fmtD, evEo, evTo, evT, evIt, getVar, bT_name, bT_tup, bT_lst, bindTs, Res.bind_ok, Res.bind_exc, Res.bind_stuck, Res.st_ok, Res.st_exc, SR.seq_nx, SR.seq_ret, SR.seq_exc, outF_ret, outF_nx, outI_nx, b2_add, b2_sub, cm_lt, cm_le, cm_gt, cm_ge, cm_eqi, cm_nei, cm_eqb, cm_neb, tr_bl, tr_int, ng_int, noExc, getSelf, getExn, E.isVar, bl_len, bl_absI, bl_maxI, bl_minI, bl_intI, bl_intB, bl_boolB, bl_list, bl_tuple, evLen, items, nb_non, nb_bl, nb_int, nb_str, nb_tup, nb_lst, nb_ins, nb_obj, nb_bor, lim, isNon, ty_non, ty_bl, ty_int, ty_str, ty_tup, ty_lst, ty_ins, isTy, setAtt, cl_ins, dcall, dcallF, dcallL, fldOk, putN, selfOut, fldsOf, lev_T, lev_hot, lev_heat, lev_call, lev_low, lev_make, lev_hcall, lev_hlow, lev_hmake, Option.bind, List.any, List.all, List.set, ite_true, ite_false, LINE, tcls0, c0, tcls1, c1, tcls2, c2, mth2_16, mth2_25, mth2_0, mth2_1, mth2_2, mth2_4, mth2_5, mth2_6, mth2_7, mth2_8, mth2_9, mth2_10, mth2_11, mth2_12, mth2_13, at2_20, at2_21, at2_23, at2_22, e2, b2_pow, getIx, hn]) ?_
  refine step_to (σ' := [some (.val (.lst (ns.map D.int))), some (.val (.int k)), some (.val (.obj μ.length)), some (.val (.int s)), x4, x5, some (.val (.int A)), some (.val (.int B)), x8, x9, x10, x11]) (m := μ ++ [SO.lst [.int t0, .int t1]]) (by simp [exSs, exS.eq_1, exS.eq_2, exS.eq_3, exS.eq_4, exS.eq_5, exS.eq_6, exS.eq_7, exS.eq_8, exS.eq_9, exS.eq_10, exS.eq_11, exS.eq_12, exS.eq_13, exS.eq_14, exS.eq_15, exS.eq_17, exS.eq_18, exS.eq_19, exS.eq_20, exS.eq_21, xs_for, evE.eq_1, evE.eq_2, evE.eq_3, evE.eq_4, evE.eq_5, evE.eq_6, evE.eq_7, evE.eq_8, evE.eq_9, evE.eq_10, evE.eq_11, evE.eq_12, evE.eq_13, evE.eq_14, evE.eq_15, evE.eq_16, evE.eq_17, evE.eq_18, evE.eq_19, evE.eq_20, evE.eq_21, evE.eq_22, evE.eq_23, evE.eq_24, evE.eq_26, xe_comp, evEs, evFs, fmtD, evEo, evTo, evT, evIt, getVar, bT_name, bT_tup, bT_lst, bindTs, Res.bind_ok, Res.bind_exc, Res.bind_stuck, Res.st_ok, Res.st_exc, SR.seq_nx, SR.seq_ret, SR.seq_exc, outF_ret, outF_nx, outI_nx, b2_add, b2_sub, cm_lt, cm_le, cm_gt, cm_ge, cm_eqi, cm_nei, cm_eqb, cm_neb, tr_bl, tr_int, ng_int, noExc, getSelf, getExn, E.isVar, bl_len, bl_absI, bl_maxI, bl_minI, bl_intI, bl_intB, bl_boolB, bl_list, bl_tuple, evLen, items, nb_non, nb_bl, nb_int, nb_str, nb_tup, nb_lst, nb_ins, nb_obj, nb_bor, lim, isNon, ty_non, ty_bl, ty_int, ty_str, ty_tup, ty_lst, ty_ins, isTy, setAtt, cl_ins, dcall, dcallF, dcallL, fldOk, putN, selfOut, fldsOf, lev_T, lev_hot, lev_heat, lev_call, lev_low, lev_make, lev_hcall, lev_hlow, lev_hmake, Option.bind, List.any, List.all, List.set, ite_true, ite_false, LINE, tcls0, c0, tcls1, c1, tcls2, c2, mth2_16, mth2_25, mth2_0, mth2_1, mth2_2, mth2_4, mth2_5, mth2_6, mth2_7, mth2_8, mth2_9, mth2_10, mth2_11, mth2_12, mth2_13, at2_20, at2_21, at2_23, at2_22, e3, e4, b2_div, f2, hA, hB]) ?_
  refine step_to (σ' := [some (.val (.lst (ns.map D.int))), some (.val (.int k)), some (.val (.obj μ.length)), some (.val (.int s)), x4, x5, some (.val (.int A)), some (.val (.int B)), some (.val (.int C)), some (.val (.int D')), x10, x11]) (m := M) (by simp [exSs, exS.eq_1, exS.eq_2, exS.eq_3, exS.eq_4, exS.eq_5, exS.eq_6, exS.eq_7, exS.eq_8, exS.eq_9, exS.eq_10, exS.eq_11, exS.eq_12, exS.eq_13, exS.eq_14, exS.eq_15, exS.eq_17, exS.eq_18, exS.eq_19, exS.eq_20, exS.eq_21, xs_for, evE.eq_1, evE.eq_2, evE.eq_3, evE.eq_4, evE.eq_5, evE.eq_6, evE.eq_7, evE.eq_8, evE.eq_9, evE.eq_10, evE.eq_11, evE.eq_12, evE.eq_13, evE.eq_14, evE.eq_15, evE.eq_16, evE.eq_17, evE.eq_18, evE.eq_19, evE.eq_20, evE.eq_21, evE.eq_22, evE.eq_23, evE.eq_24, evE.eq_26, xe_comp, evEs, evFs, fmtD, evEo, evTo, evT, evIt, getVar, bT_name, bT_tup, bT_lst, bindTs, Res.bind_ok, Res.bind_exc, Res.bind_stuck, Res.st_ok, Res.st_exc, SR.seq_nx, SR.seq_ret, SR.seq_exc, outF_ret, outF_nx, outI_nx, b2_add, b2_sub, cm_lt, cm_le, cm_gt, cm_ge, cm_eqi, cm_nei, cm_eqb, cm_neb, tr_bl, tr_int, ng_int, noExc, getSelf, getExn, E.isVar, bl_len, bl_absI, bl_maxI, bl_minI, bl_intI, bl_intB, bl_boolB, bl_list, bl_tuple, evLen, items, nb_non, nb_bl, nb_int, nb_str, nb_tup, nb_lst, nb_ins, nb_obj, nb_bor, lim, isNon, ty_non, ty_bl, ty_int, ty_str, ty_tup, ty_lst, ty_ins, isTy, setAtt, cl_ins, dcall, dcallF, dcallL, fldOk, putN, selfOut, fldsOf, lev_T, lev_hot, lev_heat, lev_call, lev_low, lev_make, lev_hcall, lev_hlow, lev_hmake, Option.bind, List.any, List.all, List.set, ite_true, ite_false, LINE, tcls0, c0, tcls1, c1, tcls2, c2, mth2_16, mth2_25, mth2_0, mth2_1, mth2_2, mth2_4, mth2_5, mth2_6, mth2_7, mth2_8, mth2_9, mth2_10, mth2_11, mth2_12, mth2_13, at2_20, at2_21, at2_23, at2_22, e5, e6, b2_div, f3, hC, hD]) ?_
  refine step_to (σ' := [some (.val (.lst (ns.map D.int))), some (.val (.int k)), some (.val (.obj μ.length)), some (.val (.int s)), x4, x5, some (.val (.int A)), some (.val (.int B)), some (.val (.int C)), some (.val (.int D')), some (.val (R (Rat.divInt A B))), some (.val (R (Rat.divInt C D')))]) (m := M) (by simp [exSs, exS.eq_1, exS.eq_2, exS.eq_3, exS.eq_4, exS.eq_5, exS.eq_6, exS.eq_7, exS.eq_8, exS.eq_9, exS.eq_10, exS.eq_11, exS.eq_12, exS.eq_13, exS.eq_14, exS.eq_15, exS.eq_17, exS.eq_18, exS.eq_19, exS.eq_20, exS.eq_21, xs_for, evE.eq_1, evE.eq_2, evE.eq_3, evE.eq_4, evE.eq_5, evE.eq_6, evE.eq_7, evE.eq_8, evE.eq_9, evE.eq_10, evE.eq_11, evE.eq_12, evE.eq_13, evE.eq_14, evE.eq_15, evE.eq_16, evE.eq_17, evE.eq_18, evE.eq_19, evE.eq_20, evE.eq_21, evE.eq_22, evE.eq_23, evE.eq_24, evE.eq_26, xe_comp, evEs, evFs, fmtD, evEo, evTo, evT, evIt, getVar, bT_name, bT_tup, bT_lst, bindTs, Res.bind_ok, Res.bind_exc, Res.bind_stuck, Res.st_ok, Res.st_exc, SR.seq_nx, SR.seq_ret, SR.seq_exc, outF_ret, outF_nx, outI_nx, b2_add, b2_sub, cm_lt, cm_le, cm_gt, cm_ge, cm_eqi, cm_nei, cm_eqb, cm_neb, tr_bl, tr_int, ng_int, noExc, getSelf, getExn, E.isVar, bl_len, bl_absI, bl_maxI, bl_minI, bl_intI, bl_intB, bl_boolB, bl_list, bl_tuple, evLen, items, nb_non, nb_bl, nb_int, nb_str, nb_tup, nb_lst, nb_ins, nb_obj, nb_bor, lim, isNon, ty_non, ty_bl, ty_int, ty_str, ty_tup, ty_lst, ty_ins, isTy, setAtt, cl_ins, dcall, dcallF, dcallL, fldOk, putN, selfOut, fldsOf, lev_T, lev_hot, lev_heat, lev_call, lev_low, lev_make, lev_hcall, lev_hlow, lev_hmake, Option.bind, List.any, List.all, List.set, ite_true, ite_false, LINE, tcls0, c0, tcls1, c1, tcls2, c2, mth2_16, mth2_25, mth2_0, mth2_1, mth2_2, mth2_4, mth2_5, mth2_6, mth2_7, mth2_8, mth2_9, mth2_10, mth2_11, mth2_12, mth2_13, at2_20, at2_21, at2_23, at2_22, k1, k2, nb_R]) ?_
  refine step_to (σ' := [some (.val (.lst (ns.map D.int))), some (.val (.int k)), some (.val (.obj μ.length)), some (.val (.int s)), some (.val (R (Rat.divInt (A * 30) (B * 30)))), x5, some (.val (.int A)), some (.val (.int B)), some (.val (.int C)), some (.val (.int D')), some (.val (R (Rat.divInt A B))), some (.val (R (Rat.divInt C D')))]) (m := M) (by simp [exSs, exS.eq_1, exS.eq_2, exS.eq_3, exS.eq_4, exS.eq_5, exS.eq_6, exS.eq_7, exS.eq_8, exS.eq_9, exS.eq_10, exS.eq_11, exS.eq_12, exS.eq_13, exS.eq_14, exS.eq_15, exS.eq_17, exS.eq_18, exS.eq_19, exS.eq_20, exS.eq_21, xs_for, evE.eq_1, evE.eq_2, evE.eq_3, evE.eq_4, evE.eq_5, evE.eq_6, evE.eq_7, evE.eq_8, evE.eq_9, evE.eq_10, evE.eq_11, evE.eq_12, evE.eq_13, evE.eq_14, evE.eq_15, evE.eq_16, evE.eq_17, evE.eq_18, evE.eq_19, evE.eq_20, evE.eq_21, evE.eq_22, evE.eq_23, evE.eq_24, evE.eq_26, xe_comp, evEs, evFs, fmtD, evEo, evTo, evT, evIt, getVar, bT_name, bT_tup, bT_lst, bindTs, Res.bind_ok, Res.bind_exc, Res.bind_stuck, Res.st_ok, Res.st_exc, SR.seq_nx, SR.seq_ret, SR.seq_exc, outF_ret, outF_nx, outI_nx, b2_add, b2_sub, cm_lt, cm_le, cm_gt, cm_ge, cm_eqi, cm_nei, cm_eqb, cm_neb, tr_bl, tr_int, ng_int, noExc, getSelf, getExn, E.isVar, bl_len, bl_absI, bl_maxI, bl_minI, bl_intI, bl_intB, bl_boolB, bl_list, bl_tuple, evLen, items, nb_non, nb_bl, nb_int, nb_str, nb_tup, nb_lst, nb_ins, nb_obj, nb_bor, lim, isNon, ty_non, ty_bl, ty_int, ty_str, ty_tup, ty_lst, ty_ins, isTy, setAtt, cl_ins, dcall, dcallF, dcallL, fldOk, putN, selfOut, fldsOf, lev_T, lev_hot, lev_heat, lev_call, lev_low, lev_make, lev_hcall, lev_hlow, lev_hmake, Option.bind, List.any, List.all, List.set, ite_true, ite_false, LINE, tcls0, c0, tcls1, c1, tcls2, c2, mth2_16, mth2_25, mth2_0, mth2_1, mth2_2, mth2_4, mth2_5, mth2_6, mth2_7, mth2_8, mth2_9, mth2_10, mth2_11, mth2_12, mth2_13, at2_20, at2_21, at2_23, at2_22, b2_mul m1, b2_mul m2, k3, nb_R]) ?_
  refine ite_to q0 (ite_to q1 (ite_to q2 (ite_to q3 (ite_to q4 (ite_to q5 (ite_to q6 ?_))))))
  refine step_to (σ' := _) (m := M) ?_ (ite_to q9 (ite_to q10 rfl))
  simp only [xs_for, evIt, evE.eq_12]
  simp [exSs, exS.eq_1, exS.eq_2, exS.eq_3, exS.eq_4, exS.eq_5, exS.eq_6, exS.eq_7, exS.eq_8, exS.eq_9, exS.eq_10, exS.eq_11, exS.eq_12, exS.eq_13, exS.eq_14, exS.eq_15, exS.eq_17, exS.eq_18, exS.eq_19, exS.eq_20, exS.eq_21, xs_for, evE.eq_1, evE.eq_2, evE.eq_3, evE.eq_4, evE.eq_5, evE.eq_6, evE.eq_7, evE.eq_8, evE.eq_9, evE.eq_10, evE.eq_11, evE.eq_12, evE.eq_13, evE.eq_14, evE.eq_15, evE.eq_16, evE.eq_17, evE.eq_18, evE.eq_19, evE.eq_20, evE.eq_21, evE.eq_22, evE.eq_23, evE.eq_24, evE.eq_26, xe_comp, evEs, evFs, fmtD, evEo, evTo, evT, evIt, getVar, bT_name, bT_tup, bT_lst, bindTs, Res.bind_ok, Res.bind_exc, Res.bind_stuck, Res.st_ok, Res.st_exc, SR.seq_nx, SR.seq_ret, SR.seq_exc, outF_ret, outF_nx, outI_nx, b2_add, b2_sub, cm_lt, cm_le, cm_gt, cm_ge, cm_eqi, cm_nei, cm_eqb, cm_neb, tr_bl, tr_int, ng_int, noExc, getSelf, getExn, E.isVar, bl_len, bl_absI, bl_maxI, bl_minI, bl_intI, bl_intB, bl_boolB, bl_list, bl_tuple, evLen, items, nb_non, nb_bl, nb_int, nb_str, nb_tup, nb_lst, nb_ins, nb_obj, nb_bor, lim, isNon, ty_non, ty_bl, ty_int, ty_str, ty_tup, ty_lst, ty_ins, isTy, setAtt, cl_ins, dcall, dcallF, dcallL, fldOk, putN, selfOut, fldsOf, lev_T, lev_hot, lev_heat, lev_call, lev_low, lev_make, lev_hcall, lev_hlow, lev_hmake, Option.bind, List.any, List.all, List.set, ite_true, ite_false, LINE, tcls0, c0, tcls1, c1, tcls2, c2, mth2_16, mth2_25, mth2_0, mth2_1, mth2_2, mth2_4, mth2_5, mth2_6, mth2_7, mth2_8, mth2_9, mth2_10, mth2_11, mth2_12, mth2_13, at2_20, at2_21, at2_23, at2_22, walk, eo]
end
def lawL : Nat := 12
theorem law_true : LawTrue Tk lawL 27 63 := by
  intro ns hl hb
  rw [go27_1]
  obtain ⟨r, hr, hr0, hr1⟩ : ∃ r : Int, (if 1 < (if (ns.length : Int) < 10 then (ns.length : Int) else 10) then (if (ns.length : Int) < 10 then (ns.length : Int) else 10) else 1) = r ∧ 0 ≤ r ∧ r < 100 := by
    refine ⟨_, rfl, ?_, ?_⟩ <;> (split <;> split <;> omega)
  obtain ⟨σ', μ', e, y1, y2, y3, y4, y5, y6, y7, y8, y9, y10, y11, rfl⟩ := forL_inv (turn := turnF (lev Tk false 12) (.name 1) L27_1)
    (fun σ _ => ∃ y1 y2 y3 y4 y5 y6 y7 y8 y9 y10 y11, σ = [some (.val (.lst (ns.map D.int))), y1, y2, y3, y4, y5, y6, y7, y8, y9, y10, y11]) (rngD r)
    [some (.val (.lst (ns.map D.int))), none, none, none, none, none, none, none, none, none, none, none] []
    (by
      rintro x hx σ m ⟨y1, y2, y3, y4, y5, y6, y7, y8, y9, y10, y11, rfl⟩
      unfold rngD at hx
      obtain ⟨k, hk, rfl⟩ := List.mem_map.mp hx
      have hk : k < 100 := by
        have := List.mem_range.mp hk
        omega
      obtain ⟨z2, z3, z4, z5, z6, z7, z8, z9, z10, z11, m', e⟩ := turn_ok (n := 5) (μ := m) (ns := ns) hk (x2 := y2) (x3 := y3) (x4 := y4) (x5 := y5) (x6 := y6) (x7 := y7) (x8 := y8) (x9 := y9) (x10 := y10) (x11 := y11)
      exact ⟨_, m', e, _, _, _, _, _, _, _, _, _, _, _, rfl⟩) ⟨_, _, _, _, _, _, _, _, _, _, _, rfl⟩
  refine ⟨μ', ?_⟩
  have l5 : lev Tk false lawL = lev Tk false 12 := rfl
  have hl1 : r < 4611686018427387904 := by omega
  have hl2 : -4611686018427387904 ≤ r := by omega
  simp [b27, exSs, exS.eq_1, exS.eq_2, exS.eq_3, exS.eq_4, exS.eq_5, exS.eq_6, exS.eq_7, exS.eq_8, exS.eq_9, exS.eq_10, exS.eq_11, exS.eq_12, exS.eq_13, exS.eq_14, exS.eq_15, exS.eq_17, exS.eq_18, exS.eq_19, exS.eq_20, exS.eq_21, xs_for, evE.eq_1, evE.eq_2, evE.eq_3, evE.eq_4, evE.eq_5, evE.eq_6, evE.eq_7, evE.eq_8, evE.eq_9, evE.eq_10, evE.eq_11, evE.eq_12, evE.eq_13, evE.eq_14, evE.eq_15, evE.eq_16, evE.eq_17, evE.eq_18, evE.eq_19, evE.eq_20, evE.eq_21, evE.eq_22, evE.eq_23, evE.eq_24, evE.eq_26, xe_comp, evEs, evFs, fmtD, evEo, evTo, evT, evIt, getVar, bT_name, bT_tup, bT_lst, bindTs, Res.bind_ok, Res.bind_exc, Res.bind_stuck, Res.st_ok, Res.st_exc, SR.seq_nx, SR.seq_ret, SR.seq_exc, outF_ret, outF_nx, outI_nx, b2_add, b2_sub, cm_lt, cm_le, cm_gt, cm_ge, cm_eqi, cm_nei, cm_eqb, cm_neb, tr_bl, tr_int, ng_int, noExc, getSelf, getExn, E.isVar, bl_len, bl_absI, bl_maxI, bl_minI, bl_intI, bl_intB, bl_boolB, bl_list, bl_tuple, evLen, items, nb_non, nb_bl, nb_int, nb_str, nb_tup, nb_lst, nb_ins, nb_obj, nb_bor, lim, isNon, ty_non, ty_bl, ty_int, ty_str, ty_tup, ty_lst, ty_ins, isTy, setAtt, cl_ins, dcall, dcallF, dcallL, fldOk, putN, selfOut, fldsOf, lev_T, lev_hot, lev_heat, lev_call, lev_low, lev_make, lev_hcall, lev_hlow, lev_hmake, Option.bind, List.any, List.all, List.set, ite_true, ite_false, LINE, tcls0, c0, tcls1, c1, tcls2, c2, mth2_16, mth2_25, mth2_0, mth2_1, mth2_2, mth2_4, mth2_5, mth2_6, mth2_7, mth2_8, mth2_9, mth2_10, mth2_11, mth2_12, mth2_13, at2_20, at2_21, at2_23, at2_22, l5, hr, hl1, hl2, e]
end Ev

set_option maxRecDepth 100000
namespace Ev
open PySem
set_option maxHeartbeats 0
def loose : List Str := ["SpringError", "InvalidNumber", "is_integer", "common_divisor", "Ratio", "is_number", "ratio", "_law_pool", "_law_take", "_law_divisor", "_law_right", "_law_refused"]
theorem hd_run (w : World) : HandSHeadRun.RunEq (PySem.W.OpenLaw.row PySem.Challenge.rw_springrows_k01_sums_and_products_of_rati) (PySem.W.view (PySem.W.OpenLaw.row PySem.Challenge.rw_springrows_k01_sums_and_products_of_rati).prog [15]) (hookT Tk 7 80) (obT Tk 7 80) 4000 loose w := by
  intro os
  kernel_rfl
end Ev

set_option maxRecDepth 100000
namespace Ev
open PySem
end Ev
open PySem PySem.W PySem.Calls PyProof.Rows
set_option maxHeartbeats 0
theorem PySem.Challenge.cw_springrows_k01_sums_and_products_of_rati_holds : PySem.Challenge.rw_springrows_k01_sums_and_products_of_rati.Holds := by
  w_on; o_law
  refine HandSHeadRun.head_any (r := OpenLaw.row PySem.Challenge.rw_springrows_k01_sums_and_products_of_rati) (q := view (OpenLaw.row PySem.Challenge.rw_springrows_k01_sums_and_products_of_rati).prog [15]) (H := Ev.hookT Ev.Tk 7 80) (ob := Ev.obT Ev.Tk 7 80) (M := 4000) (loose := Ev.loose) (d := HandSHeadRun.topDef (OpenLaw.row PySem.Challenge.rw_springrows_k01_sums_and_products_of_rati).prog 15) (kwd := []) (Ev.obT_eq _ _ _)
    (by kernel_rfl) (fun s => by kernel_rfl) Ev.hd_run (by kernel_rfl) (by kernel_rfl) (by kernel_rfl) (by rfl) (by first | assumption | decide +kernel) (by decide +kernel) ⟨rfl, rfl, rfl, rfl, rfl, by decide +kernel⟩ ?hw ?hc
  case hw => w_witness2
  case hc => exact Ev.walk_ev (most := 63) (n := Ev.lawL) (fi := 27) (i := Ev.f27) (x := "_law_script") rfl (by decide) (by kernel_rfl) rfl rfl rfl (by kernel_rfl) rfl rfl rfl ⟨by decide, by decide⟩ Ev.law_true
#print axioms PySem.Challenge.cw_springrows_k01_sums_and_products_of_rati_holds

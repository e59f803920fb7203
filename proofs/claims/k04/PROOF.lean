import PyProof.Rows.All
import Wide.All
import OpenK.AllK
import Wide.FinOn
import HandS.List
import KE.KIntText
import PyProof.ReprReads
import PyProof.ReprRoads
import HandS.ForMost
import HandS.Flow
import HandS.IsInst
import HandS.Property
import HandS.Defaults
import HandS.Dict
import HandS.ExcInit
import HandS.ExcCtx
import KE.KExcInit
import KE.KExcIs
import PyProof.ExcBaseAll.ArithmeticError
import PyProof.ExcBaseAll.LookupError
import PyProof.ExcBaseAll.ValueError
import HandS.Exc
import HandS.ClsMeth
import HandS.ExcField
import KE.KOpsOwn
import HandS.OwnEq
import HandS.More
import HandS.Text
import HandS.TryOnly
import HandS.Star
import HandS.Conv
import HandS.TupAny
import HandS.FStr
import HandS.Comp
import HandS.HeadHook1
import HandS.HeadHook3
import KE.KStateDown
import HandS.Head0
import HandS.Head1
import HandS.Head2
import HandS.Hot
import HandS.HotCalls
import PyProof.TupleIter
import KE.KUnpack
import HandS.Style
import PyProof.WalkInts
import PyProof.Conv_bool
import KE.KCallOwn
import PyProof.NeKinds
import PyProof.Rows.EqNone
import PyProof.EqAt
import HandS.ReSub
import PyProof.ReprNest
import PyProof.ConsumeWalk
import HandS.Iter
import HandS.Zip
import KE.GoesMore
import KE.GoesEnum
import KE.KDictZip
import KE.GoesZip
import HandS.Small
import HandS.SetFor
import KE.KSuper
import HandS.Nested
import HandS.NestedHot
import KE.KRevSl
import KE.KWithOwn
import PyProof.DictUpdate
import KE.KUnpackStar
import PyProof.RulesMatch
import PyProof.RulesMatchSeq
import PyProof.Rows.MatchSeqLen
import HandS.Ends
import HandS.EndBits
import HandS.HeadHook2
import PySem.Challenge.RW_springrows_k04_error_classes
set_option Elab.async false
set_option linter.all false
namespace Ev
open PySem
inductive D where
 | non | bl (b:Bool) | int (i:Int) | str (s:Str)
 | tup (xs:List D) | lst (xs:List D)
 | ins (c:Nat) (fs:List D)
 | obj (a:Nat)
 | bor (k:Nat) (xs:List D)
 | opq
inductive L where
 | val (d:D) | own (xs:List D) | self (c:Nat) (fs:List (Nat×D)) | exn (c:Nat) (fs:List (Nat×D))
inductive SO where
 | lst (xs:List D) | ins (c:Nat) (fs:List (Nat×D)) | dct (kvs:List (Str×D)) | exn (c:Nat) (fs:List (Nat×D))
abbrev Mu:=List SO
abbrev Sg:=List (Option L)
inductive B2 where | add | sub | mul | fdiv | mod | pow | bor
inductive Cm where | eq | ne | lt | le | gt | ge | isd | isn | inn | nin | eqL | neL
inductive Kd where | int | str | bool | list | tuple | cls (c:Nat) | verr | arerr | lkerr
inductive Bm where | count | index | join | split | startswith | endswith | get | pop
inductive Bl where | len | abs | max | min | str | repr | int | bool | list | tuple | any | all
mutual
inductive E where
 | var (i:Nat)
 | lit (d:D)
 | glob (x:Str) (d:D)
 | neg (a:E)
 | bin (k:B2) (a b:E)
 | cmp (k:Cm) (a b:E)
 | chain (k k':Cm) (a b c:E)
 | bop (isAnd:Bool) (a b:E)
 | not (a:E)
 | ite (c:T) (a b:E)
 | tup (xs:Es)
 | lst (xs:Es)
 | attr (a:E) (k:Nat)
 | idx (a b:E)
 | sl (a:E) (lo hi:Eo)
 | rev (a:E)
 | call (f:Nat) (xs:Es)
 | make (c:Nat) (xs:Es)
 | meth (a:E) (m:Nat) (xs:Es)
 | blt (k:Bl) (xs:Es)
 | isin (a:E) (tup:Bool) (ks:List Kd)
 | cell (xs:Es)
 | qcall (c m:Nat) (xs:Es)
 | callr (f:Nat) (xs:Es)
 | maker (c:Nat) (xs:Es)
 | methr (a:E) (m:Nat) (ns:List Str) (xs:Es)
 | bmeth (a:E) (m:Bm) (xs:Es)
 | comp (elt:E) (t:Tg) (it:It) (cond:To) (vs:List Nat)
 | fstr (xs:Es)
 | step (a:E) (k:Nat)
 | cat (c k:Nat)
 | dnew
 | cellc (e:E)
 | dmrg (a k v:E)
 | disp (ks:List Str) (xs:Es)
 | dget (a k x:E)
 | lrg (e:E)
 | gget (x:Str) (kvs:List (Str×D)) (k:E)
 | gin (neg:Bool) (x:Str) (kvs:List (Str×D)) (k:E)
 | mkx (kw:Bool) (c:Nat) (x:E)
 | isx (a:E) (k:Kd)
inductive Es where | nil | cons (star:Bool) (e:E) (es:Es)
inductive Eo where | none | some (e:E)
inductive To where | none | some (t:T)
inductive T where | e (a:E) | not (t:T) | bop (isAnd:Bool) (t u:T) | ite (c t u:T)
inductive Tg where | name (i:Nat) | tup (ts:Tgs)
inductive Tgs where | nil | cons (t:Tg) (ts:Tgs)
inductive It where
 | seq (a:E) | enum (a:E) | zip2 (a b:E) | zip3 (a b c:E) | rng (a:E) | ezip2 (a b:E) | chr (a:E) | echr (a:E) | zips (a b:E) | rng2 (a b:E) | rng3 (a b c:E)
end
mutual
inductive S where
 | asg (t:Tg) (e:E)
 | par (ts:Tgs) (es:Es)
 | own (i:Nat) (es:Es)
 | ownc (i:Nat) (e:E)
 | owna (i:Nat) (a b:E)
 | app (i:Nat) (e:E)
 | ext (i:Nat) (e:E)
 | frz (i:Nat)
 | setf (a:E) (k:Nat) (e:E)
 | seti (a b e:E)
 | aug (i:Nat) (k:B2) (e:E)
 | exp (e:E)
 | sup (m:Nat) (xs:Es)
 | ret (e:E)
 | retn
 | ite (c:T) (a b:Ss)
 | for_ (t:Tg) (it:It) (b:Ss)
 | while_ (c:T) (b:Ss)
 | brk
 | pass
 | raise (c:Nat) (xs:Es)
 | try_ (b:Ss) (hs:Hs)
 | cel (i:Nat)
 | with_ (c:Nat) (e:E) (i:Nat) (b:Ss)
 | paro (i j:Nat) (e:E)
 | stas (i j:Nat) (e:E)
 | mtch (e:E) (cs:Ss)
 | mcs (key:Str) (ns:List Nat) (b:Ss)
 | mdf (b:Ss)
inductive Ss where | nil | cons (s:S) (ss:Ss)
inductive Hs where | nil | cons (c:Nat) (v:Option Nat) (b:Ss) (hs:Hs)
end
inductive Res (α:Type) where
 | ok (a:α) (m:Mu) | exc (c:Nat) (fs:List (Nat×D)) (m:Mu) | stuck
def Res.bind {α β:Type} (r:Res α) (f:α→Mu→Res β):Res β:=match r with
 | .ok a m=>f a m
 | .exc c fs m => .exc c fs m
 | .stuck => .stuck
@[simp] theorem Res.bind_ok {α β:Type} (a:α) (m:Mu) (f:α→Mu→Res β):(Res.ok a m).bind f=f a m:=rfl
@[simp] theorem Res.bind_exc {α β:Type} (c:Nat) (fs) (m:Mu) (f:α→Mu→Res β):(Res.exc c fs m:Res α).bind f = .exc c fs m:=rfl
@[simp] theorem Res.bind_stuck {α β:Type} (f:α→Mu→Res β):(Res.stuck:Res α).bind f = .stuck:=rfl
inductive SR where
 | nx (s:Sg) (m:Mu) | ret (d:D) (s:Sg) (m:Mu) | brk (s:Sg) (m:Mu) | exc (c:Nat) (fs:List (Nat×D)) (s:Sg) (m:Mu) | stuck
def SR.seq (r:SR) (f:Sg→Mu→SR):SR:=match r with
 | .nx s m=>f s m
 | r=>r
@[simp] theorem SR.seq_nx (s m) (f:Sg→Mu→SR):(SR.nx s m).seq f=f s m:=rfl
@[simp] theorem SR.seq_ret (d s m) (f:Sg→Mu→SR):(SR.ret d s m).seq f = .ret d s m:=rfl
@[simp] theorem SR.seq_brk (s m) (f:Sg→Mu→SR):(SR.brk s m).seq f = .brk s m:=rfl
@[simp] theorem SR.seq_exc (c fs s m) (f:Sg→Mu→SR):(SR.exc c fs s m).seq f = .exc c fs s m:=rfl
@[simp] theorem SR.seq_stuck (f:Sg→Mu→SR):SR.stuck.seq f = .stuck:=rfl
def Res.st {α:Type} (r:Res α) (s:Sg) (f:α→Mu→SR):SR:=match r with
 | .ok a m=>f a m
 | .exc c fs m => .exc c fs s m
 | .stuck => .stuck
@[simp] theorem Res.st_ok {α:Type} (a:α) (m:Mu) (s:Sg) (f:α→Mu→SR):(Res.ok a m).st s f=f a m:=rfl
@[simp] theorem Res.st_exc {α:Type} (c fs) (m:Mu) (s:Sg) (f:α→Mu→SR):(Res.exc c fs m:Res α).st s f = .exc c fs s m:=rfl
@[simp] theorem Res.st_stuck {α:Type} (s:Sg) (f:α→Mu→SR):(Res.stuck:Res α).st s f = .stuck:=rfl
structure ClI where
 name:Str
 flds:List Nat
 isval:Bool
 isexc:Bool
 init:Nat
 meths:List (Nat×Nat)
 props:List (Nat×Nat)
 cons:List (Nat×D)
 mro:List Nat
structure SupI where
 cls:Nat
 fn:Nat
 m:Str
 args:Es
structure FnI where
 loc:Str×Option Str
 names:List Str
 np:Nat
 dfl:List D
 ok:Bool
 body:Ss
 sup:Option SupI
structure Tb where
 ats:List Str
 cls:List ClI
 fns:List FnI
 file:Str
 gls:List (Str×D)
 gds:List (Str×List (Str×D))
structure Cl where
 T:Tb
 call:Nat→List D→Mu→Res D
 low:Nat→List D→Mu→Res D
 make:Nat→List D→Mu→Res D
 hot:Bool
 hcall:Nat→List D→Mu→Res D
 hlow:Nat→List D→Mu→Res D
 hmake:Nat→List D→Mu→Res D
 rep:Bool
 rlow:Nat→List D→Mu→Res D
 hrlow:Nat→List D→Mu→Res D
def Cl.heat (C:Cl):Cl:=⟨C.T,C.hcall,C.hlow,C.hmake,true,C.hcall,C.hlow,C.hmake,C.rep,C.hrlow,C.hrlow⟩
def mthd (T:Tb) (c m:Nat):Option Nat:=(T.cls[c]?).bind fun i=>i.meths.lookup m
def prp (T:Tb) (c k:Nat):Option Nat:=(T.cls[c]?).bind fun i=>i.props.lookup k
def cnst (T:Tb) (c k:Nat):Option D:=(T.cls[c]?).bind fun i=>i.cons.lookup k
def clsOf (μ:Mu):D→Option Nat
 | .ins c _=>some c
 | .obj a=>match μ[a]? with
  | some (.ins c _)=>some c
  | _=>none
 | _=>none
def dcallF (T:Tb) (F:Nat→List D→Mu→Res D) (m:Nat) (x:D) (ys:List D) (μ:Mu):Res D:=match (clsOf μ x).bind fun c=>mthd T c m with
 | some f=>F f (x::ys) μ
 | none => .stuck
def dcall (C:Cl) (m:Nat) (x:D) (ys:List D) (μ:Mu):Res D:=dcallF C.T C.call m x ys μ
def dcallL (C:Cl) (m:Nat) (x:D) (ys:List D) (μ:Mu):Res D:=dcallF C.T C.low m x ys μ
def nbD:D→Bool
 | .bor _ _=>false
 | .opq=>false
 | _=>true
abbrev LINE:Nat:=16777216
def lim (n:Nat):Bool:=decide (n≤LINE)
def ib (i:Int):Nat:=if i=0 then 0 else i.natAbs.log2+1
def MLIM:Nat:=134217728
def mulOk (i j:Int):Bool:=decide (ib i≤64) || decide (ib j≤64) || decide (ib i+ib j≤MLIM)
def flat:D→Bool
 | .non | .bl _ | .int _ | .str _=>true
 | _=>false
def mix:D→D→Bool
 | .bl _,.int _ | .int _,.bl _=>true
 | _,_=>false
def isSubc (T:Tb) (c c':Nat):Bool:=match T.cls[c]? with
 | some i=>i.mro.contains c'
 | none=>false
def eqR (T:Tb) (μ:Mu) (c:Nat):D→Prop
 | .ins c' _=>c'=c
 | .obj a=>∃ c' fs,μ[a]?=some (.ins c' fs)∧isSubc T c' c=false
 | .bor _ _=>False
 | .opq=>False
 | _=>True
def eqK (T:Tb) (μ:Mu):D→Option Nat
 | .non=>some 0
 | .tup _=>some 1
 | .lst _=>some 2
 | .obj a=>match μ[a]? with
  | some (.ins c _)=>if (mthd T c 6).isSome then none else some 3
  | _=>none
 | _=>none
def eqS (T:Tb) (μ:Mu):D→D→Prop
 | .obj a,.obj b=>∀ c fs c' fs',μ[a]?=some (.ins c fs)→μ[b]?=some (.ins c' fs')→c'=c∨isSubc T c' c=false
 | _,_=>True
def eqOk (C:Cl) (μ:Mu):Nat→D→D→Prop
 | 0,_,_=>False
 | k+1,x,y=>match x,y with
  | .tup xs,.tup ys=>∀ (i:Nat) (a b:D),xs[i]?=some a→ys[i]?=some b→eqOk C μ k a b
  | .lst xs,.lst ys=>∀ (i:Nat) (a b:D),xs[i]?=some a→ys[i]?=some b→eqOk C μ k a b
  | .ins c xs,y=>eqR C.T μ c y∧∃ (f:Nat) (r:Bool),mthd C.T c 6=some f∧(r=true↔D.ins c xs=y)∧C.low f [D.ins c xs,y] μ = .ok (.bl r) μ
  | x,.ins c ys=>(eqK C.T μ x).isSome=true∧(∀ o c' fs',x = .obj o→μ[o]?=some (.ins c' fs')→isSubc C.T c c'=false)∧∃ (f:Nat),mthd C.T c 6=some f∧C.low f [D.ins c ys,x] μ = .ok (.bl false) μ
  | .obj a,.obj b=>(a=b∧∃ xs,μ[a]?=some (.lst xs)∧∀ (i:Nat) (d:D),xs[i]?=some d→eqOk C μ k d d)∨(∃ i j,eqK C.T μ (.obj a)=some i∧eqK C.T μ (.obj b)=some j∧(i≠j∨i=3)∧eqS C.T μ (.obj a) (.obj b))
  | x,y=>(flat x=true∧flat y=true∧mix x y=false)∨(∃ i j,eqK C.T μ x=some i∧eqK C.T μ y=some j∧(i≠j∨i=3)∧eqS C.T μ x y)
open Classical in
noncomputable def eqD (C:Cl) (x y:D) (μ:Mu):Res Bool:=if eqOk C μ 7 x y then .ok (decide (x=y)) μ else .stuck
def truth (C:Cl) (d:D) (μ:Mu):Res Bool:=match d with
 | .non => .ok false μ
 | .bl b => .ok b μ
 | .int i => .ok (decide (i≠0)) μ
 | .str t=>if t.length≤LINE then .ok (decide (t.length≠0)) μ else .stuck
 | .tup xs => .ok (!xs.isEmpty) μ
 | .lst xs => .ok (!xs.isEmpty) μ
 | .bor _ xs => .ok (!xs.isEmpty) μ
 | .ins c fs=>(dcall C 11 (.ins c fs) [] μ).bind fun r m=>(match r with
   | .bl b => .ok b m
   | _ => .stuck)
 | .obj _ => .stuck
 | .opq => .stuck
def evNeg (C:Cl) (d:D) (μ:Mu):Res D:=match d with
 | .int i => .ok (.int (-i)) μ
 | .ins c fs=>dcall C 4 (.ins c fs) [] μ
 | _ => .stuck
def B2.m:B2→Nat
 | .add=>0
 | .sub=>1
 | .mul=>2
 | .bor=>3
 | .fdiv=>17
 | .mod=>18
 | .pow=>19
def rep (xs:List D) (n:Nat):List D:=(List.replicate n xs).flatten
def objOk (T:Tb) (μ:Mu) (k:B2) (a b:Nat):Bool:=match μ[a]?,μ[b]? with
 | some (.ins c _),some (.ins c' _)=>(match k with
  | .add | .bor | .mul=>true
  | _=>false)&&(c' == c || !isSubc T c' c)&&(mthd T c' k.m).isSome
 | _,_=>false
def catL (μ:Mu) (a:Nat) (ys:List D):Res D:=match μ[a]? with
 | some (.lst xs)=>if xs.length+ys.length≤LINE then .ok (.lst (xs++ys)) μ else .stuck
 | _ => .stuck
def strRep (x:Str) (n:Nat):Str:=⟨(List.replicate n x.cps.toList).flatten.toArray⟩
def addL2 (x y:D) (μ:Mu):Res D:=match x,y with
 | .lst xs,.lst ys=>if xs.length+ys.length≤LINE then .ok (.lst (xs++ys)) μ else .stuck
 | _,_ => .stuck
def evB2 (C:Cl) (k:B2) (x y:D) (μ:Mu):Res D:=match k,x,y with
 | .add,.int i,.int j => .ok (.int (i+j)) μ
 | .sub,.int i,.int j => .ok (.int (i - j)) μ
 | .mul,.int i,.int j=>if mulOk i j then .ok (.int (i * j)) μ else .stuck
 | .fdiv,.int i,.int j=>if j≠0 then .ok (.int (i.fdiv j)) μ else .stuck
 | .mod,.int i,.int j=>if j≠0 then .ok (.int (i.fmod j)) μ else .stuck
 | .pow,.int i,.int j=>if 0≤j∧j≤1000000∧i.natAbs < 2^64 then .ok (.int (i^j.toNat)) μ else .stuck
 | .add,.str a,.str b=>if a.length+b.length≤LINE then .ok (.str (a++b)) μ else .stuck
 | .add,.lst xs,.lst ys=>if xs.length+ys.length≤LINE then .ok (.lst (xs++ys)) μ else .stuck
 | .add,.tup xs,.tup ys=>if xs.length+ys.length≤LINE then .ok (.tup (xs++ys)) μ else .stuck
 | .mul,.str a,.int n=>if 0≤n∧n≤10000∧a.length * n.toNat≤LINE then .ok (.str (strRep a n.toNat)) μ else .stuck
 | .mul,.lst xs,.int n=>if xs.length * n.toNat≤LINE ∧ -(2^63)≤n∧n < 2^63 then .ok (.lst (rep xs n.toNat)) μ else .stuck
 | k,.ins c xs,.ins c' ys=>if c'=c then dcall C k.m (.ins c xs) [.ins c' ys] μ else .stuck
 | k,.obj a,.obj b=>if objOk C.T μ k a b then dcall C k.m (.obj a) [.obj b] μ else .stuck
 | .mul,.obj a,.int n=>dcall C 2 (.obj a) [.int n] μ
 | .add,.obj a,.lst ys=>catL μ a ys
 | _,_,_ => .stuck
def resB:Res Bool→Res D:=fun r=>r.bind fun b m => .ok (.bl b) m
noncomputable def evIn (C:Cl) (x:D):List D→Mu→Res Bool
 | [],μ => .ok false μ
 | y::ys,μ=>(eqD C y x μ).bind fun b m=>if b then .ok true m else evIn C x ys m
def seqD:D→Option (List D)
 | .lst xs=>some xs
 | .tup xs=>some xs
 | .bor _ xs=>some xs
 | _=>none
def dGet (kvs:List (Str×D)) (k:Str):Option D:=(kvs.find? fun p=>decide (p.1=k)).map (·.2)
def dPut (kvs:List (Str×D)) (k:Str) (v:D):List (Str×D):=if (kvs.any fun p=>decide (p.1=k))=true then kvs.map (fun p=>if p.1=k then (p.1,v) else p) else kvs++[(k,v)]
def dctAt (μ:Mu) (a:Nat):Option (List (Str×D)):=match μ[a]? with
 | some (.dct kvs)=>some kvs
 | _=>none
def sgnIn (s t:Str):Option Bool:=match s.cps.toList with
 | [c]=>some (decide (c∈t.cps.toList))
 | _=>none
def inDct (kvs:List (Str×D)) (x:D) (μ:Mu):Res Bool:=match x with
 | .str s => .ok (dGet kvs s).isSome μ
 | _ => .stuck
def inStr (t:Str) (x:D) (μ:Mu):Res Bool:=match x with
 | .str s=>(match sgnIn s t with
  | some b => .ok b μ
  | none => .stuck)
 | _ => .stuck
noncomputable def evInD (C:Cl) (x y:D) (μ:Mu):Res Bool:=match y with
 | .str t=>inStr t x μ
 | .obj a=>match dctAt μ a with
  | some kvs=>inDct kvs x μ
  | none=>if nbD x then (dcall C 15 (.obj a) [x] μ).bind fun r m=>(match r with
  | .bl b => .ok b m
  | _ => .stuck) else .stuck
 | y=>(match seqD y with
  | some ys=>evIn C x ys μ
  | none => .stuck)
def isNon:D→Bool
 | .non=>true
 | _=>false
def isDct (μ:Mu) (a:Nat):Bool:=match μ[a]? with
 | some (.dct _)=>true
 | some (.exn _ _)=>true
 | _=>false
open Classical in
noncomputable def eqL (C:Cl) (a:Nat) (ys:List D) (μ:Mu):Res Bool:=match μ[a]? with
 | some (.lst xs)=>if eqOk C μ 7 (.lst xs) (.lst ys) then .ok (decide (xs=ys)) μ else .stuck
 | _ => .stuck
noncomputable def evCm (C:Cl) (k:Cm) (x y:D) (μ:Mu):Res D:=match k,x,y with
 | .eq,x,y=>resB (eqD C x y μ)
 | .ne,x,y=>resB ((eqD C x y μ).bind fun b m => .ok (!b) m)
 | .inn,x,y=>resB (evInD C x y μ)
 | .nin,x,y=>resB ((evInD C x y μ).bind fun b m => .ok (!b) m)
 | .isd,x,.non => .ok (.bl (isNon x)) μ
 | .isd,.bl a,.bl b => .ok (.bl (decide (a=b))) μ
 | .isd,.obj a,.obj b=>if isDct μ a || isDct μ b then .stuck else .ok (.bl (decide (a=b))) μ
 | .isn,x,.non => .ok (.bl (!isNon x)) μ
 | .isn,.bl a,.bl b => .ok (.bl (!decide (a=b))) μ
 | .isn,.obj a,.obj b=>if isDct μ a || isDct μ b then .stuck else .ok (.bl (!decide (a=b))) μ
 | .lt,.int i,.int j => .ok (.bl (decide (i < j))) μ
 | .le,.int i,.int j => .ok (.bl (decide (i≤j))) μ
 | .gt,.int i,.int j => .ok (.bl (decide (j < i))) μ
 | .ge,.int i,.int j => .ok (.bl (decide (j≤i))) μ
 | .lt,.ins c xs,.ins c' ys=>if c'=c then dcall C 7 (.ins c xs) [.ins c' ys] μ else .stuck
 | .le,.ins c xs,.ins c' ys=>if c'=c then dcall C 8 (.ins c xs) [.ins c' ys] μ else .stuck
 | .gt,.ins c xs,.ins c' ys=>if c'=c then dcall C 9 (.ins c xs) [.ins c' ys] μ else .stuck
 | .ge,.ins c xs,.ins c' ys=>if c'=c then dcall C 10 (.ins c xs) [.ins c' ys] μ else .stuck
 | .eqL,.obj a,.lst ys=>resB (eqL C a ys μ)
 | .neL,.obj a,.lst ys=>resB ((eqL C a ys μ).bind fun b m => .ok (!b) m)
 | _,_,_ => .stuck
def noExc {α:Type}:Res α→Res α
 | .exc _ _ _ => .stuck
 | r=>r
def fix (T:Tb) (c k:Nat):Option Nat:=(T.cls[c]?).bind fun i=>i.flds.findIdx? (· == k)
def getAt (C:Cl) (d:D) (k:Nat) (μ:Mu):Res D:=match d with
 | .ins c fs=>(match prp C.T c k with
  | some f=>noExc (C.low f [d] μ)
  | none=>(match (fix C.T c k).bind fun j=>fs[j]? with
   | some v => .ok v μ
   | none => .stuck))
 | .obj a=>(match μ[a]? with
  | some (.ins c fs)=>(match prp C.T c k with
   | some f=>noExc (C.low f [d] μ)
   | none=>(match fs.lookup k with
    | some v => .ok v μ
    | none=>(match cnst C.T c k with
     | some v => .ok v μ
     | none => .stuck)))
  | some (.exn _ fs)=>(match fs.lookup k with
   | some v => .ok v μ
   | none => .stuck)
  | _ => .stuck)
 | _ => .stuck
def items (μ:Mu):D→Option (List D)
 | .lst xs=>some xs
 | .tup xs=>some xs
 | .bor _ xs=>some xs
 | .obj a=>(match μ[a]? with
  | some (.lst xs)=>some xs
  | _=>none)
 | _=>none
def walk (brw:Bool):D→Option (List D)
 | .lst xs=>some xs
 | .tup xs=>some xs
 | .bor _ xs=>if brw then some xs else none
 | _=>none
def walkL (brw:Bool):D→Option (List D)
 | .lst xs=>some xs
 | .bor _ xs=>if brw then some xs else none
 | _=>none
def nth (xs:List D) (i:Int):Option D:=L2.atI xs i
def ixDct (x:D) (s:Str) (μ:Mu):Res D:=match x with
 | .obj a=>(match (dctAt μ a).bind fun kvs=>dGet kvs s with
  | some v => .ok v μ
  | none => .stuck)
 | _ => .stuck
def ixStr (x:D) (i:Int) (μ:Mu):Res D:=match x with
 | .str z=>if z.length≤16777216 then (match L2.atI z.cps.toList i with
  | some c => .ok (.str ⟨#[c]⟩) μ
  | none => .stuck) else .stuck
 | _ => .stuck
def getIx (x i:D) (μ:Mu):Res D:=match items μ x,i with
 | some xs,.int i=>(match nth xs i with
  | some v => .ok v μ
  | none => .stuck)
 | none,.str s=>ixDct x s μ
 | none,.int i=>ixStr x i μ
 | _,_ => .stuck
def cut (xs:List D) (lo hi:Option Int):List D:=(xs.drop (HT.sIx xs.length 0 lo)).take (HT.sIx xs.length xs.length hi - HT.sIx xs.length 0 lo)
def cutT (z:Str) (lo hi:Option Int):Str:=⟨((z.cps.toList.drop (HT.sIx z.length 0 lo)).take (HT.sIx z.length z.length hi - HT.sIx z.length 0 lo)).toArray⟩
def getSl (x:D) (lo hi:Option Int):Option D:=match x with
 | .lst xs=>some (.lst (cut xs lo hi))
 | .bor _ xs=>some (.lst (cut xs lo hi))
 | .tup xs=>some (.tup (cut xs lo hi))
 | .str t=>if t.length≤16777216 then some (.str (cutT t lo hi)) else none
 | _=>none
def stepL (k:Nat) (xs:List D):List D:=(List.range ((xs.length+k - 1) / k)).filterMap fun i=>xs[i * k]?
def stepD (k:Nat):D→Option D
 | .lst xs=>some (.lst (stepL k xs))
 | .bor _ xs=>some (.lst (stepL k xs))
 | _=>none
def revD:D→Option D
 | .lst xs=>some (.lst xs.reverse)
 | .bor _ xs=>some (.lst xs.reverse)
 | .tup xs=>some (.tup xs.reverse)
 | _=>none
inductive Ty where | non | bl | int | str | lst | tup | ins (c:Nat) | dct
def tyOf (μ:Mu):D→Option Ty
 | .non=>some .non
 | .bl _=>some .bl
 | .int _=>some .int
 | .str _=>some .str
 | .tup _=>some .tup
 | .lst _=>some .lst
 | .bor _ _=>some .lst
 | .ins c _=>some (.ins c)
 | .obj a=>(match μ[a]? with
  | some (.lst _)=>some .lst
  | some (.ins c _)=>some (.ins c)
  | some (.dct _)=>some .dct
  | some (.exn _ _)=>none
  | none=>none)
 | .opq=>none
def isTy (T:Tb):Ty→Kd→Bool
 | .int,.int=>true
 | .bl,.int=>true
 | .bl,.bool=>true
 | .str,.str=>true
 | .lst,.list=>true
 | .tup,.tuple=>true
 | .ins c,.cls c'=>(match T.cls[c]? with
  | some i=>i.mro.contains c'
  | none=>false)
 | .ins c,.verr=>(match T.cls[c]? with
  | some i=>i.mro.contains 1001
  | none=>false)
 | .ins c,.arerr=>(match T.cls[c]? with
  | some i=>i.mro.contains 1002
  | none=>false)
 | .ins c,.lkerr=>(match T.cls[c]? with
  | some i=>i.mro.contains 1003
  | none=>false)
 | _,_=>false
mutual
def bindT:Tg→D→Sg→Option Sg
 | .name i,d,σ=>if nbD d then some (σ.set i (some (.val d))) else none
 | .tup ts,.tup xs,σ=>bindTs ts xs σ
 | .tup ts,.lst xs,σ=>bindTs ts xs σ
 | _,_,_=>none
def bindTs:Tgs→List D→Sg→Option Sg
 | .nil,[],σ=>some σ
 | .cons t ts,x::xs,σ=>(bindT t x σ).bind fun σ'=>bindTs ts xs σ'
 | _,_,_=>none
end
def wipeD (σ:Sg):List Nat→Sg
 | []=>σ
 | v::vs=>(wipeD σ vs).set v none
def consO:Option D→List D→List D
 | some d,ds=>d::ds
 | none,ds=>ds
def compL (turn:D→Mu→Res (Option D)):List D→Mu→Res (List D)
 | [],μ => .ok [] μ
 | x::xs,μ=>(turn x μ).bind fun r m=>(compL turn xs m).bind fun rs m => .ok (consO r rs) m
def zipD2:List D→List D→List D
 | x::xs,y::ys => .tup [x,y]::zipD2 xs ys
 | _,_=>[]
def zipD3:List D→List D→List D→List D
 | x::xs,y::ys,z::zs => .tup [x,y,z]::zipD3 xs ys zs
 | _,_,_=>[]
def enumD:Nat→List D→List D
 | _,[]=>[]
 | n,x::xs => .tup [.int (n:Int),x]::enumD (n+1) xs
def rngD (n:Int):List D:=(List.range n.toNat).map fun (i:Nat)=>D.int (i:Int)
def rngF (lo c:Int) (n:Nat):List D:=(List.range n).map fun (i:Nat)=>D.int (lo+(i:Int) * c)
def getVar (σ:Sg) (i:Nat) (μ:Mu):Res D:=match σ[i]? with
 | some (some (.val d)) => .ok d μ
 | some (some (.own xs)) => .ok (.bor i xs) μ
 | _ => .stuck
def getSelf (σ:Sg) (i:Nat):Option (List (Nat×D)):=match σ[i]? with
 | some (some (.self _ fs))=>some fs
 | some (some (.exn _ fs))=>some fs
 | _=>none
def getExn (σ:Sg) (i:Nat):Option Nat:=match σ[i]? with
 | some (some (.exn c _))=>some c
 | _=>none
def E.isVar:E→Option Nat
 | .var i=>some i
 | _=>none
def absI (i:Int):Int:=if i < 0 then -i else i
def evLenO (C:Cl) (d:D) (μ:Mu):Res D:=match d with
 | .str s=>if lim s.length then .ok (.int (s.length:Int)) μ else .stuck
 | .obj a=>(dcallL C 14 (.obj a) [] μ).bind fun r m=>(match r with
  | .int i=>if 0≤i∧i < 2^63 then .ok (.int i) m else .stuck
  | _ => .stuck)
 | _ => .stuck
def evLen (C:Cl) (d:D) (μ:Mu):Res D:=match items μ d with
 | some xs => .ok (.int (xs.length:Int)) μ
 | none=>evLenO C d μ
def consP:Option PyData→Option (List PyData)→Option (List PyData)
 | some p,some ps=>some (p::ps)
 | _,_=>none
mutual
def toPy:D→Option PyData
 | .non=>some .none
 | .bl b=>some (.bool b)
 | .int i=>some (.int i)
 | .str s=>some (.str s)
 | .tup xs=>(toPys xs).map .tuple
 | .lst xs=>(toPys xs).map .list
 | _=>none
def toPys:List D→Option (List PyData)
 | []=>some []
 | d::ds=>consP (toPy d) (toPys ds)
end
def showT (p:PyData):Option Str:=if p.showable&&decide (p.shown.length≤LINE)&&decide (p.depth≤50) then some p.shown else none
def reprT (d:D):Option Str:=(toPy d).bind showT
def bools:List D→Option (List Bool)
 | []=>some []
 | .bl b::ds=>(bools ds).map (b :: ·)
 | _=>none
def intsD:List D→Option (List Int)
 | []=>some []
 | .int i::xs=>(intsD xs).map (i :: ·)
 | _=>none
mutual
def dpt:D→Nat
 | .tup xs=>dptL xs+1
 | .lst xs=>dptL xs+1
 | _=>0
def dptL:List D→Nat
 | []=>0
 | d::ds=>max (dpt d) (dptL ds)
end
def consT:Option Str→Option (List Str)→Option (List Str)
 | some t,some ts=>some (t::ts)
 | _,_=>none
mutual
def txtD (F:D→Option Str):D→Option Str
 | .non=>some (PyData.shown .none)
 | .bl b=>some (PyData.shown (.bool b))
 | .int i=>if i.natAbs.log2 < 1920 then some (PyData.shown (.int i)) else none
 | .str s=>some (PyData.shown (.str s))
 | .tup xs=>(txtDs F xs).map tupleText
 | .lst xs=>(txtDs F xs).map listText
 | .ins c fs=>F (.ins c fs)
 | _=>none
def txtDs (F:D→Option Str):List D→Option (List Str)
 | []=>some []
 | d::ds=>consT (txtD F d) (txtDs F ds)
end
open Classical in
noncomputable def reprO (C:Cl) (μ:Mu) (x:D):Option Str:=match dcallF C.T C.rlow 13 x [] μ with
 | .ok (.str t) m=>if m=μ then some t else none
 | _=>none
noncomputable def reprH (C:Cl) (μ:Mu) (d:D):Option Str:=match txtD (reprO C μ) d with
 | some t=>if t.length≤LINE∧dpt d≤6 then some t else none
 | none=>none
noncomputable def reprG (C:Cl) (μ:Mu):D→Option Str
 | .tup xs=>reprH C μ (.tup xs)
 | .lst xs=>reprH C μ (.lst xs)
 | _=>none
noncomputable def reprA (C:Cl) (μ:Mu) (d:D):Option Str:=match reprT d with
 | some t=>some t
 | none=>reprG C μ d
def itemsK (C:Cl) (μ:Mu) (d:D):Option (List D):=match d with
 | .obj a=>(match μ[a]? with
  | some (.dct kvs)=>if C.hot then none else some (kvs.map fun p => .str p.1)
  | _=>items μ (.obj a))
 | d=>items μ d
def intS (t:Str) (μ:Mu):Res D:=match PySem.intText? t with
 | some n=>if t.length≤640 then .ok (.int n) μ else .stuck
 | none => .stuck
noncomputable def evBl (C:Cl) (k:Bl) (xs:List D) (μ:Mu):Res D:=match k,xs with
 | .len,[d]=>evLen C d μ
 | .abs,[.int i] => .ok (.int (absI i)) μ
 | .abs,[.ins c fs]=>dcallL C 5 (.ins c fs) [] μ
 | .max,[.int i,.int j] => .ok (.int (if j > i then j else i)) μ
 | .max,[.lst xs]=>if C.hot then .stuck else (match intsD xs with
  | some (n::ns) => .ok (.int (ns.foldl (fun m j=>if j > m then j else m) n)) μ
  | _ => .stuck)
 | .min,[.int i,.int j] => .ok (.int (if j < i then j else i)) μ
 | .int,[.int i] => .ok (.int i) μ
 | .int,[.bl b] => .ok (.int (if b then 1 else 0)) μ
 | .int,[.str t]=>intS t μ
 | .bool,[.bl b] => .ok (.bl b) μ
 | .bool,[.ins c fs]=>(dcallL C 11 (.ins c fs) [] μ).bind fun r m=>(match r with
  | .bl b => .ok (.bl b) m
  | _ => .stuck)
 | .str,[.int i]=>if i.natAbs.log2 < 1920 then .ok (.str (toString i)) μ else .stuck
 | .str,[.ins c fs]=>(dcallL C 12 (.ins c fs) [] μ).bind fun r m=>(match r with
  | .str t => .ok (.str t) m
  | _ => .stuck)
 | .repr,[.ins c fs]=>(dcallL C 13 (.ins c fs) [] μ).bind fun r m=>(match r with
  | .str t => .ok (.str t) m
  | _ => .stuck)
 | .repr,[.obj a]=>if C.rep then (match μ[a]? with
  | some (.dct []) => .ok (.str "{}") μ
  | some (.lst xs)=>(match reprT (.lst xs) with
   | some t => .ok (.str t) μ
   | none => .stuck)
  | _ => .stuck) else .stuck
 | .repr,[d]=>if C.rep then (match reprA C μ d with
  | some t => .ok (.str t) μ
  | none => .stuck) else .stuck
 | .any,[d]=>(match (seqD d).bind bools with
  | some bs => .ok (.bl (bs.any id)) μ
  | none => .stuck)
 | .all,[d]=>(match (seqD d).bind bools with
  | some bs => .ok (.bl (bs.all id)) μ
  | none => .stuck)
 | .list,[d]=>(match itemsK C μ d with
  | some xs => .ok (.lst xs) μ
  | none => .stuck)
 | .tuple,[d]=>(match items μ d with
  | some xs => .ok (.tup xs) μ
  | none => .stuck)
 | _,_ => .stuck
def fmtD:D→Option Str
 | .str t=>if t.length≤LINE then some t else none
 | .int i=>if i.natAbs.log2 < 1920 then some (toString i) else none
 | _=>none
def feq:D→D→Bool
 | .non,.non=>true
 | .bl a,.bl b=>a == b
 | .bl a,.int b=>(if a then 1 else 0) == b
 | .int a,.bl b=>a == (if b then 1 else 0)
 | .int a,.int b=>a == b
 | .str a,.str b=>a == b
 | _,_=>false
def strsOf:List D→Option (List Str)
 | []=>some []
 | .str t::xs=>(strsOf xs).map (t :: ·)
 | _=>none
def bmOk:Bm→D→Bool
 | .count,.lst _=>true
 | .index,.lst _=>true
 | .startswith,.str _=>true
 | .split,.str _=>true
 | .join,.str _=>true
 | .endswith,.str _=>true
 | _,_=>false
def bmOkM (m:Mu):Bm→D→Bool
 | .pop,.obj a=>(match m[a]? with
  | some (.lst _)=>true
  | _=>false)
 | k,x=>bmOk k x
def evBm (C:Cl) (k:Bm) (x:D) (vs:List D) (μ:Mu):Res D:=match k,x,vs with
 | .count,.lst xs,[v]=>if flat v&&xs.all flat then .ok (.int ((xs.countP fun y=>feq y v:Nat):Int)) μ else .stuck
 | .index,.lst xs,[v]=>if flat v&&xs.all flat then (match xs.findIdx? fun y=>feq y v with
  | some j => .ok (.int (j:Int)) μ
  | none => .stuck) else .stuck
 | .startswith,.str a,[.str b] => .ok (.bl (PySem.Txt.startswith a b)) μ
 | .split,.str a,[.str b]=>if (b.length == 0)=false∧a.length+2≤16777216 then .ok (.lst ((PySem.Txt.split a b).map D.str)) μ else .stuck
 | .join,.str a,[.lst xs]=>(match strsOf xs with
  | some ys=>if (ys.map (·.length)).sum+ys.length * a.length≤16777216 then .ok (.str (PySem.Txt.join a ys)) μ else .stuck
  | none => .stuck)
 | .endswith,.str a,[.str b] => .ok (.bl (PySem.Txt.endswith a b)) μ
 | .pop,.obj a,[.int i]=>(match μ[a]? with
  | some (.lst xs)=>if 0≤i∧i < 2^62 then (match xs[i.toNat]? with
   | some d => .ok d (μ.set a (.lst (xs.eraseIdx i.toNat)))
   | none => .stuck) else .stuck
  | _ => .stuck)
 | _,_,_ => .stuck
def dctOf (μ:Mu):D→Option (List (Str×D))
 | .obj a=>dctAt μ a
 | _=>none
def dAll (kvs:List (Str×D)) (ps:List (Str×D)):List (Str×D):=ps.foldl (fun acc p=>dPut acc p.1 p.2) kvs
def dispR (ks:List Str) (vs:List D) (m:Mu):Res D:=if ks.length=vs.length∧ks.length≤15∧vs.all nbD=true then .ok (.obj m.length) (m++[.dct (dAll [] (ks.zip vs))]) else .stuck
def getOr (d y z:D) (m:Mu):Res D:=match dctOf m d,y with
 | some kvs,.str s=>if nbD z then .ok ((dGet kvs s).getD z) m else .stuck
 | _,_ => .stuck
def lrgR (x:D) (m:Mu):Res D:=match x with
 | .int k=>if -(2^62)≤k∧k≤16777216 then .ok (.lst (rngD k)) m else .stuck
 | _ => .stuck
def giR (neg:Bool) (kvs:List (Str×D)) (k:D) (m:Mu):Res D:=match k with
 | .str s => .ok (.bl (if neg then !(dGet kvs s).isSome else (dGet kvs s).isSome)) m
 | _ => .stuck
def ggR (kvs:List (Str×D)) (y:D) (m:Mu):Res D:=match y with
 | .str s=>(match dGet kvs s with
  | some v => .ok v m
  | none => .stuck)
 | _ => .stuck
def excOf (T:Tb) (c:Nat) (vs:List D):Option (List (Nat×D)):=match T.cls[c]? with
 | some i=>if i.flds.length=vs.length then some (i.flds.zip vs) else none
 | none=>none
def mkxR (T:Tb) (c:Nat) (d:D) (m:Mu):Res D:=if nbD d then (match excOf T c [d] with
 | some fs => .ok (.obj m.length) (m++[.exn c fs])
 | none => .stuck) else .stuck
def isxR (T:Tb) (x:D) (k:Kd) (m:Mu):Res D:=match x with
 | .obj o=>(match m[o]? with
  | some (.exn c _) => .ok (.bl (isTy T (.ins c) k)) m
  | _ => .stuck)
 | _ => .stuck
def signs (t:Str):List D:=t.cps.toList.map fun c=>D.str ⟨#[c]⟩
mutual
noncomputable def evE (C:Cl):E→Sg→Mu→Res D
 | .var i,σ,μ=>getVar σ i μ
 | .lit d,_,μ => .ok d μ
 | .glob _ d,_,μ => .ok d μ
 | .neg a,σ,μ=>(evE C a σ μ).bind fun x m=>evNeg C x m
 | .bin k a b,σ,μ=>(evE C a σ μ).bind fun x m=>(evE C b σ m).bind fun y m=>evB2 C k x y m
 | .cmp k a b,σ,μ=>(evE C a σ μ).bind fun x m=>(evE C b σ m).bind fun y m=>evCm C k x y m
 | .chain k k' a b c,σ,μ=>(evE C a σ μ).bind fun x m=>(evE C b σ m).bind fun y m=>(evCm C k x y m).bind fun r m=>match r with
  | .bl true=>(evE C c σ m).bind fun z m=>evCm C k' y z m
  | .bl false => .ok (.bl false) m
  | _ => .stuck
 | .bop isAnd a b,σ,μ=>(evE C a σ μ).bind fun x m=>(truth C x m).bind fun t m=>if t=isAnd then evE C b σ m else .ok x m
 | .not a,σ,μ=>(evE C a σ μ).bind fun x m=>(truth C x m).bind fun t m => .ok (.bl (!t)) m
 | .ite c a b,σ,μ=>(evT C c σ μ).bind fun t m=>if t then evE C a σ m else evE C b σ m
 | .tup xs,σ,μ=>(evEs C xs σ μ).bind fun vs m=>if lim vs.length&&vs.all nbD then .ok (.tup vs) m else .stuck
 | .lst xs,σ,μ=>(evEs C xs σ μ).bind fun vs m=>if lim vs.length&&vs.all nbD then .ok (.lst vs) m else .stuck
 | .attr a k,σ,μ=>match a.isVar.bind fun i=>getSelf σ i with
  | some fs=>(match fs.lookup k with
   | some v => .ok v μ
   | none => .stuck)
  | none=>(evE C a σ μ).bind fun x m=>getAt C x k m
 | .idx a b,σ,μ=>(evE C a σ μ).bind fun x m=>(evE C b σ m).bind fun y m=>getIx x y m
 | .sl a lo hi,σ,μ=>(evE C a σ μ).bind fun x m=>(evEo C lo σ m).bind fun l m=>(evEo C hi σ m).bind fun h m=>match getSl x l h with
  | some d => .ok d m
  | none => .stuck
 | .rev a,σ,μ=>(evE C a σ μ).bind fun x m=>match revD x with
  | some d => .ok d m
  | none => .stuck
 | .call f xs,σ,μ=>(evEs C xs σ μ).bind fun vs m=>if vs.all nbD then C.call f vs m else .stuck
 | .make c xs,σ,μ=>(evEs C xs σ μ).bind fun vs m=>if vs.all nbD then C.make c vs m else .stuck
 | .meth a k xs,σ,μ=>(evE C a σ μ).bind fun x m=>match (clsOf m x).bind fun c=>mthd C.T c k with
  | some f=>(evEs C xs σ m).bind fun vs m2=>if vs.all nbD then C.call f (x::vs) m2 else .stuck
  | none => .stuck
 | .blt k xs,σ,μ=>(evEs C xs σ μ).bind fun vs m=>evBl C k vs m
 | .cell xs,σ,μ=>(evEs C xs σ μ).bind fun vs m=>if lim vs.length&&vs.all nbD then .ok (.obj m.length) (m++[.lst vs]) else .stuck
 | .qcall c k xs,σ,μ=>(evEs C xs σ μ).bind fun vs m=>match mthd C.T c k with
  | some f=>if vs.all nbD then C.call f vs m else .stuck
  | none => .stuck
 | .bmeth a k xs,σ,μ=>(evE C a σ μ).bind fun x m=>if bmOkM m k x then (evEs C xs σ m).bind fun vs m=>evBm C k x vs m else .stuck
 | .isin a tup ks,σ,μ=>match a.isVar.bind fun i=>getExn σ i with
  | some c=>(match tup with
   | true => .stuck
   | false => .ok (.bl (ks.any (isTy C.T (.ins c)))) μ)
  | none=>(evE C a σ μ).bind fun x m=>match tyOf m x with
   | some t => .ok (.bl (ks.any (isTy C.T t))) m
   | none => .stuck
 | .comp elt t it cond vs,σ,μ=>(evIt C true it σ μ).bind fun xs m=>if lim xs.length then
   (noExc (compL (fun x m=>match bindT t x (wipeD σ vs) with
    | some σ'=>(evTo C cond σ' m).bind fun b m=>if b then (evE C elt σ' m).bind fun d m=>if nbD d then .ok (some d) m else .stuck else .ok none m
    | none => .stuck) xs m)).bind fun ds m => .ok (.lst ds) m
  else .stuck
 | .fstr xs,σ,μ=>(evFs C xs Str.empty σ μ).bind fun t m => .ok (.str t) m
 | .step a k,σ,μ=>(evE C a σ μ).bind fun x m=>if 2≤k then (match stepD k x with
  | some d => .ok d m
  | none => .stuck) else .stuck
 | .cat c k,_,μ=>(match cnst C.T c k with
  | some v => .ok v μ
  | none => .stuck)
 | .dnew,_,μ => .ok (.obj μ.length) (μ++[.dct []])
 | .cellc e,σ,μ=>(evE C e σ μ).bind fun x m=>match x with
  | .lst vs => .ok (.obj m.length) (m++[.lst vs])
  | _ => .stuck
 | .dmrg a k v,σ,μ=>(evE C a σ μ).bind fun x m=>match dctOf m x with
  | some kvs=>if kvs.length≤1000000 then (evE C k σ m).bind fun y m1=>(evE C v σ m1).bind fun z m2=>(match y with
   | .str s=>if nbD z then .ok (.obj m2.length) (m2++[.dct (dPut kvs s z)]) else .stuck
   | _ => .stuck) else .stuck
  | none => .stuck
 | .disp ks es,σ,μ=>(evEs C es σ μ).bind fun vs m=>dispR ks vs m
 | .dget a k x,σ,μ=>(evE C a σ μ).bind fun d m=>if (dctOf m d).isSome then (evE C k σ m).bind fun y m1=>(evE C x σ m1).bind fun z m2=>getOr d y z m2 else .stuck
 | .lrg e,σ,μ=>if C.hot=true then .stuck else (evE C e σ μ).bind fun x m=>lrgR x m
 | .gget _ kvs k,σ,μ=>(evE C k σ μ).bind fun y m=>ggR kvs y m
 | .gin neg _ kvs k,σ,μ=>(evE C k σ μ).bind fun y m=>giR neg kvs y m
 | .callr f xs,σ,μ=>(evEs C xs σ μ).bind fun vs m=>if vs.all nbD&&decide ((C.T.fns[f]?).map (·.np)=some vs.length) then C.call f vs.reverse m else .stuck
 | .maker c xs,σ,μ=>(evEs C xs σ μ).bind fun vs m=>if vs.all nbD&&decide (((C.T.cls[c]?).bind fun k=>C.T.fns[k.init]?).map (·.np)=some (vs.length+1)) then C.make c vs.reverse m else .stuck
 | .methr a k ns xs,σ,μ=>(evE C a σ μ).bind fun x m=>match (clsOf m x).bind fun c=>mthd C.T c k with
  | some f=>(evEs C xs σ m).bind fun vs m2=>if vs.all nbD&&decide ((C.T.fns[f]?).map (fun i=>(i.names.take i.np).drop 1)=some ns)&&decide ((C.T.fns[f]?).map (·.np)=some (vs.length+1)) then C.call f (x::vs.reverse) m2 else .stuck
  | none => .stuck
 | .mkx _ c x,σ,μ=>(evE C x σ μ).bind fun d m=>mkxR C.T c d m
 | .isx a k,σ,μ=>(evE C a σ μ).bind fun x m=>isxR C.T x k m
noncomputable def evEs (C:Cl):Es→Sg→Mu→Res (List D)
 | .nil,_,μ => .ok [] μ
 | .cons star e es,σ,μ=>(evE C e σ μ).bind fun x m=>if star then (match items m x with
   | some xs=>(evEs C es σ m).bind fun ys m => .ok (xs++ys) m
   | none => .stuck)
  else (evEs C es σ m).bind fun ys m => .ok (x::ys) m
noncomputable def evFs (C:Cl):Es→Str→Sg→Mu→Res Str
 | .nil,acc,_,μ => .ok acc μ
 | .cons _ e es,acc,σ,μ=>(evE C e σ μ).bind fun x m=>match fmtD x with
  | some t=>if (acc++t).length≤LINE then evFs C es (acc++t) σ m else .stuck
  | none => .stuck
noncomputable def evEo (C:Cl):Eo→Sg→Mu→Res (Option Int)
 | .none,_,μ => .ok none μ
 | .some e,σ,μ=>(evE C e σ μ).bind fun x m=>match x with
  | .int i => .ok (some i) m
  | _ => .stuck
noncomputable def evTo (C:Cl):To→Sg→Mu→Res Bool
 | .none,_,μ => .ok true μ
 | .some t,σ,μ=>evT C t σ μ
noncomputable def evT (C:Cl):T→Sg→Mu→Res Bool
 | .e a,σ,μ=>(evE C a σ μ).bind fun x m=>truth C x m
 | .not t,σ,μ=>(evT C t σ μ).bind fun b m => .ok (!b) m
 | .bop isAnd t u,σ,μ=>(evT C t σ μ).bind fun b m=>if b=isAnd then evT C u σ m else .ok b m
 | .ite c t u,σ,μ=>(evT C c σ μ).bind fun b m=>if b then evT C t σ m else evT C u σ m
noncomputable def evIt (C:Cl) (brw:Bool):It→Sg→Mu→Res (List D)
 | .seq a,σ,μ=>(evE C a σ μ).bind fun x m=>match walk brw x with
  | some xs => .ok xs m
  | none => .stuck
 | .enum a,σ,μ=>(evE C a σ μ).bind fun x m=>match walk brw x with
  | some xs => .ok (enumD 0 xs) m
  | none => .stuck
 | .zip2 a b,σ,μ=>(evE C a σ μ).bind fun x m=>(evE C b σ m).bind fun y m=>match walk brw x,walk brw y with
  | some xs,some ys => .ok (zipD2 xs ys) m
  | _,_ => .stuck
 | .zip3 a b c,σ,μ=>(evE C a σ μ).bind fun x m=>(evE C b σ m).bind fun y m=>(evE C c σ m).bind fun z m=>match walk brw x,walk brw y,walk brw z with
  | some xs,some ys,some zs=>if xs.length≤ys.length∧xs.length≤zs.length then .ok (zipD3 xs ys zs) m else .stuck
  | _,_,_ => .stuck
 | .ezip2 a b,σ,μ=>(evE C a σ μ).bind fun x m=>(evE C b σ m).bind fun y m=>match walk brw x,walk brw y with
  | some xs,some ys => .ok (enumD 0 (zipD2 xs ys)) m
  | _,_ => .stuck
 | .rng a,σ,μ=>(evE C a σ μ).bind fun x m=>match x with
  | .int n=>if n < 2^62 ∧ -(2^62)≤n then .ok (rngD n) m else .stuck
  | _ => .stuck
 | .chr a,σ,μ=>(evE C a σ μ).bind fun x m=>match x with
  | .str t => .ok (signs t) m
  | _ => .stuck
 | .echr a,σ,μ=>(evE C a σ μ).bind fun x m=>match x with
  | .str t => .ok (enumD 0 (signs t)) m
  | _ => .stuck
 | .zips a b,σ,μ=>(evE C a σ μ).bind fun x m=>(evE C b σ m).bind fun y m=>match x,walkL brw y with
  | .str t,some ys => .ok (zipD2 (signs t) ys) m
  | _,_ => .stuck
 | .rng2 a b,σ,μ=>(evE C a σ μ).bind fun x m=>(evE C b σ m).bind fun y m=>match x,y with
  | .int i,.int j=>if -(2^62)≤i∧i < 2^62 ∧ -(2^62)≤j∧j < 2^62 then .ok (rngF i 1 (j - i).toNat) m else .stuck
  | _,_ => .stuck
 | .rng3 a b c,σ,μ=>(evE C a σ μ).bind fun x m=>(evE C b σ m).bind fun y m=>(evE C c σ m).bind fun z m=>match x,y,z with
  | .int i,.int j,.int k=>if k≠0∧k.natAbs < 1073741824∧PySem.Builtin.Range.small i j k=true∧0≤PySem.Builtin.Range.rangeSize i j k then .ok (rngF i k (PySem.Builtin.Range.rangeSize i j k).toNat) m else .stuck
  | _,_,_ => .stuck
end
def putN (k:Nat) (v:D) (fs:List (Nat×D)):List (Nat×D):=if (fs.lookup k).isSome then fs.map (fun p=>if p.1=k then (k,v) else p) else (k,v)::fs
def whileN (test:Sg→Mu→Res Bool) (body:Sg→Mu→SR):Nat→Sg→Mu→SR
 | 0,_,_ => .stuck
 | n+1,σ,μ=>(test σ μ).st σ fun t m=>if t then (match body σ m with
   | .nx σ' m'=>whileN test body n σ' m'
   | .brk σ' m' => .nx σ' m'
   | r=>r) else .nx σ m
open Classical in
noncomputable def whileW (test:Sg→Mu→Res Bool) (body:Sg→Mu→SR) (σ:Sg) (μ:Mu):SR:=
 if h:∃ n,whileN test body n σ μ ≠ .stuck then whileN test body h.choose σ μ else .stuck
def forL (turn:D→Sg→Mu→SR):List D→Sg→Mu→SR
 | [],σ,μ => .nx σ μ
 | x::xs,σ,μ=>match turn x σ μ with
  | .nx σ' m'=>forL turn xs σ' m'
  | .brk σ' m' => .nx σ' m'
  | r=>r
def fldOk (T:Tb) (c k:Nat):Bool:=match T.cls[c]? with
 | some i=>i.flds.contains k
 | none=>false
def setAtt (T:Tb) (σ:Sg) (i:Nat) (k:Nat) (v:D):Option Sg:=match σ[i]? with
 | some (some (.self c fs))=>if decide (fs.length < 100)&&fldOk T c k then some (σ.set i (some (.self c (putN k v fs)))) else none
 | _=>none
def setSt (T:Tb) (d:D) (k:Nat) (v:D) (μ:Mu):Option Mu:=match d with
 | .obj a=>(match μ[a]? with
  | some (.ins c fs)=>if decide (fs.length < 100)&&fldOk T c k then some (μ.set a (.ins c (putN k v fs))) else none
  | _=>none)
 | _=>none
def setIx (d i v:D) (μ:Mu):Option Mu:=match d,i with
 | .obj a,.int i=>(match μ[a]? with
  | some (.lst xs)=>if 0≤i∧i < xs.length then some (μ.set a (.lst (xs.set i.toNat v))) else none
  | _=>none)
 | .obj a,.str s=>(match μ[a]? with
  | some (.dct kvs)=>if kvs.length≤1000000 then some (μ.set a (.dct (dPut kvs s v))) else none
  | _=>none)
 | _,_=>none
def suiteIn (v:Option Nat) (c:Nat) (fs:List (Nat×D)) (σ:Sg):Sg:=match v with
 | some i=>σ.set i (some (.exn c fs))
 | none=>σ
def noX:Option L→Option L
 | some (.exn _ _)=>none
 | o=>o
def gone (v:Option Nat) (σ:Sg):Sg:=(match v with
 | some i=>σ.set i none
 | none=>σ).map noX
def suiteOut (v:Option Nat):SR→SR
 | .nx σ m => .nx (gone v σ) m
 | .ret d σ m => .ret d (gone v σ) m
 | .brk σ m => .brk (gone v σ) m
 | _ => .stuck
def pushO (a:Nat) (d:D) (m:Mu):Option Mu:=match m[a]? with
 | some (.lst xs)=>if nbD d&&decide (xs.length < LINE) then some (m.set a (.lst (xs++[d]))) else none
 | _=>none
def appO (a:Nat) (r:(D→Mu→SR)→SR) (σ:Sg) (μ:Mu):SR:=match μ[a]? with
 | some (.lst _)=>r fun d m=>(match pushO a d m with
  | some m' => .nx σ m'
  | none => .stuck)
 | _ => .stuck
open Classical in
noncomputable def exitX (C:Cl) (f:Nat) (x:D) (c:Nat) (fs:List (Nat×D)) (σ:Sg) (m:Mu):SR:=match C.hcall f [x,.opq,.opq,.opq] m with
 | .ok .non m'=>if C.hcall f [x,.opq,.opq,.non] m = .ok .non m' then .exc c fs σ m' else .stuck
 | _ => .stuck
noncomputable def exitN (C:Cl) (f:Nat) (x:D):SR→SR
 | .nx σ m=>(C.call f [x,.non,.non,.non] m).st σ fun _ m' => .nx σ m'
 | .exc c fs σ m=>exitX C f x c fs σ m
 | _ => .stuck
def stasS (i j:Nat) (d:D) (σ:Sg) (m:Mu):SR:=match d with
 | .lst (x::xs)=>if xs.length≤16000 then .nx ((σ.set i (some (.val x))).set j (some (.val (.lst xs)))) m else .stuck
 | _ => .stuck
def setsN:List Nat→List D→Sg→Sg
 | i::is,d::ds,σ=>setsN is ds (σ.set i (some (.val d)))
 | _,_,σ=>σ
def mcsAt (key:Str) (ns:List Nat) (xs:List D) (σ:Sg):Option (Option Sg):=if xs.length=ns.length+1 then (match xs with
 | .str w::ds=>some (if w=key then some (setsN ns ds σ) else none)
 | _=>none) else some none
mutual
noncomputable def exS (C:Cl):S→Sg→Mu→SR
 | .asg t e,σ,μ=>(evE C e σ μ).st σ fun d m=>match bindT t d σ with
  | some σ' => .nx σ' m
  | none => .stuck
 | .par ts es,σ,μ=>(evEs C es σ μ).st σ fun vs m=>match bindTs ts vs σ with
  | some σ' => .nx σ' m
  | none => .stuck
 | .own i es,σ,μ=>(evEs C es σ μ).st σ fun vs m=>if lim vs.length&&vs.all nbD then .nx (σ.set i (some (.own vs))) m else .stuck
 | .ownc i e,σ,μ=>(evE C e σ μ).st σ fun d m=>match d with
  | .lst vs => .nx (σ.set i (some (.own vs))) m
  | _ => .stuck
 | .app i e,σ,μ=>match σ[i]? with
  | some (some (.own xs))=>(evE C e σ μ).st σ fun d m=>if nbD d&&decide (xs.length < LINE) then .nx (σ.set i (some (.own (xs++[d])))) m else .stuck
  | some (some (.val (.obj a)))=>appO a (fun k=>(evE C e σ μ).st σ k) σ μ
  | _ => .stuck
 | .ext i e,σ,μ=>match σ[i]? with
  | some (some (.own xs))=>(evE C e σ μ).st σ fun d m=>match d with
   | .lst ys=>if xs.length+ys.length≤LINE then .nx (σ.set i (some (.own (xs++ys)))) m else .stuck
   | _ => .stuck
  | _ => .stuck
 | .frz i,σ,μ=>match σ[i]? with
  | some (some (.own xs)) => .nx (σ.set i (some (.val (.lst xs)))) μ
  | some (some (.val _)) => .nx σ μ
  | _ => .stuck
 | .setf a k e,σ,μ=>(evE C e σ μ).st σ fun v m=>if nbD v then (match a.isVar.bind fun i=>setAtt C.T σ i k v with
  | some σ' => .nx σ' m
  | none=>(evE C a σ m).st σ fun d m=>(match setSt C.T d k v m with
   | some m' => .nx σ m'
   | none => .stuck)) else .stuck
 | .seti a b e,σ,μ=>(evE C e σ μ).st σ fun v m=>if nbD v then (evE C a σ m).st σ fun d m=>(evE C b σ m).st σ fun i m=>match setIx d i v m with
  | some m' => .nx σ m'
  | none => .stuck else .stuck
 | .aug i k e,σ,μ=>(getVar σ i μ).st σ fun x m=>(evE C e σ m).st σ fun y m=>match k,x,y with
  | .add,.int a,.int b => .nx (σ.set i (some (.val (.int (a+b))))) m
  | _,_,_ => .stuck
 | .exp e,σ,μ=>(evE C e σ μ).st σ fun _ m => .nx σ m
 | .sup _ _,_,_ => .stuck
 | .ret e,σ,μ=>(evE C e σ μ).st σ fun d m=>if nbD d then .ret d σ m else .stuck
 | .retn,σ,μ => .ret .non σ μ
 | .ite c a b,σ,μ=>(evT C c σ μ).st σ fun t m=>if t then exSs C a σ m else exSs C b σ m
 | .for_ t it b,σ,μ=>(evIt C false it σ μ).st σ fun xs m=>forL (fun x σ m=>match bindT t x σ with
   | some σ'=>exSs C b σ' m
   | none => .stuck) xs σ m
 | .while_ c b,σ,μ=>whileW (fun σ m=>evT C c σ m) (fun σ m=>exSs C b σ m) σ μ
 | .brk,σ,μ => .brk σ μ
 | .pass,σ,μ => .nx σ μ
 | .raise c xs,σ,μ=>if C.hot then .stuck else (evEs C xs σ μ).st σ fun vs m=>if vs.all nbD then (match excOf C.T c vs with
  | some fs => .exc c fs σ m
  | none => .stuck) else .stuck
 | .try_ b hs,σ,μ=>if C.hot then .stuck else (match exSs C b σ μ with
  | .exc c fs σ' m=>exHs C hs c fs σ' m
  | r=>r)
 | .cel i,σ,μ=>match σ[i]? with
  | some (some (.own xs)) => .nx (σ.set i (some (.val (.obj μ.length)))) (μ++[.lst xs])
  | _ => .stuck
 | .with_ c e i b,σ,μ=>if C.hot then .stuck else (evE C e σ μ).st σ fun x m=>if clsOf m x=some c then (match mthd C.T c 20,mthd C.T c 21 with
  | some f,some g=>(C.call f [x] m).st σ fun v m1=>exitN C g x (exSs C b (σ.set i (some (.val v))) m1)
  | _,_ => .stuck) else .stuck
 | .paro i j e,σ,μ=>(evE C e σ μ).st σ fun d m=>if nbD d then .nx ((σ.set i (some (.val d))).set j (some (.own []))) m else .stuck
 | .stas i j e,σ,μ=>if C.hot=true then .stuck else (evE C e σ μ).st σ fun d m=>stasS i j d σ m
 | .mtch e cs,σ,μ=>(evE C e σ μ).st σ fun d m=>match d with
  | .lst xs=>if xs.length≤1000 then exMs C xs cs σ m else .stuck
  | _ => .stuck
 | .mcs _ _ _,_,_ => .stuck
 | .mdf _,_,_ => .stuck
 | .owna i a b,σ,μ=>((evE C a σ μ).bind fun x m=>(evE C b σ m).bind fun y m=>addL2 x y m).st σ fun d m=>match d with
  | .lst vs => .nx (σ.set i (some (.own vs))) m
  | _ => .stuck
noncomputable def exMs (C:Cl) (xs:List D):Ss→Sg→Mu→SR
 | .nil,σ,μ => .nx σ μ
 | .cons s cs,σ,μ=>exM C xs s (fun σ m=>exMs C xs cs σ m) σ μ
noncomputable def exM (C:Cl) (xs:List D):S→(Sg→Mu→SR)→Sg→Mu→SR
 | .mcs key ns b,k,σ,μ=>(match mcsAt key ns xs σ with
  | .some (.some σ')=>exSs C b σ' μ
  | .some .none=>k σ μ
  | .none => .stuck)
 | .mdf b,_,σ,μ=>exSs C b σ μ
 | _,_,_,_ => .stuck
noncomputable def exSs (C:Cl):Ss→Sg→Mu→SR
 | .nil,σ,μ => .nx σ μ
 | .cons s ss,σ,μ=>(exS C s σ μ).seq fun σ' m=>exSs C ss σ' m
noncomputable def exHs (C:Cl):Hs→Nat→List (Nat×D)→Sg→Mu→SR
 | .nil,c,fs,σ,μ => .exc c fs σ μ
 | .cons c' v b hs,c,fs,σ,μ=>if isSubc C.T c c' then suiteOut v (exSs C.heat b (suiteIn v c fs σ) μ) else exHs C hs c fs σ μ
end
def hsCls:Hs→List Nat
 | .nil=>[]
 | .cons c _ _ hs=>c::hsCls hs
def argsOf (i:FnI) (vs:List D):Option (List D):=if vs.length≤i.np∧i.np≤vs.length+i.dfl.length then some (vs++i.dfl.drop (vs.length+i.dfl.length - i.np)) else none
def pad (n:Nat) (σ:Sg):Sg:=σ++List.replicate (n - σ.length) none
noncomputable def supRun (C:Cl) (p:SupI) (σ:Sg) (m:Mu):Res D:=match σ[(0:Nat)]? with
 | some (some (.val (.obj a)))=>if clsOf m (.obj a)=some p.cls then (evEs C p.args σ m).bind fun us m=>if us.all nbD then (C.call p.fn (.obj a::us) m).bind fun _ m => .ok .non m else .stuck else .stuck
 | _ => .stuck
noncomputable def endF (C:Cl) (i:FnI) (σ:Sg) (m:Mu):Res D:=match i.sup with
 | none => .ok .non m
 | some p=>supRun C p σ m
noncomputable def runF (C:Cl) (i:FnI) (vs:List D) (μ:Mu):Res D:=match argsOf i vs with
 | none => .stuck
 | some us=>match exSs C i.body (pad i.names.length (us.map fun d=>some (.val d))) μ with
  | .nx σ m=>endF C i σ m
  | .ret d _ m=>if i.sup.isNone then .ok d m else .stuck
  | .exc c fs _ m => .exc c fs m
  | _ => .stuck
def fldsOf (ks:List Nat) (fs:List (Nat×D)):Option (List D):=ks.mapM fun k=>fs.lookup k
def selfOut (c:Nat) (ks:List Nat) (σ:Sg) (m:Mu):Res D:=match σ with
 | some (.self c' fs)::_=>if c'=c then (match fldsOf ks fs with
  | some ds => .ok (.ins c ds) m
  | none => .stuck) else .stuck
 | _ => .stuck
def excOut (c:Nat) (σ:Sg) (c':Nat) (fs:List (Nat×D)) (m:Mu):Res D:=match σ with
 | some (.self c2 _)::_=>if c2=c then .exc c' fs m else .stuck
 | _ => .stuck
noncomputable def runI (C:Cl) (c:Nat) (ks:List Nat) (i:FnI) (vs:List D) (μ:Mu):Res D:=match argsOf i (.non::vs) with
 | none => .stuck
 | some us=>match exSs C i.body (pad i.names.length (some (.self c [])::us.tail.map fun d=>some (.val d))) μ with
  | .nx σ m=>selfOut c ks σ m
  | .exc c' fs σ m=>excOut c σ c' fs m
  | _ => .stuck
noncomputable def callT (T:Tb) (C:Cl) (f:Nat) (vs:List D) (μ:Mu):Res D:=match T.fns[f]? with
 | some i=>if i.ok then runF C i vs μ else .stuck
 | none => .stuck
noncomputable def makeT (T:Tb) (C:Cl) (c:Nat) (vs:List D) (μ:Mu):Res D:=match T.cls[c]? with
 | some k=>(match T.fns[k.init]? with
  | some i=>if i.ok&&!k.isexc then (if k.isval then runI C c k.flds i vs μ else (runF C i (.obj μ.length::vs) (μ++[.ins c []])).bind fun r m=>(match r with
   | .non => .ok (.obj μ.length) m
   | _ => .stuck)) else .stuck
  | none => .stuck)
 | none => .stuck
abbrev stuckF:Nat→List D→Mu→Res D:=fun _ _ _ => .stuck
noncomputable def lvC (T:Tb):Option Cl→Nat→List D→Mu→Res D
 | some C=>callT T C
 | none=>stuckF
noncomputable def lvM (T:Tb):Option Cl→Nat→List D→Mu→Res D
 | some C=>makeT T C
 | none=>stuckF
noncomputable def nxtC (T:Tb) (h r:Bool) (ls hs rs hrs:List Cl):Cl:=⟨T,lvC T ls[0]?,lvC T ls[1]?,lvM T ls[1]?,h,lvC T hs[0]?,lvC T hs[1]?,lvM T hs[1]?,r,lvC T rs[3]?,lvC T hrs[3]?⟩
noncomputable def levs (T:Tb):Nat→Bool→Bool→List Cl
 | 0=>fun _ _=>[]
 | n+1=>fun h r=>nxtC T h r (levs T n h r) (levs T n true r) (levs T n h false) (levs T n true false)::levs T n h r
noncomputable def levM (T:Tb) (h r:Bool) (n:Nat):Cl:=nxtC T h r (levs T n h r) (levs T n true r) (levs T n h false) (levs T n true false)
noncomputable def lev (T:Tb) (h:Bool) (n:Nat):Cl:=levM T h true n
theorem lev_T (T:Tb) (h:Bool) (n:Nat):(lev T h n).T=T:=rfl
theorem lev_call (T:Tb) (h:Bool) (n:Nat):(lev T h (n+1)).call=callT T (lev T h n):=rfl
end Ev
set_option maxRecDepth 100000
section
namespace Ev
open PySem L2
def an (T:Tb) (k:Nat):Str:=T.ats.getD k ""
def gadr (K:PySem.W.Frag) (x:Str):Addr:=match PySem.W.nsIn K mainGlobals x with
 | some (some (.ref a))=>a
 | _=>0
def madr (K:PySem.W.Frag) (C:Addr) (m:Str):Addr:=match PySem.W.findIn K (.ref C) m with
 | some (some (.ref a))=>a
 | _=>0
def fadr (K:PySem.W.Frag) (T:Tb) (p:Str×Option Str):Addr:=match p.2 with
 | none=>gadr K p.1
 | some m=>match PySem.W.recIn K (madr K (gadr K p.1) m) "property" with
  | some (.ref g::_)=>g
  | _=>madr K (gadr K p.1) m
end Ev
end
section
namespace EvT
open PySem PySem.Spec PyProof.Rows L2
inductive Bk where | ve | ae | le
def Bk.name:Bk→String
 | .ve => "ValueError"
 | .ae => "ArithmeticError"
 | .le => "LookupError"
def Bk.newId:Bk→String
 | .ve => "ValueError.__new__"
 | .ae => "ArithmeticError.__new__"
 | .le => "LookupError.__new__"
def Bk.initId:Bk→String
 | .ve => "ValueError.__init__"
 | .ae => "ArithmeticError.__init__"
 | .le => "LookupError.__init__"
def Bk.tail (b:Bk):List Value:=[.type b.name,.type "Exception",.type "BaseException",.type "object"]
def off:List Value→List Value
 | .ref _::r=>off r
 | l=>l
end EvT
end
section
namespace Ev
open PySem PySem.Spec PyProof.Rows L2
abbrev FLATT:List String:=["NoneType", "bool", "int", "str", "tuple", "list", "dict"]
abbrev OPS:List B2:=[.add,.mul,.bor]
def opB2:B2→Operator
 | .add => .Add
 | .sub => .Sub
 | .mul => .Mult
 | .fdiv => .FloorDiv
 | .mod => .Mod
 | .pow => .Pow
 | .bor => .BitOr
def DUN:List Str:=["__add__", "__sub__", "__mul__", "__or__", "__neg__", "__abs__", "__eq__", "__lt__", "__le__", "__gt__", "__ge__", "__bool__", "__str__", "__repr__", "__len__", "__contains__", "__init__", "__floordiv__", "__mod__", "__pow__", "__enter__", "__exit__"]
def BLT:List Str:=["len", "abs", "max", "min", "str", "repr", "int", "bool", "list", "tuple", "any", "all", "range", "enumerate", "zip", "isinstance", "reversed", "ValueError", "ArithmeticError", "LookupError"]
def tyIn (T:Tb):Ty→Bool
 | .ins c=>(T.cls[c]?).isSome
 | _=>true
end Ev
end
section
namespace Ev
open PySem PySem.Spec PyProof.Rows L2
def opC:Cm→CmpOp
 | .eq => .Eq
 | .ne => .NotEq
 | .lt => .Lt
 | .le => .LtE
 | .gt => .Gt
 | .ge => .GtE
 | .isd => .Is
 | .isn => .IsNot
 | .inn => .In
 | .nin => .NotIn
 | .eqL => .Eq
 | .neL => .NotEq
end Ev
end
section
namespace Ev
open PySem PySem.Spec PyProof.Rows L2
def noStar:Expr→Bool
 | .Starred _ _=>false
 | _=>true
def baseOk:Expr→Bool
 | .Call (.Name _ _) [] [] _=>false
 | _=>true
def notSl:Expr→Bool
 | .Slice _ _ _ _=>false
 | _=>true
end Ev
end
section
namespace Ev
open PySem PySem.Spec PyProof.Rows L2
def blN:Bl→String
 | .len => "len"
 | .abs => "abs"
 | .max => "max"
 | .min => "min"
 | .str => "str"
 | .repr => "repr"
 | .int => "int"
 | .bool => "bool"
 | .list => "list"
 | .tuple => "tuple"
 | .any => "any"
 | .all => "all"
def kdN:Kd→Option String
 | .int=>some "int"
 | .str=>some "str"
 | .bool=>some "bool"
 | .list=>some "list"
 | .tuple=>some "tuple"
 | .cls _=>none
 | .verr=>some "ValueError"
 | .arerr=>some "ArithmeticError"
 | .lkerr=>some "LookupError"
end Ev
end
section
namespace Ev
open PySem PySem.Spec PyProof.Rows L2
def litS:E→Bool
 | .lit (.str _)=>true
 | _=>false
def fsOk:Es→Bool
 | .nil=>true
 | .cons true _ es=>fsOk es
 | .cons false a es=>litS a&&fsOk es
end Ev
end
section
namespace Ev
open PySem PySem.Spec PyProof.Rows L2
mutual
def tgIn (vs:List Nat):Tg→Bool
 | .name i=>vs.contains i
 | .tup ts=>tgsIn vs ts
def tgsIn (vs:List Nat):Tgs→Bool
 | .nil=>true
 | .cons t ts=>tgIn vs t&&tgsIn vs ts
end
end Ev
end
section
namespace Ev
open PySem PySem.Spec PyProof.Rows L2
def visB:Option NameKind→Bool
 | some .local=>true
 | some .cell=>true
 | some .free=>true
 | _=>false
def locB (fl:Bool):Option NameKind→Bool
 | some .local=>true
 | some .cell=>fl
 | _=>false
def glB:Option NameKind→Bool
 | some .globalImplicit=>true
 | _=>false
def nmOk (N:List Str) (sc:Scope) (i:Nat) (y:Str):Bool:=decide (N[i]?=some y)&&visB (sc.names.lookup y)&&!(y == ("__debug__" : Str))&&!(y == ("__classdict__" : Str))
def stOk (N:List Str) (sc:Scope) (fl:Bool) (i:Nat) (y:Str):Bool:=decide (N[i]?=some y)&&locB fl (sc.names.lookup y)
def glOk (sc:Scope) (y:Str):Bool:=glB (sc.names.lookup y)&&!(y == ("__debug__" : Str))
def kdCk (T:Tb) (sc:Scope) (k:Kd):Expr→Bool
 | .Name y _=>glOk sc y&&(match k with
  | .cls c=>decide ((T.cls[c]?).map (·.name)=some y)
  | k=>decide ((kdN k).map Str.ofString=some y))
 | _=>false
def kdCks (T:Tb) (sc:Scope):List Kd→List Expr→Bool
 | [],[]=>true
 | k::ks,c::cs=>kdCk T sc k c&&kdCks T sc ks cs
 | _,_=>false
def sameC:D→D→Bool
 | .int i,.int j=>decide (i=j)
 | .str s,.str t=>decide (s=t)
 | _,_=>false
def sameKs:List (Str×D)→List (Str×D)→Bool
 | [],[]=>true
 | p::ps,q::qs=>decide (p.1=q.1)&&sameC p.2 q.2&&sameKs ps qs
 | _,_=>false
def gdsOk (T:Tb) (x:Str) (kvs:List (Str×D)):Bool:=T.gds.any fun p=>decide (p.1=x)&&sameKs p.2 kvs
def glsOk (T:Tb) (x:Str) (d:D):Bool:=T.gls.any fun p=>decide (p.1=x)&&sameC p.2 d
def qcN (T:Tb) (c:Nat) (y:Str):Bool:=match T.cls[c]? with
 | some i=>!i.isexc&&decide (i.name=y)&&(match i.meths.lookup 16 with
  | some f=>(T.fns[f]?).isSome
  | none=>false)
 | none=>false
def catN (T:Tb) (c:Nat) (y:Str):Bool:=match T.cls[c]? with
 | some i=>!i.isexc&&decide (i.name=y)
 | none=>false
def notComp:Expr→Bool
 | .ListComp _ _ _ _=>false
 | .SetComp _ _ _ _=>false
 | .DictComp _ _ _ _ _=>false
 | _=>true
def isTup:Expr→Bool
 | .Tuple _ _ _=>true
 | _=>false
def notSet:Expr→Bool
 | .Set _ _ _=>false
 | _=>true
mutual
def chkTg (N:List Str) (sc:Scope) (fl:Bool):Nat→Tg→Expr→Bool
 | 0,_,_=>false
 | n+1,t,x=>match t,x with
  | .name i,.Name y _=>stOk N sc fl i y
  | .tup ts,.Tuple es _ _=>es.all noStar&&chkTgs N sc fl n ts es
  | _,_=>false
def chkTgs (N:List Str) (sc:Scope) (fl:Bool):Nat→Tgs→List Expr→Bool
 | 0,_,_=>false
 | n+1,ts,es=>match ts,es with
  | .nil,[]=>true
  | .cons t ts,x::xs=>chkTg N sc fl n t x&&chkTgs N sc fl n ts xs
  | _,_=>false
end
def blkB (N:List Str) (sc scope:Scope) (vs:List Nat):Bool:=blkC N sc scope (vs.map fun v=>(N.getD v "",v))
def kwOk (ns:List Str) (kws:List Keyword):Bool:=decide (kws.map (·.arg)=ns.reverse.map some)
def kwF (T:Tb) (f:Nat) (y:Str) (kws:List Keyword):Bool:=match T.fns[f]? with
 | some i=>decide (i.loc=(y,none))&&kwOk (i.names.take i.np) kws
 | none=>false
def kwC (T:Tb) (c:Nat) (y:Str) (kws:List Keyword):Bool:=match T.cls[c]? with
 | some k=>decide (k.name=y)&&(match T.fns[k.init]? with
  | some i=>kwOk ((i.names.take i.np).drop 1) kws
  | none=>false)
 | none=>false
def excN (T:Tb) (c:Nat) (y:Str):Bool:=match T.cls[c]? with
 | some i=>i.isexc&&decide (i.name=y)&&!i.flds.isEmpty
 | none=>false
def excP (T:Tb) (c:Nat) (nm:Str):Bool:=match T.cls[c]? with
 | some i=>(match T.fns[i.init]? with
  | some j=>decide ((j.names.take 2).drop 1=[nm])
  | none=>false)
 | none=>false
mutual
def chkE (N:List Str) (T:Tb):Nat→Scope→E→Expr→Bool
 | 0,_,_,_=>false
 | n+1,sc,a,x=>match a,x with
  | .var i,.Name y _=>nmOk N sc i y
  | .lit (.int i),.Constant (.int j) _ _=>decide (i=j)
  | .lit (.bl i),.Constant (.bool j) _ _=>decide (i=j)
  | .lit .non,.Constant .none _ _=>true
  | .lit (.str i),.Constant (.str j) _ _=>decide (i=j)
  | .bin k a b,.BinOp x op y _=>decide (op=opB2 k)&&chkE N T n sc a x&&chkE N T n sc b y
  | .cmp k a b,.Compare x [op] [y] _=>decide (op=opC k)&&!behindInMarks op y&&chkE N T n sc a x&&chkE N T n sc b y
  | .bop true a b,.BoolOp .And (x::y::r) _=>chkE N T n sc a x&&chkB N T n sc true b (y::r)
  | .bop false a b,.BoolOp .Or (x::y::r) _=>chkE N T n sc a x&&chkB N T n sc false b (y::r)
  | .ite t a b,.IfExp c x y _=>chkT N T n sc t c&&chkE N T n sc a x&&chkE N T n sc b y
  | .tup xs,.Tuple es _ _=>chkEs N T n sc xs es
  | .lst xs,.List es _=>chkEs N T n sc xs es
  | .cell xs,.List es _=>chkEs N T n sc xs es
  | .attr a k,.Attribute x f _=>decide (an T k=f)&&baseOk x&&chkE N T n sc a x
  | .idx a b,.Subscript x y _=>notSl y&&chkE N T n sc a x&&chkE N T n sc b y
  | .sl a lo hi,.Subscript x (.Slice l h none _) _=>chkE N T n sc a x&&chkO N T n sc lo l&&chkO N T n sc hi h
  | .call f xs,.Call (.Name y _) es [] _=>glOk sc y&&decide ((T.fns[f]?).map (·.loc)=some (y,none))&&es.all noStar&&chkEs N T n sc xs es
  | .bmeth a .count (.cons false b .nil),.Call (.Attribute x m apos) [y] [] pos=>decide (m=("count" : Str))&&baseOk x&&(apos.endLine == pos.line)&&noStar y&&chkE N T n sc a x&&chkE N T n sc b y
  | .isin a false [k],.Call (.Name y _) [x,c] [] _=>glOk sc y&&decide (y=("isinstance" : Str))&&noStar x&&kdCk T sc k c&&chkE N T n sc a x
  | .comp a t it cond vs,.ListComp elt [⟨tg,iter,ifs,0⟩] scope _=>chkIt N T n sc tg it iter&&notSet iter&&blkB N sc scope vs&&tgIn vs t&&chkTg N scope true n t tg&&chkTo N T n (relS scope sc) cond ifs&&chkE N T n (relS scope sc) a elt
  | .bmeth a .index (.cons false b .nil),.Call (.Attribute x m apos) [y] [] pos=>decide (m=("index" : Str))&&baseOk x&&(apos.endLine == pos.line)&&noStar y&&chkE N T n sc a x&&chkE N T n sc b y
  | a,x=>chkKw N T n sc a x
def chkD (N:List Str) (T:Tb):Nat→Scope→List Str→Es→List (Option Expr)→List Expr→Bool
 | 0,_,_,_,_,_=>false
 | n+1,sc,ks,as,keys,values=>match ks,as,keys,values with
  | [],.nil,[],[]=>true
  | k::ks,.cons false a as,some x::xs,y::ys=>chkE N T n sc (.lit (.str k)) x&&chkE N T n sc a y&&chkD N T n sc ks as xs ys
  | _,_,_,_=>false
def chkB (N:List Str) (T:Tb):Nat→Scope→Bool→E→List Expr→Bool
 | 0,_,_,_,_=>false
 | n+1,sc,k,b,xs=>match xs with
  | [y]=>chkE N T n sc b y
  | y::z::r=>(match b with
   | .bop k' a b'=>(k' == k)&&chkE N T n sc a y&&chkB N T n sc k b' (z::r)
   | _=>false)
  | []=>false
def chkT (N:List Str) (T:Tb):Nat→Scope→Ev.T→Expr→Bool
 | 0,_,_,_=>false
 | n+1,sc,t,x=>match t,x with
  | .not t,.UnaryOp .Not x _=>chkT N T n sc t x
  | .bop true t u,.BoolOp .And (x::y::r) _=>chkT N T n sc t x&&chkTB N T n sc true u (y::r)
  | .bop false t u,.BoolOp .Or (x::y::r) _=>chkT N T n sc t x&&chkTB N T n sc false u (y::r)
  | .e (.cmp k a b),.Compare x [op] [y] _=>decide (op=opC k)&&!behindInMarks op y&&chkE N T n sc a x&&chkE N T n sc b y
  | .e (.chain k k' a b c),.Compare x [op,op'] [y,z] _=>decide (op=opC k)&&decide (op'=opC k')&&!lastMarks [op,op'] [y,z]&&chkE N T n sc a x&&chkE N T n sc b y&&chkE N T n sc c z
  | .e (.gin neg x kvs a),.Compare l [op] [.Name y _] _=>decide (x=y)&&decide (op=if neg then .NotIn else .In)&&glOk sc y&&gdsOk T y kvs&&chkE N T n sc a l
  | .e a,.Name y p=>chkE N T n sc a (.Name y p)
  | .e a,.Constant c j p=>chkE N T n sc a (.Constant c j p)
  | .e a,.Call f es kw p=>chkE N T n sc a (.Call f es kw p)
  | .e a,.Attribute x f p=>chkE N T n sc a (.Attribute x f p)
  | .e a,.Subscript x y p=>chkE N T n sc a (.Subscript x y p)
  | .e a,.BinOp x op y p=>chkE N T n sc a (.BinOp x op y p)
  | .e a,.ListComp x g s p=>chkE N T n sc a (.ListComp x g s p)
  | _,_=>false
def chkTB (N:List Str) (T:Tb):Nat→Scope→Bool→Ev.T→List Expr→Bool
 | 0,_,_,_,_=>false
 | n+1,sc,k,b,xs=>match xs with
  | [y]=>chkT N T n sc b y
  | y::z::r=>(match b with
   | .bop k' a b'=>(k' == k)&&chkT N T n sc a y&&chkTB N T n sc k b' (z::r)
   | _=>false)
  | []=>false
def chkEs (N:List Str) (T:Tb):Nat→Scope→Es→List Expr→Bool
 | 0,_,_,_=>false
 | n+1,sc,xs,es=>match xs,es with
  | .nil,[]=>true
  | .cons true a as,.Starred x _::r=>chkE N T n sc a x&&chkEs N T n sc as r
  | .cons false a as,x::r=>noStar x&&chkE N T n sc a x&&chkEs N T n sc as r
  | _,_=>false
def chkKw (N:List Str) (T:Tb):Nat→Scope→E→Expr→Bool
 | 0,_,_,_=>false
 | n+1,sc,a,x=>match a,x with
  | .callr f xs,.Call (.Name y _) [] kws _=>glOk sc y&&kwF T f y kws&&chkKs N T n sc xs kws
  | .maker c xs,.Call (.Name y _) [] kws _=>glOk sc y&&kwC T c y kws&&chkKs N T n sc xs kws
  | .mkx false c b,.Call (.Name y _) [e] [] _=>glOk sc y&&excN T c y&&noStar e&&chkE N T n sc b e
  | .mkx true c b,.Call (.Name y _) [] [⟨some nm,e,_⟩] _=>glOk sc y&&excN T c y&&excP T c nm&&chkE N T n sc b e
  | .isx b k,.Call (.Name y _) [e,c] [] _=>glOk sc y&&decide (y=("isinstance" : Str))&&noStar e&&kdCk T sc k c&&chkE N T n sc b e
  | .methr a k ns xs,.Call (.Attribute x m apos) [] kws pos=>decide (an T k=m)&&baseOk x&&(apos.endLine == pos.line)&&kwOk ns kws&&decide (kws.length < 29)&&chkE N T n sc a x&&chkKs N T n sc xs kws
  | _,_=>false
def chkKs (N:List Str) (T:Tb):Nat→Scope→Es→List Keyword→Bool
 | 0,_,_,_=>false
 | n+1,sc,xs,kws=>match xs,kws with
  | .nil,[]=>true
  | .cons false a as,⟨_,x,_⟩::r=>chkE N T n sc a x&&chkKs N T n sc as r
  | _,_=>false
def chkFs (N:List Str) (T:Tb):Nat→Scope→Es→List Expr→Bool
 | 0,_,_,_=>false
 | n+1,sc,xs,es=>match xs,es with
  | .nil,[]=>true
  | .cons true a as,.FormattedValue x (-1) none _::r=>chkE N T n sc a x&&chkFs N T n sc as r
  | .cons false a as,x::r=>chkE N T n sc a x&&chkFs N T n sc as r
  | _,_=>false
def chkO (N:List Str) (T:Tb):Nat→Scope→Eo→Option Expr→Bool
 | 0,_,_,_=>false
 | n+1,sc,o,x=>match o,x with
  | .none,none=>true
  | .some a,some x=>chkE N T n sc a x
  | _,_=>false
def chkTo (N:List Str) (T:Tb):Nat→Scope→To→List Expr→Bool
 | 0,_,_,_=>false
 | n+1,sc,o,xs=>match o,xs with
  | .none,[]=>true
  | .some t,[x]=>chkT N T n sc t x
  | _,_=>false
def chkIt (N:List Str) (T:Tb):Nat→Scope→Expr→Ev.It→Expr→Bool
 | 0,_,_,_,_=>false
 | n+1,sc,tg,it,x=>match it,x with
  | .enum a,.Call (.Name y _) [l] [] _=>isTup tg&&glOk sc y&&decide (y=("enumerate" : Str))&&noStar l&&chkE N T n sc a l
  | .seq a,x=>chkE N T n sc a x
  | _,_=>false
end
end Ev
end
section
namespace Ev
open PySem PySem.Spec PyProof.Rows L2
def swB (tg x:Expr):Bool:=notComp x || (match tg with | .Name _ _=>false | _=>true)
def swpB (tg x:Expr):Bool:=match tg,x with
 | .Tuple ts _ _,.Tuple _ _ _=>decide (3 < ts.length)
 | .List _ _,.Tuple _ _ _=>false
 | _,_=>true
def isCell (sc:Scope):Expr→Bool
 | .Name x _=>decide (sc.names.lookup x=some .cell)
 | _=>false
def cellT (sc:Scope):Expr→Bool
 | .Tuple _ _ _=>true
 | t=>isCell sc t
def swcB (sc:Scope) (tg x:Expr):Bool:=match tg,x with
 | .Tuple ts _ _,.Tuple _ _ _=>ts.any (cellT sc)
 | _,_=>false
def swsB:Expr→Bool
 | .Call _ _ _ _=>true
 | _=>false
def chkLc (N:List Str) (T:Tb) (n:Nat) (sc:Scope) (a:E) (t:Tg) (it:Ev.It) (cond:To) (vs:List Nat) (elt tg iter:Expr) (ifs:List Expr) (scope:Scope):Bool:=
 chkIt N T n sc tg it iter&&notSet iter&&blkB N sc scope vs&&tgIn vs t&&chkTg N scope true n t tg&&chkTo N T n (relS scope sc) cond ifs&&chkE N T n (relS scope sc) a elt
def chkNm (N:List Str) (sc scope:Scope) (i:Nat) (y:Str) (py pos:Pos):Bool:=
 decide (N[i]?=some y)&&decide (sc.names.lookup y=some .local)&&decide (sc.kind = .function)&&(py.line == pos.line)&&!(scope.names.any fun (n,k)=>n == y&&(k == .local || k == .cell))
def mgrB (T:Tb) (c:Nat):Bool:=match T.cls[c]? with
 | some ci=>!ci.isexc&&(ci.meths.lookup 20).isSome&&(ci.meths.lookup 21).isSome
 | none=>false
def capB (N:List Str) (sc:Scope):List Nat→List Pattern→Bool
 | [],[]=>true
 | i::is,.MatchAs none (some x) _::ps=>stOk N sc true i x&&capB N sc is ps
 | _,_=>false
def chkSx (N:List Str) (T:Tb) (n:Nat) (sc:Scope) (a:S) (x:Stmt):Bool:=match a,x with
 | .owna i a b,.Assign [.Name y _] (.BinOp u op v _) _=>decide (op = .Add)&&decide (N[i]?=some y)&&locB true (sc.names.lookup y)&&chkE N T n sc a u&&chkE N T n sc b v
 | _,_=>false
mutual
def chkS (N:List Str) (T:Tb):Nat→Scope→S→Stmt→Bool
 | 0,_,_,_=>false
 | n+1,sc,a,x=>match a,x with
  | .asg (.name i) (.comp a t it cond vs),.Assign [.Name y py] (.ListComp elt [⟨tg,iter,ifs,0⟩] scope pos) spos=>(chkNm N sc scope i y py pos&&chkLc N T n sc a t it cond vs elt tg iter ifs scope) ||
   (isCell sc (.Name y py)&&chkTg N sc true n (.name i) (.Name y py)&&chkE N T n sc (.comp a t it cond vs) (.ListComp elt [⟨tg,iter,ifs,0⟩] scope pos))
  | .app i e,.Expr (.Call (.Attribute (.Name y py) m apos) [z] [] cpos) pos=>decide (m=("append" : Str))&&nmOk N sc i y&&(apos.endLine == cpos.line)&&noStar z&&chkE N T n sc e z
  | .asg t e,.Assign [tg] z pos=>noStar tg&&swB tg z&&(swpB tg z || swcB sc tg z)&&chkTg N sc true n t tg&&chkE N T n sc e z
  | .ret e,.Return (some z) _=>chkE N T n sc e z
  | .ite t us vs,.If c u v _=>chkT N T n sc t c&&chkSs N T n sc us u&&chkSs N T n sc vs v
  | .for_ t it bs,.For tg iter body [] _=>notSet iter&&chkIt N T n sc tg it iter&&chkTg N sc true n t tg&&chkSs N T n sc bs body
  | .sup _ _,_=>true
  | a,x=>chkSx N T n sc a x
def chkM (N:List Str) (T:Tb):Nat→Scope→Ss→List MatchCase→Bool
 | 0,_,_,_=>false
 | n+1,sc,cs,xs=>match cs,xs with
  | .nil,[]=>true
  | .cons (.mdf b) _,⟨.MatchAs none none _,none,body⟩::_=>chkSs N T n sc b body
  | .cons (.mcs key ns b) cs,⟨.MatchSequence (.MatchValue (.Constant (.str k) _ _) _::ps) _,none,body⟩::more=>decide (k=key)&&capB N sc ns ps&&chkSs N T n sc b body&&chkM N T n sc cs more
  | _,_=>false
def chkSs (N:List Str) (T:Tb):Nat→Scope→Ss→List Stmt→Bool
 | 0,_,_,_=>false
 | n+1,sc,as,xs=>match as,xs with
  | .nil,[]=>true
  | .cons (.frz _) as,xs=>chkSs N T n sc as xs
  | .cons (.cel _) as,xs=>chkSs N T n sc as xs
  | .cons a as,x::xs=>chkS N T n sc a x&&chkSs N T n sc as xs
  | _,_=>false
def chkHs (N:List Str) (T:Tb):Nat→Scope→Hs→List ExceptHandler→Bool
 | 0,_,_,_=>false
 | n+1,sc,hs,xs=>match hs,xs with
  | .nil,[]=>true
  | .cons c none b hs,.ExceptHandler (some (.Name x _)) none (z::zs) _::hds=>glOk sc x&&excN T c x&&chkSs N T n sc b (z::zs)&&chkHs N T n sc hs hds
  | .cons c (some i) b hs,.ExceptHandler (some (.Name x _)) (some y) (z::zs) _::hds=>glOk sc x&&excN T c x&&decide (N[i]?=some y)&&decide (sc.names.lookup y=some .local)&&chkSs N T n sc b (z::zs)&&chkHs N T n sc hs hds
  | _,_=>false
end
end Ev
end
section
namespace Ev
open PySem PySem.Spec PyProof.Rows L2
def caK (K:PySem.W.Frag) (T:Tb) (c:Nat):Addr:=match T.cls[c]? with
 | some i=>gadr K i.name
 | none=>0
def optV (a b:Option (Option Value)):Bool:=decide (a=b)
def methB (K:PySem.W.Frag) (T:Tb) (a:Addr) (m:Str) (f:Addr):Bool:=optV (PySem.W.findIn K (.ref a) m) (some (some (.ref f)))&&PySem.W.isFn K (.ref f)&&PySem.W.keepIn K (.ref f)
def propB (K:PySem.W.Frag) (a:Addr) (m:Str) (g:Addr):Bool:=match PySem.W.findIn K (.ref a) m with
 | some (some (.ref p))=>optV (PySem.W.specialIn K (.ref p) "__get__") (some (some (.builtin "property.__get__")))&&decide (PySem.W.takesIn K (.ref p)=some true)&&(match PySem.W.recIn K p "property" with
  | some (.ref g'::_)=>decide (g'=g)
  | _=>false)
 | _=>false
def qinB (K:PySem.W.Frag) (T:Tb) (i:ClI) (a:Addr):Bool:=match i.meths.lookup 16 with
 | some f=>(match T.fns[f]? with
  | some j=>PySem.W.readsIn K a (.type "type")&&optV (PySem.W.specialIn K (.ref a) "__getattribute__") (some (some (.builtin "type.__getattribute__")))&&(match PySem.W.findCls K (.ref a) (.type "type") "__init__" with
   | some (.val v)=>decide (v = .ref (fadr K T j.loc))
   | _=>false)
  | none=>true)
 | none=>true
def clsX (K:PySem.W.Frag) (T:Tb) (i:ClI) (a:Addr):Bool:=
 qinB K T i a&&FLATT.all (fun t=>decide (PySem.W.mroIn K a (.type t)=some false)) &&
 ((i.meths.lookup 6).isSome || (optV (PySem.W.findIn K (.ref a) "__eq__") (some (some (.builtin "object.__eq__")))&&optV (PySem.W.findIn K (.ref a) "__ne__") (some (some (.builtin "object.__ne__"))))) &&
 (List.range T.cls.length).all (fun c'=>match T.cls[c']? with
  | some j=>j.isexc || decide (PySem.W.mroIn K a (.ref (gadr K j.name))=some (i.mro.contains c'))
  | none=>true) &&
 OPS.all (fun k=>!(i.meths.lookup k.m).isSome || optV (PySem.W.findIn K (.ref a) (PySem.dunderR (opB2 k).info.2)) (some none))
def dflB:D→Value→Bool
 | .non,.none=>true
 | .bl b,.bool c=>decide (b=c)
 | .int i,.int j _=>decide (i=j)
 | .str x,.str y _=>decide (x=y)
 | _,_=>false
def conB (K:PySem.W.Frag) (T:Tb) (i:ClI) (a:Addr) (p:Nat×D):Bool:=match PySem.W.findIn K (.ref a) (an T p.1) with
 | some (some u)=>dflB p.2 u&&optV (PySem.W.specialIn K u "__get__") (some none)&&!(PySem.W.copiedNames.contains (an T p.1))&&(match PySem.W.findCls K (.ref a) (.type "type") (an T p.1) with
  | some (.val u')=>decide (u'=u)
  | _=>false)&&PySem.W.readsIn K a (.type "type")&&optV (PySem.W.specialIn K (.ref a) "__getattribute__") (some (some (.builtin "type.__getattribute__")))&&i.flds.all fun k=>!decide (an T k=an T p.1)
 | _=>false
def clsB (K:PySem.W.Frag) (T:Tb) (i:ClI):Bool:=
 let a:=gadr K i.name
 i.cons.all (conB K T i a)&&clsX K T i a &&
 PySem.W.plainGet K a Str.empty&&PySem.W.hasDictIn K a&&PySem.W.plainOver K a&&optV (PySem.W.findIn K (.ref a) "__setattr__") (some (some (.builtin "object.__setattr__"))) &&
 i.flds.all (fun k=>optV (PySem.W.findIn K (.ref a) (an T k)) (some none)) &&
 i.flds.all (fun k=>i.flds.all fun k'=>!decide (an T k=an T k') || decide (k=k')) &&
 i.meths.all (fun p=>match T.fns[p.2]? with
  | some j=>methB K T a (an T p.1) (fadr K T j.loc)&&i.flds.all fun k=>!decide (an T k=an T p.1)
  | none=>false) &&
 i.props.all (fun p=>match T.fns[p.2]? with
  | some j=>propB K a (an T p.1) (fadr K T j.loc)
  | none=>false) &&
 PySem.W.selfFirst K a&&(!(i.meths.lookup 6).isSome || optV (PySem.W.findIn K (.ref a) "__ne__") (some (some (.builtin "object.__ne__"))))&&decide (PySem.W.subIn K (.ref a) (.type "object")=some true) &&
 optV (PySem.W.findIn K (.ref a) "__class__") (some (some (.builtin "object.__class__")))&&decide (PySem.W.mroIn K a (.type "object")=some true) &&
 (match T.fns[i.init]? with
  | some j=>PySem.W.makesIn K a&&optV (PySem.W.findIn K (.ref a) "__init__") (some (some (.ref (fadr K T j.loc))))&&PySem.W.isFn K (.ref (fadr K T j.loc))&&PySem.W.keepIn K (.ref a)
  | none=>true)
def nodupB:List Str→Bool
 | []=>true
 | x::xs=>!(xs.any fun y=>decide (y=x))&&nodupB xs
def scopeB (N P:List Str) (sc:Scope):Bool:=decide (sc.kind = .function)&&!sc.isCoroutine&&!sc.isGenerator&&nodupB N&&(P.all fun x=>locB true (sc.names.lookup x))&&sc.names.all fun y=>!decide (y.2 = .free)
def dflsB:List D→List Value→Bool
 | [],[]=>true
 | d::ds,v::vs=>dflB d v&&dflsB ds vs
 | _,_=>false
def dflV (K:PySem.W.Frag) (ds:List D) (dV:Value):Bool:=match ds,dV with
 | [],.none=>true
 | d::ds,.ref T=>(match K.lookup T with
  | some ⟨_,_,.seq its n,_⟩=>dflsB (d::ds) its.toList
  | _=>false)
 | _,_=>false
def parB (p:Arguments) (ps:List Str):Bool:=p.posonlyargs.isEmpty&&p.vararg.isNone&&p.kwonlyargs.isEmpty&&p.kw_defaults.isEmpty&&p.kwarg.isNone&&decide (p.args.map (·.arg)=ps)
def fnB (K:PySem.W.Frag) (T:Tb) (k:Nat) (i:FnI):Bool:=match K.lookup (fadr K T i.loc) with
 | some ⟨_,_,.func fd,_⟩=>(match fd.body with
  | .stmts body=>decide (fd.globals=mainGlobals)&&fd.closure.isEmpty&&decide (fd.builtins=builtinsNs)&&PySem.W.codeIn K fd.code fd.qualname&&dflV K i.dfl fd.defaults&&PySem.W.keepIn K (.ref (fadr K T i.loc)) &&
    parB fd.params (i.names.take i.np)&&decide ((i.names.take i.np).length=i.np)&&decide (i.dfl.length≤i.np)&&scopeB i.names (i.names.take i.np) fd.scope&&(!i.ok || chkSs i.names T k fd.scope i.body body)
  | _=>false)
 | _=>false
end Ev
end
section
namespace Ev
open PySem PySem.Spec PyProof.Rows L2
def nsc2 (N ps fr:List Str) (sc:Scope):Bool:=
 decide (sc.kind = .function)&&!sc.isCoroutine&&!sc.isGenerator&&nodupB N&&decide (N.take (ps.length+fr.length)=ps++fr)&&ps.all (fun x=>decide (sc.names.lookup x=some .local))&&sc.names.all (fun y=>!decide (y.2 = .cell))&&sc.names.all (fun y=>!decide (y.2 = .free) || fr.any (fun z=>decide (z=y.1)))&&fr.all (fun x=>decide (sc.names.lookup x=some .free))
def fileB (f:Str):Option Value→Bool
 | some (.str g _)=>decide (g=f)
 | _=>false
def lastB (T:Tb) (k:Nat) (i:FnI) (p:SupI) (sc:Scope) (body:List Stmt):Bool:=match body.reverse with
 | .Expr (.Call (.Attribute (.Call (.Name sn _) [] [] _) m apos) (e0::es) [] cpos) _::pre=>decide (sn=("super" : Str))&&decide (m=p.m)&&(apos.endLine == cpos.line)&&(e0::es).all noStar&&decide ((e0::es).length < 30)&&chkSs i.names T k sc i.body pre.reverse&&chkEs i.names T k sc p.args (e0::es)
 | _=>false
def codeB (K:PySem.W.Frag) (f:Str) (c:Addr):Bool:=match K.lookup c with
 | some ⟨_,_,.fields vs,_⟩=>fileB f vs[2]?
 | _=>false
def cellB (K:PySem.W.Frag) (c a:Addr):Bool:=match K.lookup c with
 | some ⟨_,_,.cell (some (.ref b)),_⟩=>decide (b=a)
 | _=>false
def noneV:Value→Bool
 | .none=>true
 | _=>false
def supB2 (K:PySem.W.Frag) (T:Tb) (k:Nat) (i:FnI) (p:SupI) (fd:FuncData) (body:List Stmt) (x:Str) (cc cda:Addr):Bool:=
 decide (x=("__class__" : Str))&&decide (fd.globals=mainGlobals)&&decide (fd.builtins=builtinsNs)&&PySem.W.codeIn K (.ref cda) fd.qualname&&codeB K T.file cda&&cellB K cc (caK K T p.cls)&&(PySem.W.clsIn K (caK K T p.cls)).isSome&&decide (PySem.W.mroIn K (caK K T p.cls) (.ref (caK K T p.cls))=some true) &&
 parB fd.params (i.names.take i.np)&&noneV fd.defaults&&decide ((i.names.take i.np).length=i.np)&&decide (0 < i.np)&&i.dfl.isEmpty&&nsc2 i.names (i.names.take i.np) ["__class__"] fd.scope&&decide (fd.scope.names.lookup ("super" : Str)=some .globalImplicit)&&!(p.m == ("__class__" : Str)) &&
 (match T.fns[p.fn]? with
  | some j=>optV (PySem.W.ks_superIn K (caK K T p.cls) (caK K T p.cls) p.m) (some (some (.ref (fadr K T j.loc))))&&PySem.W.fnIn K (fadr K T j.loc)&&decide (PySem.W.typeIn K (.ref (fadr K T j.loc))=some (.type "function"))
  | none=>false)&&lastB T k i p fd.scope body
def supB (K:PySem.W.Frag) (T:Tb) (k:Nat) (i:FnI) (p:SupI):Bool:=match K.lookup (fadr K T i.loc) with
 | some ⟨_,_,.func fd,_⟩=>(match fd.body,fd.closure,fd.code with
  | .stmts body,[(x,cc)],.ref cda=>supB2 K T k i p fd body x cc cda
  | _,_,_=>false)
 | _=>false
end Ev
end
section
namespace Ev
open PySem PySem.Spec PyProof.Rows L2
def tyK (K:PySem.W.Frag) (T:Tb):Ty→Value
 | .non => .type "NoneType"
 | .bl => .type "bool"
 | .int => .type "int"
 | .str => .type "str"
 | .lst => .type "list"
 | .tup => .type "tuple"
 | .ins c => .ref (caK K T c)
 | .dct => .type "dict"
def kdK (K:PySem.W.Frag) (T:Tb):Kd→Value
 | .int => .type "int"
 | .str => .type "str"
 | .bool => .type "bool"
 | .list => .type "list"
 | .tuple => .type "tuple"
 | .cls c => .ref (caK K T c)
 | .verr => .type "ValueError"
 | .arerr => .type "ArithmeticError"
 | .lkerr => .type "LookupError"
def tysOf (T:Tb):List Ty:=[.non,.bl,.int,.str,.lst,.tup,.dct]++(List.range T.cls.length).map .ins
def kdsOf (T:Tb):List Kd:=[.int,.str,.bool,.list,.tuple,.verr,.arerr,.lkerr]++(List.range T.cls.length).map .cls
def isiB (K:PySem.W.Frag) (T:Tb):Bool:=(tysOf T).all fun t=>!tyIn T t || (kdsOf T).all fun k=>decide (PySem.W.kitOne K (tyK K T t) (kdK K T k)=some (isTy T t k))
def glbB (K:PySem.W.Frag) (x:Str) (a:Addr):Bool:=optV (PySem.W.nsIn K mainGlobals x) (some (some (.ref a)))&&PySem.W.keepIn K (.ref a)
def globB (K:PySem.W.Frag) (T:Tb):Bool:=T.fns.all fun i=>match i.loc with
 | (x,none)=>glbB K x (fadr K T i.loc)
 | _=>true
def injB (K:PySem.W.Frag) (T:Tb):Bool:=(List.range T.cls.length).all fun c=>(List.range T.cls.length).all fun c'=>!decide (caK K T c=caK K T c') || decide (c=c')
def strKey:Value→Bool
 | .str _ _=>true
 | _=>false
def noneAt (K:PySem.W.Frag) (a:Addr) (x:Str):Bool:=optV (PySem.W.nsIn K a x) (some none)
def seerB (K:PySem.W.Frag):Bool:=noneAt K cStatics "sys.audit-hooks" && noneAt K cStatics "sys.dict" && noneAt K sysModules "_pylong" && (match K.lookup sysModules with
 | some ⟨_,_,.dict es _,_⟩=>es.toList.all fun e=>strKey e.key
 | _=>false)&&(match PySem.W.nsIn K mainGlobals "__builtins__" with
 | some (some (.ref bm))=>(match K.lookup bm with
  | some ob=>decide (ob.cls = .type "module")&&decide (ob.dict=some builtinsNs)
  | none=>false)
 | _=>false)
def lstB (K:PySem.W.Frag):Bool:=K.all fun p=>!decide (p.2.cls = .type "list") || p.2.slots.isEmpty
def noneB (K:PySem.W.Frag) (x:Str):Bool:=optV (PySem.W.nsIn K mainGlobals x) (some none)
def initB (K:PySem.W.Frag) (c:Value) (b:EvT.Bk):Bool:=match PySem.W.findCls K c (.type "type") "__init__" with
 | some (.val v)=>decide (v = .builtin b.initId)
 | _=>false
def baseB (K:PySem.W.Frag) (b:EvT.Bk) (x:Str):Bool:=(decide (x=Str.ofString b.name)&&noneB K x&&initB K (.type b.name) b) || (match PySem.W.nsIn K mainGlobals x with
 | some (some (.ref S))=>PySem.W.readsIn K S (.type "type")&&optV (PySem.W.specialIn K (.ref S) "__getattribute__") (some (some (.builtin "type.__getattribute__")))&&initB K (.ref S) b
 | _=>false)
def extB (K:PySem.W.Frag) (C:Addr) (b:EvT.Bk):Bool:=(match K.lookup C with
 | some ⟨.type "type",_,.cls cd,sl⟩=>(match cd.mro,sl.toList with
  | .ref C'::bm,[_,_,_,_,some (.builtin n),_]=>decide (C'=C)&&decide (n=b.newId)&&!cd.hasDel&&cd.hasDict&&decide (EvT.off bm=b.tail)
  | _,_=>false)
 | _=>false)&&optV (PySem.W.findIn K (.ref C) "__setattr__") (some (some (.builtin "object.__setattr__")))&&decide (PySem.W.subIn K (.ref C) (.type "BaseException")=some true)&&decide (PySem.W.typeIn K (.ref C)=some (.type "type"))&&PySem.W.keepIn K (.ref C)
def locN (sc:Scope) (x:Str):Bool:=decide (sc.names.lookup x=some .local)&&!(x == ("__debug__" : Str))&&!(x == ("__classdict__" : Str))
def xbodyB (K:PySem.W.Frag) (b:EvT.Bk) (f:Str) (N:List Str) (sc:Scope) (body:List Stmt):Bool:=match body with
 | [.Expr (.Call (.Attribute (.Name bn _) m p2) [.Name sf _,.Constant (.str _) _ _] [] p5) _,.Assign [.Attribute (.Name sf2 _) f2 _] (.Name vl _) _] =>
  decide (m=("__init__" : Str))&&decide (sf2=sf)&&decide (f2=f)&&decide (N=[sf,vl])&&(p2.endLine == p5.line)&&locN sc sf&&locN sc vl&&decide (sc.names.lookup bn=some .globalImplicit)&&!(bn == ("__debug__" : Str))&&baseB K b bn
 | _=>false
def initBody (K:PySem.W.Frag) (a:Addr):Option (Scope×List Stmt):=match K.lookup a with
 | some ⟨_,_,.func fd,_⟩=>(match fd.body with
  | .stmts body=>some (fd.scope,body)
  | _=>none)
 | _=>none
def xb2 (K:PySem.W.Frag) (b:EvT.Bk) (f:Str) (N:List Str):Option (Scope×List Stmt)→Bool
 | some (sc,body)=>xbodyB K b f N sc body
 | none=>false
def xmB (K:PySem.W.Frag) (T:Tb) (a:Addr) (i:ClI):Bool:=match i.flds,T.fns[i.init]? with
 | [k],some j=>[EvT.Bk.ve,.ae,.le].any (fun b=>extB K a b&&xb2 K b (an T k) j.names (initBody K (fadr K T j.loc)))&&optV (PySem.W.findIn K (.ref a) (an T k)) (some none)&&optV (PySem.W.findIn K (.ref a) "__init__") (some (some (.ref (fadr K T j.loc)))) &&
   decide (PySem.W.typeIn K (.ref (fadr K T j.loc))=some (.type "function"))&&fnB K T 0 j&&decide (j.np=2)&&j.dfl.isEmpty
 | [],_=>true
 | _,_=>false
def xcB (K:PySem.W.Frag) (T:Tb) (i:ClI):Bool:=
 let a:=gadr K i.name
 xmB K T a i&&xfB K a&&optV (PySem.W.findIn K (.ref a) "__class__") (some (some (.builtin "object.__class__")))&&decide (PySem.W.mroIn K a (.type "object")=some true)&&(PySem.W.clsIn K a).isSome &&
   (List.range T.cls.length).all (fun c'=>match T.cls[c']? with
    | some i'=>!i'.isexc || decide (PySem.W.exmOne K (.ref a) (.ref (caK K T c'))=some (i.mro.contains c'))
    | none=>true)
def glcB (K:PySem.W.Frag) (x:Str) (d:D):Bool:=match PySem.W.nsIn K mainGlobals x,d with
 | some (some (.int i _)),.int j=>decide (i=j)
 | some (some (.str s _)),.str t=>decide (s=t)
 | _,_=>false
def gdA (K:PySem.W.Frag) (x:Str):Addr:=match PySem.W.nsIn K mainGlobals x with
 | some (some (.ref a))=>a
 | _=>0
def gdvB (K:PySem.W.Frag) (x:Str) (kvs:List (Str×D)):Bool:=(match PySem.W.nsIn K mainGlobals x with
 | some (some (.ref _))=>true
 | _=>false)&&kvs.all fun p=>match PySem.W.nsIn K (gdA K x) p.1,p.2 with
  | some (some (.str s _)),.str t=>decide (s=t)
  | _,_=>false
def gdK (K:PySem.W.Frag) (T:Tb):List (Option (List (Option (Str×Int)))):=T.gds.map fun t=>He.dicW K (gdA K t.1)
def gdV (T:Tb) (w:World):List (Option (List (Option (Str×Int)))):=T.gds.map fun t=>some (He.keysIn w.params (t.2.map (·.1)))
def allB (K:PySem.W.Frag) (T:Tb) (fuel:Nat):Bool:=
 decide (T.ats.take DUN.length=DUN)&&isiB K T &&
 optV (PySem.W.specialIn K (.builtin "object.__class__") "__get__") (some (some (.builtin "getset_descriptor.__get__")))&&decide (PySem.W.takesIn K (.builtin "object.__class__")=some true) &&
 T.cls.all (fun i=>if i.isexc then xcB K T i else clsB K T i)&&injB K T&&globB K T&&T.cls.all (fun i=>glbB K i.name (gadr K i.name))&&BLT.all (fun x=>noneAt K mainGlobals x)&&seerB K&&lstB K &&
 T.fns.all (fun i=>!i.ok || (match i.sup with | none=>fnB K T fuel i | some p=>supB K T fuel i p))&&T.cls.all (fun k=>!k.isval || match T.fns[k.init]? with
  | some i=>decide (0 < i.np)&&i.sup.isNone
  | none=>true)&&noneAt K mainGlobals "super" && optV (PySem.W.nsIn K cStatics "thirdparty.any") (some none)&&T.gls.all (fun p=>glcB K p.1 p.2)&&T.gds.all (fun t=>gdvB K t.1 t.2)
end Ev
end
set_option maxRecDepth 100000
namespace Ev
open PySem
def b0:Ss:=.nil
def f0:FnI:=⟨("InvalidNumber",some "__init__"),["self", "value"],2,[],false,b0,none⟩
def b1:Ss:=.nil
def f1:FnI:=⟨("InvalidLink",some "__init__"),["self", "value"],2,[],false,b1,none⟩
def b2:Ss:=.nil
def f2:FnI:=⟨("InvalidRow",some "__init__"),["self", "value"],2,[],false,b2,none⟩
def b3:Ss:=.nil
def f3:FnI:=⟨("InvalidPlaces",some "__init__"),["self", "value"],2,[],false,b3,none⟩
def b4:Ss:=.nil
def f4:FnI:=⟨("InvalidIndex",some "__init__"),["self", "value"],2,[],false,b4,none⟩
def b5:Ss:=.nil
def f5:FnI:=⟨("InvalidMeasures",some "__init__"),["self", "value"],2,[],false,b5,none⟩
def b6:Ss:=.nil
def f6:FnI:=⟨("InvalidName",some "__init__"),["self", "value"],2,[],false,b6,none⟩
def b7:Ss:=.nil
def f7:FnI:=⟨("InvalidCommand",some "__init__"),["self", "value"],2,[],false,b7,none⟩
def b8:Ss:=.nil
def f8:FnI:=⟨("ParseError",some "__init__"),["self", "line"],2,[],false,b8,none⟩
def b9:Ss:=.nil
def f9:FnI:=⟨("Impossible",some "__init__"),["self", "value"],2,[],false,b9,none⟩
def b10:Ss:=.nil
def f10:FnI:=⟨("NothingToUndo",some "__init__"),["self", "user"],2,[],false,b10,none⟩
def b11:Ss:=.nil
def f11:FnI:=⟨("NothingToRedo",some "__init__"),["self", "user"],2,[],false,b11,none⟩
def b12:Ss:=(.cons (.asg (.name 1) (.lst (.cons false (.mkx false 1 (.var 0)) (.cons false (.mkx false 2 (.var 0)) (.cons false (.mkx false 3 (.var 0)) (.cons false (.mkx false 4 (.var 0)) (.cons false (.mkx false 5 (.var 0)) .nil))))))) (.cons (.asg (.name 1) (.bin .add (.var 1) (.lst (.cons false (.mkx false 6 (.var 0)) (.cons false (.mkx false 7 (.var 0)) (.cons false (.mkx false 8 (.var 0)) (.cons false (.mkx false 9 (.var 0)) (.cons false (.mkx false 10 (.var 0)) .nil)))))))) (.cons (.ret (.bin .add (.var 1) (.lst (.cons false (.mkx false 11 (.var 0)) (.cons false (.mkx false 12 (.var 0)) .nil))))) .nil)))
def f12:FnI:=⟨("_law_errors",none),["_law_x", "_law_some"],1,[],true,b12,none⟩
def b13:Ss:=(.cons (.asg (.name 1) (.lst (.cons false (.mkx true 1 (.var 0)) (.cons false (.mkx true 2 (.var 0)) (.cons false (.mkx true 3 (.var 0)) (.cons false (.mkx true 4 (.var 0)) .nil)))))) (.cons (.asg (.name 1) (.bin .add (.var 1) (.lst (.cons false (.mkx true 5 (.var 0)) (.cons false (.mkx true 6 (.var 0)) (.cons false (.mkx true 7 (.var 0)) (.cons false (.mkx true 8 (.var 0)) .nil))))))) (.cons (.ret (.bin .add (.var 1) (.lst (.cons false (.mkx true 10 (.var 0)) .nil)))) .nil)))
def f13:FnI:=⟨("_law_named",none),["_law_x", "_law_some"],1,[],true,b13,none⟩
def b14:Ss:=(.cons (.asg (.name 1) (.lst (.cons false (.isx (.var 0) (.cls 1)) (.cons false (.isx (.var 0) (.cls 2)) (.cons false (.isx (.var 0) (.cls 3)) .nil))))) (.cons (.asg (.name 1) (.bin .add (.var 1) (.lst (.cons false (.isx (.var 0) (.cls 4)) (.cons false (.isx (.var 0) (.cls 5)) (.cons false (.isx (.var 0) (.cls 6)) .nil)))))) (.cons (.asg (.name 1) (.bin .add (.var 1) (.lst (.cons false (.isx (.var 0) (.cls 7)) (.cons false (.isx (.var 0) (.cls 8)) (.cons false (.isx (.var 0) (.cls 9)) .nil)))))) (.cons (.asg (.name 1) (.bin .add (.var 1) (.lst (.cons false (.isx (.var 0) (.cls 10)) (.cons false (.isx (.var 0) (.cls 11)) .nil))))) (.cons (.ret (.bin .add (.var 1) (.lst (.cons false (.isx (.var 0) (.cls 12)) .nil)))) .nil)))))
def f14:FnI:=⟨("_law_signs",none),["_law_e", "_law_found"],1,[],true,b14,none⟩
def E15_0:E:=(.attr (.var 2) 22)
def E15_1:E:=(.comp E15_0 (.name 2) (.seq (.sl (.var 0) .none (.some (.lit (.int 8))))) .none [2])
def b15:Ss:=(.cons (.asg (.name 1) (.bin .add E15_1 (.lst (.cons false (.attr (.idx (.var 0) (.lit (.int 8))) 23) (.cons false (.attr (.idx (.var 0) (.lit (.int 9))) 22) .nil))))) (.cons (.ret (.bin .add (.var 1) (.lst (.cons false (.attr (.idx (.var 0) (.lit (.int 10))) 24) (.cons false (.attr (.idx (.var 0) (.lit (.int 11))) 24) .nil))))) .nil))
def f15:FnI:=⟨("_law_fields",none),["_law_some", "_law_found", "_law_e"],1,[],true,b15,none⟩
def T16_0:Ev.T:=(.bop false (.e (.cmp .ne (.bmeth (.call 14 (.cons false (.var 5) .nil)) .count (.cons false (.lit (.bl true)) .nil)) (.lit (.int 1)))) (.e (.cmp .ne (.bmeth (.call 14 (.cons false (.var 5) .nil)) .index (.cons false (.lit (.bl true)) .nil)) (.var 4))))
def T16_1:Ev.T:=(.e (.cmp .ne (.bin .add (.var 6) (.lst (.cons false (.isx (.var 5) .lkerr) .nil))) (.lst (.cons false (.cmp .lt (.var 4) (.lit (.int 9))) (.cons false (.cmp .lt (.var 4) (.lit (.int 9))) (.cons false (.cmp .eq (.var 4) (.lit (.int 9))) (.cons false (.cmp .gt (.var 4) (.lit (.int 9))) .nil)))))))
def L16_0:Ss:=(.cons (.ite T16_0 (.cons (.ret (.lit (.bl false))) .nil) .nil) (.cons (.asg (.name 6) (.lst (.cons false (.isx (.var 5) (.cls 0)) (.cons false (.isx (.var 5) .verr) (.cons false (.isx (.var 5) .arerr) .nil))))) (.cons (.ite T16_1 (.cons (.ret (.lit (.bl false))) .nil) .nil) .nil)))
def E16_0:E:=(.attr (.var 5) 22)
def E16_1:E:=(.comp E16_0 (.name 5) (.seq (.call 13 (.cons false (.var 2) .nil))) .none [5])
def T16_2:Ev.T:=(.bop false (.e (.cmp .ne E16_1 (.bin .mul (.lst (.cons false (.var 2) .nil)) (.lit (.int 9))))) (.e (.cmp .ne (.call 15 (.cons false (.var 3) .nil)) (.bin .mul (.lst (.cons false (.var 2) .nil)) (.lit (.int 12))))))
def T16_3:Ev.T:=(.bop false (.e (.cmp .ne (.attr (.mkx true 9 (.var 2)) 23) (.var 2))) (.e (.cmp .ne (.attr (.mkx true 11 (.var 2)) 24) (.var 2))))
def T16_4:Ev.T:=(.e (.isin (.var 2) false [.list]))
def T16_5:Ev.T:=(.bop false (.e (.cmp .ne (.attr (.mkx true 12 (.var 2)) 24) (.var 2))) (.e (.cmp .ne (.call 15 (.cons false (.var 3) .nil)) (.bin .mul (.lst (.cons false (.var 2) .nil)) (.lit (.int 12))))))
def L16_1:Ss:=(.cons (.asg (.name 2) (.idx (.lst (.cons false (.tup (.cons false (.bin .mod (.var 1) (.bin .pow (.lit (.int 10)) (.lit (.int 9)))) .nil)) (.cons false (.bin .mod (.var 1) (.lit (.int 7))) (.cons false (.lit .non) (.cons false (.lit (.str "a")) (.cons false (.cell (.cons false (.lit (.int 1)) .nil)) .nil)))))) (.bin .mod (.var 1) (.lit (.int 5))))) (.cons (.asg (.name 3) (.call 12 (.cons false (.var 2) .nil))) (.cons (.for_ (.tup (.cons (.name 4) (.cons (.name 5) .nil))) (.enum (.var 3)) L16_0) (.cons (.ite T16_2 (.cons (.ret (.lit (.bl false))) .nil) .nil) (.cons (.ite T16_3 (.cons (.ret (.lit (.bl false))) .nil) .nil) (.cons (.ite T16_4 (.cons (.app 2 (.lit (.int 2))) .nil) .nil) (.cons (.ite T16_5 (.cons (.ret (.lit (.bl false))) .nil) .nil) .nil)))))))
def b16:Ss:=(.cons (.for_ (.name 1) (.seq (.sl (.bin .add (.var 0) (.lst (.cons false (.lit (.int 1)) .nil))) .none (.some (.lit (.int 6))))) L16_1) (.cons (.ret (.lit (.bl true))) .nil))
def f16:FnI:=⟨("law",none),["_law_script", "_law_cell", "_law_x", "_law_some", "_law_at", "_law_e", "_law_bases"],1,[],true,b16,none⟩
def c0:ClI:=⟨"SpringError",[],false,true,0,[],[],[],[0,1001]⟩
def c1:ClI:=⟨"InvalidNumber",[22],false,true,0,[(16,0)],[],[],[1,0,1001]⟩
def c2:ClI:=⟨"InvalidLink",[22],false,true,1,[(16,1)],[],[],[2,0,1001]⟩
def c3:ClI:=⟨"InvalidRow",[22],false,true,2,[(16,2)],[],[],[3,0,1001]⟩
def c4:ClI:=⟨"InvalidPlaces",[22],false,true,3,[(16,3)],[],[],[4,0,1001]⟩
def c5:ClI:=⟨"InvalidIndex",[22],false,true,4,[(16,4)],[],[],[5,0,1001]⟩
def c6:ClI:=⟨"InvalidMeasures",[22],false,true,5,[(16,5)],[],[],[6,0,1001]⟩
def c7:ClI:=⟨"InvalidName",[22],false,true,6,[(16,6)],[],[],[7,0,1001]⟩
def c8:ClI:=⟨"InvalidCommand",[22],false,true,7,[(16,7)],[],[],[8,0,1001]⟩
def c9:ClI:=⟨"ParseError",[23],false,true,8,[(16,8)],[],[],[9,0,1001]⟩
def c10:ClI:=⟨"Impossible",[22],false,true,9,[(16,9)],[],[],[10,1002]⟩
def c11:ClI:=⟨"NothingToUndo",[24],false,true,10,[(16,10)],[],[],[11,1003]⟩
def c12:ClI:=⟨"NothingToRedo",[24],false,true,11,[(16,11)],[],[],[12,1003]⟩
def atsT:List Str:=[("__add__" : Str),("__sub__" : Str),("__mul__" : Str),("__or__" : Str),("__neg__" : Str),("__abs__" : Str),("__eq__" : Str),("__lt__" : Str),("__le__" : Str),("__gt__" : Str),("__ge__" : Str),("__bool__" : Str),("__str__" : Str),("__repr__" : Str),("__len__" : Str),("__contains__" : Str),("__init__" : Str),("__floordiv__" : Str),("__mod__" : Str),("__pow__" : Str),("__enter__" : Str),("__exit__" : Str),("value" : Str),("line" : Str),("user" : Str)]
def glsT:List (Str×D):=[]
def gdsT:List (Str×List (Str×D)):=[]
def Tk:Tb:=⟨atsT,[c0,c1,c2,c3,c4,c5,c6,c7,c8,c9,c10,c11,c12],[f0,f1,f2,f3,f4,f5,f6,f7,f8,f9,f10,f11,f12,f13,f14,f15,f16], "/claim/cut.py",glsT,gdsT⟩
end Ev
set_option maxRecDepth 100000
namespace Ev
open PySem
set_option maxHeartbeats 0
def loose:List Str:=[("SpringError" : Str),("InvalidNumber" : Str),("InvalidLink" : Str),("InvalidRow" : Str),("InvalidPlaces" : Str),("InvalidIndex" : Str),("InvalidMeasures" : Str),("InvalidName" : Str),("InvalidCommand" : Str),("ParseError" : Str),("Impossible" : Str),("NothingToUndo" : Str),("NothingToRedo" : Str),("_law_errors" : Str),("_law_named" : Str),("_law_signs" : Str),("_law_fields" : Str)]
def adr:List Addr:=[2,1,3,6,4,24,44,63,82,101,120,139,158,177,196,215,235,255,265,272,279,284,289,23,43,62,81,100,119,138,157,176,195,214,234,254,264,271,278,283,288,22,25,41,42,60,61,79,80,98,99,117,118,136,137,155,156,174,175,193,194,212,213,216,232,233,236,252,253,256,259,260,261,262,263,266,267,268,269,270,273,274,275,276,277,280,281,282,285,286,287,40,59,78,97,116,135,154,173,192,211,231,251,35,36,37,38,39,54,55,56,57,58,73,74,75,76,77,92,93,94,95,96,111,112,113,114,115,130,131,132,133,134,149,150,151,152,153,168,169,170,171,172,187,188,189,190,191,206,207,208,209,210,226,227,228,229,230,246,247,248,249,250]
def fnQ (K:PySem.W.Frag) (T:Tb) (fuel:Nat) (i:FnI):Bool:=!i.ok || (match i.sup with | none=>fnB K T fuel i | some p=>supB K T fuel i p)
def clsQ (K:PySem.W.Frag) (T:Tb) (i:ClI):Bool:=if i.isexc then xcB K T i else clsB K T i
def allM (K:PySem.W.Frag) (T:Tb) (fuel:Nat):Bool:=
 decide (T.ats.take DUN.length=DUN)&&isiB K T &&
 optV (PySem.W.specialIn K (.builtin "object.__class__") "__get__") (some (some (.builtin "getset_descriptor.__get__")))&&decide (PySem.W.takesIn K (.builtin "object.__class__")=some true) &&
 injB K T&&globB K T&&T.cls.all (fun i=>glbB K i.name (gadr K i.name))&&BLT.all (fun x=>noneAt K mainGlobals x)&&seerB K&&lstB K &&
 T.cls.all (fun k=>!k.isval || match T.fns[k.init]? with
  | some i=>decide (0 < i.np)&&i.sup.isNone
  | none=>true)&&noneAt K mainGlobals "super" && optV (PySem.W.nsIn K cStatics "thirdparty.any") (some none)&&T.gls.all (fun p=>glcB K p.1 p.2)&&T.gds.all (fun t=>gdvB K t.1 t.2)
theorem all_parts {K:PySem.W.Frag} {T:Tb} {fuel k:Nat} (h:allM K T fuel=true) (h0:T.cls.all (clsQ K T)=true) (h1:(T.fns.take k).all (fnQ K T fuel)=true) (h2:(T.fns.drop k).all (fnQ K T fuel)=true):allB K T fuel=true:=by
 have h3:T.fns.all (fun i=>!i.ok || (match i.sup with | none=>fnB K T fuel i | some p=>supB K T fuel i p))=true:=by
  have z:(T.fns.take k++T.fns.drop k).all (fnQ K T fuel)=true:=by rw [List.all_append,h1,h2]; rfl
  rw [List.take_append_drop] at z
  exact z
 unfold allM at h
 unfold allB
 simp only [Bool.and_eq_true] at h ⊢
 obtain ⟨⟨⟨⟨⟨⟨⟨⟨⟨⟨⟨⟨⟨⟨p1,p2⟩,p3⟩,p4⟩,p5⟩,p6⟩,p7⟩,p8⟩,p9⟩,p10⟩,a⟩,b⟩,c⟩,d⟩,g⟩:=h
 exact ⟨⟨⟨⟨⟨⟨⟨⟨⟨⟨⟨⟨⟨⟨⟨⟨p1,p2⟩,p3⟩,p4⟩,h0⟩,p5⟩,p6⟩,p7⟩,p8⟩,p9⟩,p10⟩,h3⟩,a⟩,b⟩,c⟩,d⟩,g⟩
def hookM (T:Tb) (n:List Addr) (fuel:Nat):PySem.W.Hook where
 α:=Bool×List (Option (List (Option (Str×Int))))
 obs:=fun s=>(allM (He.frG s.heap.get? n) T fuel,gdK (He.frG s.heap.get? n) T)
 val:=fun w=>(true,gdV T w)
 says:=fun w h=>∃ K:PySem.W.Frag,K.In h∧allM K T fuel=true∧gdK K T=gdV T w
 of:=fun _ _ e=>⟨_,He.frG_in,congrArg Prod.fst e,congrArg Prod.snd e⟩
 keeps:=fun _ _ _ ⟨K,hK,c⟩ k=>⟨K,PySem.W.Frag.In.keeps hK k,c⟩
def obM (T:Tb) (n:List Addr) (fuel:Nat) (s:PySem.W.SharedT):Bool×List (Option (List (Option (Str×Int)))):=(allM (He.frG (HandSHeadRun.getT s) n) T fuel,gdK (He.frG (HandSHeadRun.getT s) n) T)
def obF (a:Bool) (k:Nat) (T:Tb) (n:List Addr) (fuel:Nat) (s:PySem.W.SharedT):Bool:=(if a then T.fns.take k else T.fns.drop k).all (fnQ (He.frG (HandSHeadRun.getT s) n) T fuel)
theorem runM (w:World):HandSHeadRun.RunEq (PySem.W.OpenLaw.row PySem.Challenge.rw_springrows_k04_error_classes) (PySem.W.view (PySem.W.OpenLaw.row PySem.Challenge.rw_springrows_k04_error_classes).prog [19]) (hookM Tk adr 80) (obM Tk adr 80) 12000 loose w:=by
 intro os
 kernel_rfl
abbrev rowK:PySem.W.OpenRow:=PySem.W.OpenLaw.row PySem.Challenge.rw_springrows_k04_error_classes
def obC (T:Tb) (n:List Addr) (s:PySem.W.SharedT):Bool:=T.cls.all (clsQ (He.frG (HandSHeadRun.getT s) n) T)
theorem run0 (w:World) (os:OsState):(HandSHeadRun.endF (HandSHeadRun.stepQ (HandSHeadRun.denQ HandSHeadRun.tabQ) rowK.prog w) 12000 rowK.prog w os).map (obC Tk adr)=some true:=by kernel_rfl
theorem run1 (w:World) (os:OsState):(HandSHeadRun.endF (HandSHeadRun.stepQ (HandSHeadRun.denQ HandSHeadRun.tabQ) rowK.prog w) 12000 rowK.prog w os).map (obF true 8 Tk adr 80)=some true:=by kernel_rfl
theorem run2 (w:World) (os:OsState):(HandSHeadRun.endF (HandSHeadRun.stepQ (HandSHeadRun.denQ HandSHeadRun.tabQ) rowK.prog w) 12000 rowK.prog w os).map (obF false 8 Tk adr 80)=some true:=by kernel_rfl
end Ev
set_option maxRecDepth 100000
namespace Ev
open PySem L2
abbrev LSt:=L2.St
structure Wd where
 P:Program
 w:World
 K:PySem.W.Frag
 mg:Str→Option Value
 base:Heap
 T:Tb
def Wd.ca (W:Wd) (c:Nat):Addr:=match W.T.cls[c]? with
 | some i=>gadr W.K i.name
 | none=>0
structure Em where
 G:Hp
 r:Nat→Option Addr
structure FldsAt (T:Tb) (ks:List Nat) (gs:List (Str×V)) (vs:List V):Prop where
 len:vs.length=ks.length
 at_:∀ (j k:Nat),ks[j]?=some k→∃ v,vs[j]?=some v∧gs.lookup (an T k)=some v
 no:∀ n,(∀ k∈ks,an T k≠n)→gs.lookup n=none
def SqX (K:PySem.W.Frag) (G:Hp) (a:Addr) (vs:List V):Prop:=Rd G a (.lst vs)∨∃ (its:Array Value) (n:Nat),K.lookup a=some { cls:=.type "list",data:=.seq its n }∧its.size≤sizeLine∧Vals vs its.toList
theorem SqX.sq {K:PySem.W.Frag} {G H:Hp} {a:Addr} {vs:List V} (h:SqX K G a vs) (s:∀ a o,G a=some o→H a=some o):SqL K H a vs:=by
 rcases h with (h | ⟨o,h⟩) | ⟨its,n,h1,h2,h3⟩
 ·exact .inl (.inl (s _ _ h))
 ·exact .inl (.inr ⟨o,s _ _ h⟩)
 ·exact .inr ⟨_,its,n,h1,rfl,rfl,rfl,h2,h3⟩
theorem sqT_sub {K:PySem.W.Frag} {G H:Hp} {a:Addr} {vs:List V} (h:SqT K G a vs) (s:∀ a o,G a=some o→H a=some o):SqT K H a vs:=by
 rcases h with (h | ⟨o,h⟩) | h
 ·exact .inl (.inl (s _ _ h))
 ·exact .inl (.inr ⟨o,s _ _ h⟩)
 ·exact .inr h
theorem SqX.mono {K:PySem.W.Frag} {G H:Hp} {a:Addr} {vs:List V} (h:SqX K G a vs) (s:∀ a o,G a=some o→H a=some o):SqX K H a vs:=by
 rcases h with (h | ⟨o,h⟩) | h
 ·exact .inl (.inl (s _ _ h))
 ·exact .inl (.inr ⟨o,s _ _ h⟩)
 ·exact .inr h
mutual
def Rep (W:Wd) (e:Em):D→V→Prop
 | .non,v=>v = .non
 | .bl b,v=>v = .bl b
 | .int i,v=>v = .int i
 | .str s,v=>v = .str s
 | .tup xs,v=>∃ a vs,v = .ref a∧SqT W.K e.G a vs∧RepL W e xs vs
 | .lst xs,v=>∃ a vs,v = .ref a∧SqX W.K e.G a vs∧RepL W e xs vs
 | .ins c fs,v=>∃ a dx gs vs i,v = .ref a∧e.G a=some (.ins (W.ca c) dx gs)∧W.T.cls[c]?=some i∧i.isexc=false∧FldsAt W.T i.flds gs vs∧RepL W e fs vs
 | .obj i,v=>∃ a,v = .ref a∧e.r i=some a
 | .bor _ _,_=>False
 | .opq,_=>False
def RepL (W:Wd) (e:Em):List D→List V→Prop
 | [],vs=>vs=[]
 | d::ds,vs=>∃ v r,vs=v::r∧Rep W e d v∧RepL W e ds r
end
structure FldsM (W:Wd) (e:Em) (ks:List Nat) (fs:List (Nat×D)) (gs:List (Str×V)):Prop where
 at_:∀ k d,fs.lookup k=some d→k∈ks∧∃ v,gs.lookup (an W.T k)=some v∧Rep W e d v
 no:∀ n,(∀ k∈ks,(fs.lookup k).isSome=true→an W.T k≠n)→gs.lookup n=none
def RepD (W:Wd) (e:Em):List (Str×D)→List (L2.Key×V)→Prop
 | [],ks=>ks=[]
 | p::r,ks=>∃ v t,ks=(.inr p.1,v)::t∧Rep W e p.2 v∧RepD W e r t
def RepO (W:Wd) (e:Em) (H:Hp) (a:Addr):SO→Prop
 | .lst xs=>∃ vs,H a=some (.lst vs)∧RepL W e xs vs
 | .ins c fs=>∃ dx gs i,H a=some (.ins (W.ca c) dx gs)∧W.T.cls[c]?=some i∧i.isexc=false∧FldsM W e i.flds fs gs∧gs.length≤fs.length
 | .dct kvs=>∃ ks,H a=some (.dK ks)∧RepD W e kvs ks
 | .exn c fs=>∃ dx gs i,H a=some (exo a (W.ca c) (some dx))∧e.G dx=some (exd dx gs)∧W.T.cls[c]?=some i∧i.isexc=true∧FldsM W e i.flds fs gs
structure St0 (W:Wd) (e:Em) (μ:Mu) (H:Hp):Prop where
 sub:∀ a o,e.G a=some o→H a=some o
 cell:∀ i o,μ[i]?=some o→∃ a,e.r i=some a∧RepO W e H a o
 out:∀ i,μ.length≤i→e.r i=none
 inj:∀ i j a,e.r i=some a→e.r j=some a→i=j
 free:∀ i a,e.r i=some a→e.G a=none
structure Ex (e:Em) (H:Hp) (e':Em) (H':Hp):Prop where
 g:∀ a o,e.G a=some o→e'.G a=some o
 r:∀ i a,e.r i=some a→e'.r i=some a
 gn:∀ a o,e'.G a=some o→e.G a=some o∨H a=none
 rn:∀ i a,e'.r i=some a→e.r i=some a∨H a=none
 keep:∀ a o,H a=some o→(∀ i,e.r i≠some a)→H' a=some o
 dom:∀ a o,H a=some o→∃ o',H' a=some o'
theorem Ex.refl (e:Em) (H:Hp):Ex e H e H:=⟨fun _ _ h=>h,fun _ _ h=>h,fun _ _ h => .inl h,fun _ _ h => .inl h,fun _ _ h _=>h,fun _ o h=>⟨o,h⟩⟩
theorem none_back {H H':Hp} (d:∀ a o,H a=some o→∃ o',H' a=some o') {a:Addr} (h:H' a=none):H a=none:=by
 cases e:H a with
 | none=>rfl
 | some o =>
  obtain ⟨o',h'⟩:=d a o e
  rw [h] at h'; cases h'
theorem Ex.trans {e e1 e2:Em} {H H1 H2:Hp} (x:Ex e H e1 H1) (y:Ex e1 H1 e2 H2):Ex e H e2 H2 where
 g:=fun a o h=>y.g a o (x.g a o h)
 r:=fun i a h=>y.r i a (x.r i a h)
 gn:=fun a o h=>(y.gn a o h).elim (fun h=>x.gn a o h) fun h => .inr (none_back x.dom h)
 rn:=fun i a h=>(y.rn i a h).elim (fun h=>x.rn i a h) fun h => .inr (none_back x.dom h)
 keep:=fun a o h hr=>y.keep a o (x.keep a o h hr) fun i hi=>(x.rn i a hi).elim (fun z=>hr i z) fun z=>by rw [h] at z; cases z
 dom:=fun a o h=>let ⟨o1,h1⟩:=x.dom a o h; y.dom a o1 h1
mutual
theorem Rep.mono {W:Wd} {e e':Em} (hg:∀ a o,e.G a=some o→e'.G a=some o) (hr:∀ i a,e.r i=some a→e'.r i=some a):∀ (d:D) (v:V),Rep W e d v→Rep W e' d v
 | .non,_,h=>h
 | .bl _,_,h=>h
 | .int _,_,h=>h
 | .str _,_,h=>h
 | .tup xs,_,h=>by
  obtain ⟨a,vs,rfl,h1,h2⟩:=h
  refine ⟨a,vs,rfl,?_,RepL.mono hg hr xs vs h2⟩
  rcases h1 with (h1 | ⟨o,h1⟩) | h1
  ·exact .inl (.inl (hg _ _ h1))
  ·exact .inl (.inr ⟨o,hg _ _ h1⟩)
  ·exact .inr h1
 | .lst xs,_,h=>by
  obtain ⟨a,vs,rfl,h1,h2⟩:=h
  exact ⟨a,vs,rfl,h1.mono hg,RepL.mono hg hr xs vs h2⟩
 | .ins c fs,_,h=>by
  obtain ⟨a,dx,gs,vs,i,rfl,h1,h2,h3,h4,h5⟩:=h
  exact ⟨a,dx,gs,vs,i,rfl,hg _ _ h1,h2,h3,h4,RepL.mono hg hr fs vs h5⟩
 | .obj i,_,h=>by
  obtain ⟨a,rfl,h1⟩:=h
  exact ⟨a,rfl,hr _ _ h1⟩
 | .bor _ _,_,h=>h.elim
 | .opq,_,h=>h.elim
theorem RepL.mono {W:Wd} {e e':Em} (hg:∀ a o,e.G a=some o→e'.G a=some o) (hr:∀ i a,e.r i=some a→e'.r i=some a):∀ (ds:List D) (vs:List V),RepL W e ds vs→RepL W e' ds vs
 | [],_,h=>h
 | d::ds,_,h=>by
  obtain ⟨v,r,rfl,h1,h2⟩:=h
  exact ⟨v,r,rfl,Rep.mono hg hr d v h1,RepL.mono hg hr ds r h2⟩
end
theorem Rep.ex {W:Wd} {e e':Em} {H H':Hp} (x:Ex e H e' H') {d:D} {v:V} (h:Rep W e d v):Rep W e' d v:=h.mono x.g x.r d v
theorem RepL.ex {W:Wd} {e e':Em} {H H':Hp} (x:Ex e H e' H') {d:List D} {v:List V} (h:RepL W e d v):RepL W e' d v:=h.mono x.g x.r d v
theorem RepL.length {W:Wd} {e:Em}:∀ {ds:List D} {vs:List V},RepL W e ds vs→vs.length=ds.length
 | [],_,h=>by rw [show _=[] from h]; rfl
 | _::_,_,h=>by
  obtain ⟨v,r,rfl,_,h2⟩:=h
  rw [List.length_cons,List.length_cons,h2.length]
theorem RepL.get {W:Wd} {e:Em}:∀ {ds:List D} {vs:List V} {i:Nat} {d:D},RepL W e ds vs→ds[i]?=some d→∃ v,vs[i]?=some v∧Rep W e d v
 | [],_,_,_,_,h=>by simp at h
 | d::ds,_,0,_,h,g=>by
  obtain ⟨v,r,rfl,h1,_⟩:=h
  simp at g; subst g
  exact ⟨v,rfl,h1⟩
 | d::ds,_,i+1,_,h,g=>by
  obtain ⟨v,r,rfl,_,h2⟩:=h
  obtain ⟨w,g1,g2⟩:=RepL.get (i:=i) h2 (by simpa using g)
  exact ⟨w,by simpa using g1,g2⟩
theorem RepL.getV {W:Wd} {e:Em}:∀ {ds:List D} {vs:List V} {i:Nat} {v:V},RepL W e ds vs→vs[i]?=some v→∃ d,ds[i]?=some d∧Rep W e d v
 | [],_,_,_,h,g=>by rw [show _=[] from h] at g; simp at g
 | d::ds,_,0,_,h,g=>by
  obtain ⟨v,r,rfl,h1,_⟩:=h
  simp at g; subst g
  exact ⟨d,rfl,h1⟩
 | d::ds,_,i+1,_,h,g=>by
  obtain ⟨v,r,rfl,_,h2⟩:=h
  obtain ⟨w,g1,g2⟩:=RepL.getV (i:=i) h2 (by simpa using g)
  exact ⟨w,by simpa using g1,g2⟩
theorem RepL.nil {W:Wd} {e:Em}:RepL W e [] []:=rfl
theorem RepL.cons {W:Wd} {e:Em} {d:D} {v:V} {ds:List D} {vs:List V} (h:Rep W e d v) (t:RepL W e ds vs):RepL W e (d::ds) (v::vs):=⟨v,vs,rfl,h,t⟩
theorem RepL.append {W:Wd} {e:Em}:∀ {ds es:List D} {vs us:List V},RepL W e ds vs→RepL W e es us→RepL W e (ds++es) (vs++us)
 | [],_,_,_,h,g=>by rw [show _=[] from h]; exact g
 | d::ds,es,_,us,h,g=>by
  obtain ⟨v,r,rfl,h1,h2⟩:=h
  exact .cons h1 (RepL.append h2 g)
theorem RepL.take {W:Wd} {e:Em}:∀ {ds:List D} {vs:List V} (n:Nat),RepL W e ds vs→RepL W e (ds.take n) (vs.take n)
 | _,_,0,_=>rfl
 | [],_,n+1,h=>by rw [show _=[] from h]; rfl
 | d::ds,_,n+1,h=>by
  obtain ⟨v,r,rfl,h1,h2⟩:=h
  exact .cons h1 (RepL.take n h2)
theorem RepL.drop {W:Wd} {e:Em}:∀ {ds:List D} {vs:List V} (n:Nat),RepL W e ds vs→RepL W e (ds.drop n) (vs.drop n)
 | _,_,0,h=>h
 | [],_,n+1,h=>by rw [show _=[] from h]; rfl
 | d::ds,_,n+1,h=>by
  obtain ⟨v,r,rfl,h1,h2⟩:=h
  exact RepL.drop n h2
theorem RepL.reverse {W:Wd} {e:Em}:∀ {ds:List D} {vs:List V},RepL W e ds vs→RepL W e ds.reverse vs.reverse
 | [],_,h=>by rw [show _=[] from h]; rfl
 | d::ds,_,h=>by
  obtain ⟨v,r,rfl,h1,h2⟩:=h
  rw [List.reverse_cons,List.reverse_cons]
  exact RepL.append (RepL.reverse h2) (.cons h1 .nil)
theorem RepL.set {W:Wd} {e:Em} {d:D} {v:V} (hd:Rep W e d v):∀ {ds:List D} {vs:List V} (i:Nat),RepL W e ds vs→RepL W e (ds.set i d) (vs.set i v)
 | [],_,_,h=>by rw [show _=[] from h]; rfl
 | _::ds,_,0,h=>by
  obtain ⟨v',r,rfl,_,h2⟩:=h
  exact .cons hd h2
 | _::ds,_,i+1,h=>by
  obtain ⟨v',r,rfl,h1,h2⟩:=h
  exact .cons h1 (RepL.set hd i h2)
theorem RepD.mono {W:Wd} {e e':Em} (hg:∀ a o,e.G a=some o→e'.G a=some o) (hr:∀ i a,e.r i=some a→e'.r i=some a):∀ {kvs:List (Str×D)} {ks:List (L2.Key×V)},RepD W e kvs ks→RepD W e' kvs ks
 | [],_,h=>h
 | _::_,_,⟨v,t,q,h1,h2⟩=>⟨v,t,q,h1.mono hg hr,RepD.mono hg hr h2⟩
theorem RepD.ex {W:Wd} {e e':Em} {H H':Hp} (x:Ex e H e' H') {kvs:List (Str×D)} {ks:List (L2.Key×V)} (h:RepD W e kvs ks):RepD W e' kvs ks:=h.mono x.g x.r
theorem RepD.length {W:Wd} {e:Em}:∀ {kvs:List (Str×D)} {ks:List (L2.Key×V)},RepD W e kvs ks→ks.length=kvs.length
 | [],_,h=>by rw [show _=[] from h]; rfl
 | _::_,_,⟨v,t,q,_,h2⟩=>by rw [q,List.length_cons,List.length_cons,RepD.length h2]
theorem dGet_pos {p:Str×D} {r:List (Str×D)} {k:Str} (e:p.1=k):dGet (p::r) k=some p.2:=by simp [dGet,List.find?_cons,e]
theorem dGet_neg {p:Str×D} {r:List (Str×D)} {k:Str} (e:¬ p.1=k):dGet (p::r) k=dGet r k:=by simp [dGet,List.find?_cons,e]
theorem RepD.none {W:Wd} {e:Em} {k:Str}:∀ {kvs:List (Str×D)} {ks:List (L2.Key×V)},RepD W e kvs ks→dGet kvs k=none→L2.valV ks (.inr k:L2.Key)=none
 | [],_,h,_=>by rw [show _=[] from h]; rfl
 | p::r,_,⟨v,t,q,h1,h2⟩,g=>by
  subst q
  by_cases hk:p.1=k
  ·rw [dGet_pos hk] at g; cases g
  ·rw [dGet_neg hk] at g
   rw [L2.valV_neg (fun z=>hk (Sum.inr.inj z))]
   exact RepD.none h2 g
theorem RepD.get {W:Wd} {e:Em} {k:Str} {d:D}:∀ {kvs:List (Str×D)} {ks:List (L2.Key×V)},RepD W e kvs ks→dGet kvs k=some d→∃ v,L2.valV ks (.inr k:L2.Key)=some v∧Rep W e d v
 | [],_,_,g=>by cases g
 | p::r,_,⟨v,t,q,h1,h2⟩,g=>by
  subst q
  by_cases hk:p.1=k
  ·rw [dGet_pos hk] at g; cases g
   exact ⟨v,L2.valV_pos (by rw [hk]),h1⟩
  ·rw [dGet_neg hk] at g
   obtain ⟨v',g1,g2⟩:=RepD.get h2 g
   exact ⟨v',by rw [L2.valV_neg (fun z=>hk (Sum.inr.inj z))]; exact g1,g2⟩
theorem RepD.map {W:Wd} {e:Em} {k:Str} {d:D} {v:V} (hd:Rep W e d v):∀ {kvs:List (Str×D)} {ks:List (L2.Key×V)},RepD W e kvs ks→RepD W e (kvs.map fun p=>if p.1=k then (p.1,d) else p) (ks.map fun p=>if p.1=(.inr k:L2.Key) then (p.1,v) else p)
 | [],_,h=>by rw [show _=[] from h]; rfl
 | p::r,_,⟨v',t,q,h1,h2⟩=>by
  subst q
  rw [List.map_cons,List.map_cons]
  by_cases hk:p.1=k
  ·rw [if_pos hk,if_pos (by rw [hk])]
   exact ⟨v,_,rfl,hd,RepD.map hd h2⟩
  ·rw [if_neg hk,if_neg (fun z=>hk (Sum.inr.inj z))]
   exact ⟨v',_,rfl,h1,RepD.map hd h2⟩
theorem RepD.snoc {W:Wd} {e:Em} {k:Str} {d:D} {v:V} (hd:Rep W e d v):∀ {kvs:List (Str×D)} {ks:List (L2.Key×V)},RepD W e kvs ks→RepD W e (kvs++[(k,d)]) (ks++[(.inr k,v)])
 | [],_,h=>by rw [show _=[] from h]; exact ⟨v,[],rfl,hd,rfl⟩
 | p::r,_,⟨v',t,q,h1,h2⟩=>by
  subst q
  exact ⟨v',_,rfl,h1,RepD.snoc hd h2⟩
theorem RepD.any {W:Wd} {e:Em} {k:Str}:∀ {kvs:List (Str×D)} {ks:List (L2.Key×V)},RepD W e kvs ks→(ks.any fun p=>decide (p.1=(.inr k:L2.Key)))=kvs.any fun p=>decide (p.1=k)
 | [],_,h=>by rw [show _=[] from h]; rfl
 | p::r,_,⟨v',t,q,h1,h2⟩=>by
  subst q
  rw [List.any_cons,List.any_cons,RepD.any h2]
  congr 1
  by_cases hk:p.1=k
  ·rw [decide_eq_true hk,decide_eq_true (show (Sum.inr p.1:L2.Key) = .inr k by rw [hk])]
  ·rw [decide_eq_false hk,decide_eq_false (fun z=>hk (Sum.inr.inj z))]
theorem RepD.put {W:Wd} {e:Em} {k:Str} {d:D} {v:V} (hd:Rep W e d v) {kvs:List (Str×D)} {ks:List (L2.Key×V)} (h:RepD W e kvs ks):RepD W e (dPut kvs k d) (L2.putK ks (.inr k) v):=by
 unfold dPut L2.putK
 rw [h.any (k:=k)]
 split
 ·exact RepD.map hd h
 ·exact RepD.snoc hd h
structure En where
 h:Hp
 a:Addr
 d:Addr
 x:Option (Addr×Nat×Addr)
def PrivAt (e:Em) (H0:En) (a:Addr):Prop:=e.G a=none∧(∀ i,e.r i≠some a)∧H0.h a=none
def RepV (W:Wd) (e:Em):D→V→Prop
 | .opq,v=>∃ a,v = .ref a
 | d,v=>Rep W e d v
theorem RepV.of {W:Wd} {e:Em}:∀ {d:D} {v:V},nbD d=true→RepV W e d v→Rep W e d v
 | .non,_,_,h=>h
 | .bl _,_,_,h=>h
 | .int _,_,_,h=>h
 | .str _,_,_,h=>h
 | .tup _,_,_,h=>h
 | .lst _,_,_,h=>h
 | .ins _ _,_,_,h=>h
 | .obj _,_,_,h=>h
 | .bor _ _,_,z,_=>Bool.noConfusion z
 | .opq,_,z,_=>Bool.noConfusion z
theorem RepV.to {W:Wd} {e:Em}:∀ {d:D} {v:V},Rep W e d v→RepV W e d v
 | .non,_,h=>h
 | .bl _,_,h=>h
 | .int _,_,h=>h
 | .str _,_,h=>h
 | .tup _,_,h=>h
 | .lst _,_,h=>h
 | .ins _ _,_,h=>h
 | .obj _,_,h=>h
 | .bor _ _,_,h=>h.elim
 | .opq,_,h=>h.elim
theorem RepV.ex {W:Wd} {e e':Em} {H H':Hp} (x:Ex e H e' H'):∀ {d:D} {v:V},RepV W e d v→RepV W e' d v
 | .non,_,h=>h
 | .bl _,_,h=>h
 | .int _,_,h=>h
 | .str _,_,h=>h
 | .tup _,_,h=>Rep.ex (W:=W) x (d:=.tup _) h
 | .lst _,_,h=>Rep.ex (W:=W) x (d:=.lst _) h
 | .ins _ _,_,h=>Rep.ex (W:=W) x (d:=.ins _ _) h
 | .obj _,_,h=>Rep.ex (W:=W) x (d:=.obj _) h
 | .bor _ _,_,h=>h.elim
 | .opq,_,h=>h
def RepVL (W:Wd) (e:Em):List D→List V→Prop
 | [],vs=>vs=[]
 | d::ds,vs=>∃ v r,vs=v::r∧RepV W e d v∧RepVL W e ds r
theorem RepVL.to {W:Wd} {e:Em}:∀ {ds:List D} {vs:List V},RepL W e ds vs→RepVL W e ds vs
 | [],_,h=>h
 | _::_,_,⟨v,r,q,h1,h2⟩=>⟨v,r,q,RepV.to h1,RepVL.to h2⟩
theorem RepVL.length {W:Wd} {e:Em}:∀ {ds:List D} {vs:List V},RepVL W e ds vs→vs.length=ds.length
 | [],_,h=>by rw [show _=[] from h]; rfl
 | _::_,_,⟨v,r,q,_,h2⟩=>by rw [q,List.length_cons,List.length_cons,RepVL.length h2]
theorem RepVL.get {W:Wd} {e:Em}:∀ {ds:List D} {vs:List V} {i:Nat} {d:D},RepVL W e ds vs→ds[i]?=some d→∃ v,vs[i]?=some v∧RepV W e d v
 | [],_,_,_,_,h=>by simp at h
 | d::ds,_,0,_,⟨v,r,q,h1,_⟩,g=>by
  subst q
  simp at g; subst g
  exact ⟨v,rfl,h1⟩
 | d::ds,_,i+1,_,⟨v,r,q,_,h2⟩,g=>by
  subst q
  obtain ⟨w,g1,g2⟩:=RepVL.get (i:=i) h2 (by simpa using g)
  exact ⟨w,by simpa using g1,g2⟩
theorem RepVL.append {W:Wd} {e:Em}:∀ {ds es:List D} {vs us:List V},RepVL W e ds vs→RepVL W e es us→RepVL W e (ds++es) (vs++us)
 | [],_,_,_,h,g=>by rw [show _=[] from h]; exact g
 | _::_,_,_,us,⟨v,r,q,h1,h2⟩,g=>by
  subst q
  exact ⟨v,r++us,rfl,h1,RepVL.append h2 g⟩
def RepS (W:Wd) (e:Em) (H0:En) (H:Hp):L→V→Prop
 | .val d,v=>RepV W e d v
 | .own xs,v=>∃ a vs,v = .ref a∧H a=some (.lst vs)∧RepL W e xs vs∧PrivAt e H0 a
 | .self c fs,v=>∃ a dx gs i,(v = .ref a∧H0.a=a∧H0.d=dx)∧H a=some (.ins (W.ca c) dx gs)∧W.T.cls[c]?=some i∧i.isexc=false∧FldsM W e i.flds fs gs∧gs.length≤fs.length∧PrivAt e H0 a
 | .exn c fs,v=>∃ a dx gs i,v = .ref a∧H0.x=some (a,c,dx)∧H dx=some (.xd gs)∧W.T.cls[c]?=some i∧i.isexc=true∧FldsM W e i.flds fs gs∧e.G dx=none∧∀ j,e.r j≠some dx
def L.priv:L→Bool
 | .own _=>true
 | .self _ _=>true
 | _=>false
structure Lo (W:Wd) (e:Em) (H0:En) (σd:Sg) (σ:LSt) (H:Hp):Prop where
 len:σ.length=σd.length
 at_:∀ (i:Nat) (l:L),σd[i]?=some (some l)→∃ v,σ[i]?=some (some v)∧RepS W e H0 H l v
 ne:∀ (i j:Nat) (l l':L) (v:V),i≠j→σd[i]?=some (some l)→σd[j]?=some (some l')→l.priv=true→l'.priv=true→σ[i]?=some (some v)→σ[j]?≠some (some v)
theorem FldsM.ex {W:Wd} {e e':Em} {H H':Hp} (x:Ex e H e' H') {ks:List Nat} {fs:List (Nat×D)} {gs:List (Str×V)} (f:FldsM W e ks fs gs):FldsM W e' ks fs gs:=
 ⟨fun k d h=>let ⟨a,v,b,c⟩:=f.at_ k d h; ⟨a,v,b,c.ex x⟩,f.no⟩
theorem PrivAt.ex {e e':Em} {H0:En} {H H':Hp} (x:Ex e H e' H') {a:Addr} {o:HO} (h:H a=some o) (p:PrivAt e H0 a):PrivAt e' H0 a:=by
 obtain ⟨p1,p2,p3⟩:=p
 refine ⟨?_,fun i z=>?_,p3⟩
 ·cases q:e'.G a with
  | none=>rfl
  | some u =>
        rcases x.gn a u q with z | z
        ·rw [p1] at z; cases z
        ·rw [h] at z; cases z
 ·rcases x.rn i a z with z | z
  ·exact p2 i z
  ·rw [h] at z; cases z
theorem privG {e e':Em} {H H':Hp} (x:Ex e H e' H') {q:Addr} {o:HO} (h:H q=some o) (p1:e.G q=none) (p2:∀ j,e.r j≠some q):e'.G q=none∧∀ j,e'.r j≠some q:=by
 refine ⟨?_,fun j z=>?_⟩
 ·cases z:e'.G q with
  | none=>rfl
  | some u =>
        rcases x.gn q u z with z | z
        ·rw [p1] at z; cases z
        ·rw [h] at z; cases z
 ·rcases x.rn j q z with z | z
  ·exact p2 j z
  ·rw [h] at z; cases z
theorem RepS.ex {W:Wd} {e e':Em} {H0:En} {H H':Hp} (x:Ex e H e' H'):∀ {l:L} {v:V},RepS W e H0 H l v→RepS W e' H0 H' l v
 | .val _,_,h=>RepV.ex x h
 | .own _,_,⟨a,vs,q,h,r,p⟩=>⟨a,vs,q,x.keep a _ h p.2.1,r.ex x,p.ex x h⟩
 | .self _ _,_,⟨a,dx,gs,i,q,h,c,c2,f,z,p⟩=>⟨a,dx,gs,i,q,x.keep a _ h p.2.1,c,c2,f.ex x,z,p.ex x h⟩
 | .exn _ _,_,⟨a,dx,gs,i,q,hx,h,c,c2,f,g1,g2⟩=>⟨a,dx,gs,i,q,hx,x.keep dx _ h g2,c,c2,f.ex x,privG x h g1 g2⟩
theorem Lo.ex {W:Wd} {e e':Em} {H0:En} {H H':Hp} {σd:Sg} {σ:LSt} (x:Ex e H e' H') (l:Lo W e H0 σd σ H):Lo W e' H0 σd σ H':=
 ⟨l.len,fun i q h=>let ⟨v,a,b⟩:=l.at_ i q h; ⟨v,a,b.ex x⟩,l.ne⟩
def Exa (W:Wd) (e:Em) (H:Hp) (c:Nat) (fs:List (Nat×D)) (cls:Value) (d:Option Addr):Prop:=
 cls = .ref (W.ca c)∧∃ dx gs i,d=some dx∧H dx=some (.xd gs)∧W.T.cls[c]?=some i∧i.isexc=true∧FldsM W e i.flds fs gs∧e.G dx=none∧∀ j,e.r j≠some dx
def Aft {α:Type} (W:Wd) (e:Em) (H:Hp) (r:Res α) (K:α→Mu→Em→Hp→Prop) (E:XK):Prop:=match r with
 | .ok a m=>∀ e' H',Ex e H e' H'→St0 W e' m H'→K a m e' H'
 | .exc c fs m=>∀ e' H' cls d,Ex e H e' H'→St0 W e' m H'→Exa W e' H' c fs cls d→E cls d H'
 | .stuck=>False
theorem Aft.bind {α β:Type} {W:Wd} {e:Em} {H:Hp} {r:Res α} {f:α→Mu→Res β} {K:β→Mu→Em→Hp→Prop} {E:XK} (h:Aft W e H (r.bind f) K E):Aft W e H r (fun a m e1 H1=>Aft W e1 H1 (f a m) K E) E:=by
 cases r with
 | ok a m =>
  intro e1 H1 x1 _
  have h:Aft W e H (f a m) K E:=h
  cases q:f a m with
  | ok b m' =>
   rw [q] at h
   exact fun e2 H2 x2 s2=>h e2 H2 (x1.trans x2) s2
  | exc c fs m' =>
   rw [q] at h
   exact fun e2 H2 cls d x2 s2 z=>h e2 H2 cls d (x1.trans x2) s2 z
  | stuck=>rw [q] at h; exact h.elim
 | exc c fs m=>exact h
 | stuck=>exact h.elim
theorem Aft.imp {α:Type} {W:Wd} {e:Em} {H:Hp} {r:Res α} {K K':α→Mu→Em→Hp→Prop} {E:XK} (h:Aft W e H r K E) (k:∀ a m e' H',Ex e H e' H'→St0 W e' m H'→K a m e' H'→K' a m e' H'):Aft W e H r K' E:=by
 cases r with
 | ok a m=>exact fun e' H' x s=>k a m e' H' x s (h e' H' x s)
 | exc c fs m=>exact h
 | stuck=>exact h.elim
theorem Aft.now {α:Type} {W:Wd} {e:Em} {H:Hp} {a:α} {m:Mu} {K:α→Mu→Em→Hp→Prop} {E:XK} (h:Aft W e H (.ok a m) K E) (s:St0 W e m H):K a m e H:=h e H (Ex.refl e H) s
def RepH (W:Wd) (e:Em) (H:Hp):D→V→Prop
 | .bor _ xs,v=>∃ a vs,v = .ref a∧H a=some (.lst vs)∧RepL W e xs vs∧∀ i,e.r i≠some a
 | .opq,v=>∃ a,v = .ref a
 | d,v=>Rep W e d v
theorem RepH.of {W:Wd} {e:Em} {H:Hp}:∀ {d:D} {v:V},nbD d=true→RepH W e H d v→Rep W e d v
 | .non,_,_,h=>h
 | .bl _,_,_,h=>h
 | .int _,_,_,h=>h
 | .str _,_,_,h=>h
 | .tup _,_,_,h=>h
 | .lst _,_,_,h=>h
 | .ins _ _,_,_,h=>h
 | .obj _,_,_,h=>h
 | .bor _ _,_,z,_=>Bool.noConfusion z
 | .opq,_,z,_=>Bool.noConfusion z
theorem RepH.to {W:Wd} {e:Em} {H:Hp}:∀ {d:D} {v:V},Rep W e d v→RepH W e H d v
 | .non,_,h=>h
 | .bl _,_,h=>h
 | .int _,_,h=>h
 | .str _,_,h=>h
 | .tup _,_,h=>h
 | .lst _,_,h=>h
 | .ins _ _,_,h=>h
 | .obj _,_,h=>h
 | .bor _ _,_,h=>h.elim
 | .opq,_,h=>h.elim
theorem Rep.nb {W:Wd} {e:Em}:∀ {d:D} {v:V},Rep W e d v→nbD d=true
 | .non,_,_=>rfl
 | .bl _,_,_=>rfl
 | .int _,_,_=>rfl
 | .str _,_,_=>rfl
 | .tup _,_,_=>rfl
 | .lst _,_,_=>rfl
 | .ins _ _,_,_=>rfl
 | .obj _,_,_=>rfl
 | .bor _ _,_,h=>h.elim
 | .opq,_,h=>h.elim
theorem RepH.ex {W:Wd} {e e':Em} {H H':Hp} (x:Ex e H e' H'):∀ {d:D} {v:V},RepH W e H d v→RepH W e' H' d v
 | .non,_,h=>h
 | .bl _,_,h=>h
 | .int _,_,h=>h
 | .str _,_,h=>h
 | .tup _,_,h=>Rep.ex (W:=W) x (d:=.tup _) h
 | .lst _,_,h=>Rep.ex (W:=W) x (d:=.lst _) h
 | .ins _ _,_,h=>Rep.ex (W:=W) x (d:=.ins _ _) h
 | .obj _,_,h=>Rep.ex (W:=W) x (d:=.obj _) h
 | .opq,_,h=>h
 | .bor _ xs,_,h=>by
  obtain ⟨a,vs,q,h1,h2,h3⟩:=h
  refine ⟨a,vs,q,x.keep a _ h1 h3,h2.ex x,fun i z=>?_⟩
  rcases x.rn i a z with z | z
  ·exact h3 i z
  ·rw [h1] at z; cases z
theorem RepH.ofV {W:Wd} {e:Em} {H:Hp}:∀ {d:D} {v:V},RepV W e d v→RepH W e H d v
 | .non,_,h=>h
 | .bl _,_,h=>h
 | .int _,_,h=>h
 | .str _,_,h=>h
 | .tup _,_,h=>h
 | .lst _,_,h=>h
 | .ins _ _,_,h=>h
 | .obj _,_,h=>h
 | .bor _ _,_,h=>h.elim
 | .opq,_,h=>h
def RepHL (W:Wd) (e:Em) (H:Hp):List D→List V→Prop
 | [],vs=>vs=[]
 | d::ds,vs=>∃ v r,vs=v::r∧RepH W e H d v∧RepHL W e H ds r
theorem RepHL.of {W:Wd} {e:Em} {H:Hp}:∀ {ds:List D} {vs:List V},ds.all nbD=true→RepHL W e H ds vs→RepL W e ds vs
 | [],_,_,h=>h
 | d::ds,_,z,h=>by
  obtain ⟨v,r,rfl,h1,h2⟩:=h
  rw [List.all_cons,Bool.and_eq_true] at z
  exact .cons (RepH.of z.1 h1) (RepHL.of z.2 h2)
theorem RepHL.to {W:Wd} {e:Em} {H:Hp}:∀ {ds:List D} {vs:List V},RepL W e ds vs→RepHL W e H ds vs
 | [],_,h=>h
 | d::ds,_,h=>by
  obtain ⟨v,r,rfl,h1,h2⟩:=h
  exact ⟨v,r,rfl,RepH.to h1,RepHL.to h2⟩
theorem RepHL.ex {W:Wd} {e e':Em} {H H':Hp} (x:Ex e H e' H'):∀ {ds:List D} {vs:List V},RepHL W e H ds vs→RepHL W e' H' ds vs
 | [],_,h=>h
 | d::ds,_,h=>by
  obtain ⟨v,r,rfl,h1,h2⟩:=h
  exact ⟨v,r,rfl,h1.ex x,RepHL.ex x h2⟩
theorem RepHL.append {W:Wd} {e:Em} {H:Hp}:∀ {ds es:List D} {vs us:List V},RepHL W e H ds vs→RepHL W e H es us→RepHL W e H (ds++es) (vs++us)
 | [],_,_,_,h,g=>by rw [show _=[] from h]; exact g
 | d::ds,es,_,us,h,g=>by
  obtain ⟨v,r,rfl,h1,h2⟩:=h
  exact ⟨v,r++us,rfl,h1,RepHL.append h2 g⟩
theorem RepHL.length {W:Wd} {e:Em} {H:Hp}:∀ {ds:List D} {vs:List V},RepHL W e H ds vs→vs.length=ds.length
 | [],_,h=>by rw [show _=[] from h]; rfl
 | _::_,_,h=>by
  obtain ⟨v,r,rfl,_,h2⟩:=h
  rw [List.length_cons,List.length_cons,h2.length]
theorem St0.frozen {W:Wd} {e:Em} {μ:Mu} {H:Hp} (s:St0 W e μ H) {a:Addr} (o:HO) (h:H a=none) :
  Ex e H ⟨upd e.G a o,e.r⟩ (upd H a o)∧St0 W ⟨upd e.G a o,e.r⟩ μ (upd H a o):=by
 have gn:e.G a=none:=by
  cases q:e.G a with
  | none=>rfl
  | some u=>rw [s.sub a u q] at h; cases h
 have ra:∀ i b,e.r i=some b→b≠a:=fun i b hb z=>by
  subst z
  by_cases hi:i < μ.length
  ·obtain ⟨c,hc,hr⟩:=s.cell i μ[i] (by simp [hi])
   rw [hb] at hc; cases hc
   cases q:μ[i] with
   | lst xs=>rw [q] at hr; obtain ⟨vs,h1,_⟩:=hr; rw [h] at h1; cases h1
   | ins c fs=>rw [q] at hr; obtain ⟨dx,gs,i,h1,_⟩:=hr; rw [h] at h1; cases h1
   | dct kvs=>rw [q] at hr; obtain ⟨ks,h1,_⟩:=hr; rw [h] at h1; cases h1
   | exn c fs=>rw [q] at hr; obtain ⟨dx,gs,i,h1,_⟩:=hr; rw [h] at h1; cases h1
  ·rw [s.out i (by omega)] at hb; cases hb
 have x:Ex e H ⟨upd e.G a o,e.r⟩ (upd H a o):=by
  refine ⟨fun b u q=>?_,fun _ _ q=>q,fun b u q=>?_,fun _ _ q => .inl q,fun b u q _=>?_,fun b u q=>?_⟩
  ·show upd e.G a o b=some u
   rw [upd_ne (ne_of_none q gn)]; exact q
  ·by_cases hb:b=a
   ·subst hb; exact .inr h
   ·have q:upd e.G a o b=some u:=q
    rw [upd_ne hb] at q; exact .inl q
  ·rw [upd_ne (ne_of_none q h)]; exact q
  ·exact ⟨u,by rw [upd_ne (ne_of_none q h)]; exact q⟩
 refine ⟨x,⟨fun b u q=>?_,fun i u q=>?_,s.out,s.inj,fun i b q=>?_⟩⟩
 ·by_cases hb:b=a
  ·subst hb
   have q:upd e.G b o b=some u:=q
   rw [upd_same] at q ⊢; exact q
  ·have q:upd e.G a o b=some u:=q
   rw [upd_ne hb] at q ⊢; exact s.sub b u q
 ·obtain ⟨b,hb,hr⟩:=s.cell i u q
  refine ⟨b,hb,?_⟩
  cases u with
  | lst xs =>
   obtain ⟨vs,h1,h2⟩:=hr
   exact ⟨vs,by rw [upd_ne (ra i b hb)]; exact h1,h2.ex x⟩
  | ins c fs =>
   obtain ⟨dx,gs,j,h1,h2,hx,h3,h4⟩:=hr
   exact ⟨dx,gs,j,by rw [upd_ne (ra i b hb)]; exact h1,h2,hx,h3.ex x,h4⟩
  | dct kvs =>
   obtain ⟨ks,h1,h2⟩:=hr
   exact ⟨ks,by rw [upd_ne (ra i b hb)]; exact h1,h2.ex x⟩
  | exn c fs =>
   obtain ⟨dx,gs,j,h1,h2,h3,h4,h5⟩:=hr
   exact ⟨dx,gs,j,by rw [upd_ne (ra i b hb)]; exact h1,x.g _ _ h2,h3,h4,h5.ex x⟩
 ·show upd e.G a o b=none
  rw [upd_ne (ra i b q)]; exact s.free i b q
theorem St0.rn {W:Wd} {e:Em} {μ:Mu} {H:Hp} (s:St0 W e μ H) {i:Nat} {a:Addr} (h:e.r i=some a):i < μ.length:=by
 rcases Nat.lt_or_ge i μ.length with z | z
 ·exact z
 ·rw [s.out i z] at h; cases h
theorem St0.rH {W:Wd} {e:Em} {μ:Mu} {H:Hp} (s:St0 W e μ H) {i:Nat} {a:Addr} (h:e.r i=some a):∃ o,H a=some o:=by
 have hi:=s.rn h
 obtain ⟨c,hc,hr⟩:=s.cell i μ[i] (by simp [hi])
 rw [h] at hc; cases hc
 cases q:μ[i] with
 | lst xs=>rw [q] at hr; obtain ⟨vs,h1,_⟩:=hr; exact ⟨_,h1⟩
 | ins c fs=>rw [q] at hr; obtain ⟨dx,gs,i,h1,_⟩:=hr; exact ⟨_,h1⟩
 | dct kvs=>rw [q] at hr; obtain ⟨ks,h1,_⟩:=hr; exact ⟨_,h1⟩
 | exn c fs=>rw [q] at hr; obtain ⟨dx,gs,i,h1,_⟩:=hr; exact ⟨_,h1⟩
theorem RepO.ex {W:Wd} {e e':Em} {H H':Hp} (x:Ex e H e' H') {a:Addr} (k:H' a=H a):∀ {o:SO},RepO W e H a o→RepO W e' H' a o
 | .lst xs,⟨vs,h1,h2⟩=>⟨vs,by rw [k]; exact h1,h2.ex x⟩
 | .ins c fs,⟨dx,gs,j,h1,h2,hx,h3,h4⟩=>⟨dx,gs,j,by rw [k]; exact h1,h2,hx,h3.ex x,h4⟩
 | .dct kvs,⟨ks,h1,h2⟩=>⟨ks,by rw [k]; exact h1,h2.ex x⟩
 | .exn c fs,⟨dx,gs,j,h1,h2,h3,h4,h5⟩=>⟨dx,gs,j,by rw [k]; exact h1,x.g _ _ h2,h3,h4,h5.ex x⟩
theorem St0.celled {W:Wd} {e:Em} {μ:Mu} {H H':Hp} (s:St0 W e μ H) {a:Addr} {o:HO} {so:SO} (h:H a=none) (ha:H' a=some o) (hk:∀ b u,H b=some u→H' b=some u)
  (hr:∀ e',Ex e H e' H'→RepO W e' H' a so):∃ e',Ex e H e' H'∧St0 W e' (μ++[so]) H'∧e'.r μ.length=some a∧e'.G=e.G:=by
 have ra:∀ i b,e.r i=some b→b≠a:=fun i b hb z=>by
  obtain ⟨u,hu⟩:=s.rH hb
  rw [z,h] at hu; cases hu
 have x:Ex e H ⟨e.G,fun i=>if i=μ.length then some a else e.r i⟩ H':=by
  refine ⟨fun _ _ q=>q,fun i b q=>?_,fun _ _ q => .inl q,fun i b q=>?_,fun b u q _=>hk b u q,fun b u q=>⟨u,hk b u q⟩⟩
  ·show (if i=μ.length then some a else e.r i)=some b
   rw [if_neg (Nat.ne_of_lt (s.rn q))]; exact q
  ·have q:(if i=μ.length then some a else e.r i)=some b:=q
   by_cases hi:i=μ.length
   ·rw [if_pos hi] at q; cases q; exact .inr h
   ·rw [if_neg hi] at q; exact .inl q
 refine ⟨_,x,⟨fun b u q=>hk b u (s.sub b u q),fun i u q=>?_,fun i hi=>?_,fun i j b hi hj=>?_,fun i b q=>?_⟩,by simp,rfl⟩
 ·by_cases hi:i < μ.length
  ·rw [List.getElem?_append_left hi] at q
   obtain ⟨b,hb,hr⟩:=s.cell i u q
   obtain ⟨w,hw⟩:=s.rH hb
   refine ⟨b,by simp [Nat.ne_of_lt hi,hb],hr.ex x ?_⟩
   rw [hk b w hw,hw]
  ·have hi':i=μ.length:=by
    have:=(List.getElem?_eq_some_iff.mp q).1
    simp at this; omega
   subst hi'
   simp at q
   subst q
   exact ⟨a,by simp,hr _ x⟩
 ·simp at hi
  show (if i=μ.length then some a else e.r i)=none
  rw [if_neg (by omega)]; exact s.out i (by omega)
 ·have hi:(if i=μ.length then some a else e.r i)=some b:=hi
  have hj:(if j=μ.length then some a else e.r j)=some b:=hj
  by_cases h1:i=μ.length
  ·by_cases h2:j=μ.length
   ·omega
   ·rw [if_pos h1] at hi; cases hi
    rw [if_neg h2] at hj
    exact absurd rfl (ra j _ hj)
  ·by_cases h2:j=μ.length
   ·rw [if_pos h2] at hj; cases hj
    rw [if_neg h1] at hi
    exact absurd rfl (ra i _ hi)
   ·rw [if_neg h1] at hi; rw [if_neg h2] at hj
    exact s.inj i j b hi hj
 ·have q:(if i=μ.length then some a else e.r i)=some b:=q
  show e.G b=none
  by_cases h1:i=μ.length
  ·rw [if_pos h1] at q; cases q
   cases z:e.G a with
   | none=>rfl
   | some u=>rw [s.sub a u z] at h; cases h
  ·rw [if_neg h1] at q; exact s.free i b q
theorem St0.takenE {W:Wd} {e e':Em} {μ':Mu} {H H':Hp} (s:St0 W e' μ' H') (x:Ex e H e' H') {a:Addr} {vs:List V} {ds:List D} (h:H a=none) (ha:H' a=some (.lst vs)) (hr:RepL W e' ds vs) (p1:e'.G a=none) (p2:∀ j,e'.r j≠some a) :
  Ex e H ⟨e'.G,fun i=>if i=μ'.length then some a else e'.r i⟩ H'∧St0 W ⟨e'.G,fun i=>if i=μ'.length then some a else e'.r i⟩ (μ'++[.lst ds]) H'∧(⟨e'.G,fun i=>if i=μ'.length then some a else e'.r i⟩:Em).r μ'.length=some a:=by
 have r2:∀ i b,e'.r i=some b→(if i=μ'.length then some a else e'.r i)=some b:=fun i b q=>by rw [if_neg (Nat.ne_of_lt (s.rn q))]; exact q
 have mono:∀ d v,Rep W e' d v→Rep W ⟨e'.G,fun i=>if i=μ'.length then some a else e'.r i⟩ d v:=fun d v z=>Rep.mono (e:=e') (e':=⟨e'.G,fun i=>if i=μ'.length then some a else e'.r i⟩) (fun _ _ q=>q) r2 d v z
 have monoL:∀ d v,RepL W e' d v→RepL W ⟨e'.G,fun i=>if i=μ'.length then some a else e'.r i⟩ d v:=fun d v z=>RepL.mono (e:=e') (e':=⟨e'.G,fun i=>if i=μ'.length then some a else e'.r i⟩) (fun _ _ q=>q) r2 d v z
 refine ⟨⟨x.g,fun i b q=>r2 i b (x.r i b q),x.gn,fun i b q=>?_,x.keep,x.dom⟩,⟨s.sub,fun i u q=>?_,fun i hi=>?_,fun i j b hi hj=>?_,fun i b q=>?_⟩,by simp⟩
 ·have q:(if i=μ'.length then some a else e'.r i)=some b:=q
  by_cases hi:i=μ'.length
  ·rw [if_pos hi] at q; cases q; exact .inr h
  ·rw [if_neg hi] at q; exact x.rn i b q
 ·by_cases hi:i < μ'.length
  ·rw [List.getElem?_append_left hi] at q
   obtain ⟨b,hb,hr'⟩:=s.cell i u q
   refine ⟨b,by simp [Nat.ne_of_lt hi,hb],?_⟩
   cases u with
   | lst xs=>obtain ⟨ws,g1,g2⟩:=hr'; exact ⟨ws,g1,monoL _ _ g2⟩
   | ins c fs=>obtain ⟨dx,gs,j,g1,g2,gx,g3,g4⟩:=hr'; exact ⟨dx,gs,j,g1,g2,gx,⟨fun k d hk=>let ⟨z1,z2,z3,z4⟩:=g3.at_ k d hk; ⟨z1,z2,z3,mono _ _ z4⟩,g3.no⟩,g4⟩
   | dct kvs=>obtain ⟨ks,g1,g2⟩:=hr'; exact ⟨ks,g1,RepD.mono (e:=e') (e':=⟨e'.G,fun i=>if i=μ'.length then some a else e'.r i⟩) (fun _ _ q=>q) r2 g2⟩
   | exn c fs=>obtain ⟨dx,gs,j,g1,g2,gx,g4,g3⟩:=hr'; exact ⟨dx,gs,j,g1,g2,gx,g4,⟨fun k d hk=>let ⟨z1,z2,z3,z4⟩:=g3.at_ k d hk; ⟨z1,z2,z3,mono _ _ z4⟩,g3.no⟩⟩
  ·have hi':i=μ'.length:=by
    have:=(List.getElem?_eq_some_iff.mp q).1
    simp at this; omega
   subst hi'
   simp at q
   subst q
   exact ⟨a,by simp,vs,ha,monoL _ _ hr⟩
 ·simp at hi
  show (if i=μ'.length then some a else e'.r i)=none
  rw [if_neg (by omega)]; exact s.out i (by omega)
 ·have hi:(if i=μ'.length then some a else e'.r i)=some b:=hi
  have hj:(if j=μ'.length then some a else e'.r j)=some b:=hj
  by_cases h1:i=μ'.length
  ·by_cases h2:j=μ'.length
   ·omega
   ·rw [if_pos h1] at hi; cases hi
    rw [if_neg h2] at hj
    exact absurd hj (p2 j)
  ·by_cases h2:j=μ'.length
   ·rw [if_pos h2] at hj; cases hj
    rw [if_neg h1] at hi
    exact absurd hi (p2 i)
   ·rw [if_neg h1] at hi; rw [if_neg h2] at hj
    exact s.inj i j b hi hj
 ·have q:(if i=μ'.length then some a else e'.r i)=some b:=q
  show e'.G b=none
  by_cases h1:i=μ'.length
  ·rw [if_pos h1] at q; cases q; exact p1
  ·rw [if_neg h1] at q; exact s.free i b q
theorem St0.changed {W:Wd} {e:Em} {μ:Mu} {H:Hp} (s:St0 W e μ H) {i:Nat} {a:Addr} {o:HO} {so:SO} (hi:e.r i=some a)
  (hr:∀ e',Ex e H e' (upd H a o)→RepO W e' (upd H a o) a so):Ex e H e (upd H a o)∧St0 W e (μ.set i so) (upd H a o):=by
 have x:Ex e H e (upd H a o):=by
  refine ⟨fun _ _ q=>q,fun _ _ q=>q,fun _ _ q => .inl q,fun _ _ q => .inl q,fun b u q hn=>?_,fun b u q=>?_⟩
  ·rw [upd_ne (fun z=>hn i (by rw [z]; exact hi))]; exact q
  ·by_cases hb:b=a
   ·subst hb; exact ⟨o,upd_same⟩
   ·exact ⟨u,by rw [upd_ne hb]; exact q⟩
 refine ⟨x,⟨fun b u q=>?_,fun j u q=>?_,fun j hj=>s.out j (by simpa using hj),s.inj,s.free⟩⟩
 ·rw [upd_ne (fun z=>by rw [z,s.free i a hi] at q; cases q)]; exact s.sub b u q
 ·by_cases hj:j=i
  ·subst hj
   have hl:=s.rn hi
   rw [List.getElem?_set_self hl] at q
   cases q
   exact ⟨a,hi,hr e x⟩
  ·rw [List.getElem?_set_ne (Ne.symm hj)] at q
   obtain ⟨b,hb,hr'⟩:=s.cell j u q
   refine ⟨b,hb,hr'.ex x ?_⟩
   rw [upd_ne (fun z=>hj (s.inj j i a (by rw [← z]; exact hb) hi))]
end Ev
set_option maxRecDepth 100000
namespace EvH
open PySem PySem.Spec PyProof.Rows HotX
def WarmAt (A:Around) (h:Heap):Prop:=A.handled=none∨∃ x,HotAt A x h
theorem WarmAt.in1 {A:Around} {h:Heap} (w:WarmAt A h):WarmAt A.in1 h:=w
def HasCtx (h:Heap) (a:Addr):Prop:=∃ (o:Obj) (vs:Array Value),h.get? a=some o∧o.data = .fields vs∧vs[2]?=some .none
theorem WarmAt.keeps {A:Around} {h h':Heap} (w:WarmAt A h) (k:∀ b o,HasCtx h b→h.get? b=some o→h'.get? b=some o):WarmAt A h':=by
 rcases w with w | ⟨x,hh,o,vs,g,d,c⟩
 ·exact .inl w
 ·exact .inr ⟨x,hh,o,vs,k x o ⟨o,vs,g,d,c⟩ g,d,c⟩
theorem WarmAt.but {A:Around} {h h':Heap} {it:Addr} (w:WarmAt A h) (n:¬ HasCtx h it) (k:∀ b o,b≠it→h.get? b=some o→h'.get? b=some o):WarmAt A h':=
 w.keeps fun b o hb g=>k b o (fun z=>n (z▸hb)) g
theorem no_ctx {h:Heap} {a:Addr} {o:Obj} {vs:Array Value} (g:h.get? a=some o) (d:o.data = .fields vs) (z:vs[2]?≠some .none):¬ HasCtx h a:=by
 rintro ⟨o',vs',g',d',c⟩
 rw [g] at g'; cases g'
 rw [d] at d'; cases d'
 exact z c
section
variable {prog:Program} {w:World} {A:Around} {E:Value→Shared→Prop} {s:Shared}
structure Rsd (h h':Heap) (a:Addr) (oe:Obj):Prop where
 keep:∀ b o,b≠a→h.get? b=some o→h'.get? b=some o
 at_:∃ o,h'.get? a=some o∧o.cls=oe.cls
theorem raise_warm {α:Type} {a:Addr} {oe:Obj} {vs:Array Value} {Q:α→Shared→Prop} (hw:WarmAt A s.heap) (hn:A.handled≠some (.ref a)) (ha:s.heap.get? a=some oe) (da:oe.data = .fields vs) (hi:2 < vs.size)
  (hE:∀ h',Rsd s.heap h' a oe→E (.ref a) { s with heap:=h' }):wpAny (model prog w) A (raiseNew (.ref a):Sem α) Q E s:=by
 rcases hw with hh | ⟨x,hot⟩
 ·simp only [raiseNew]
  refine wpAny_bind (wpAny_handled ?_)
  rw [hh]
  exact wpAny_bind (wpAny_pure (wpAny_throw (hE s.heap ⟨fun _ _ _ e=>e,oe,ha,rfl⟩)))
 ·refine raiseNew_hot hot (fun z=>hn (by rw [hot.1,z])) ha da hi (hE _ ⟨fun b o hb e=>?_,_,Heap.get?_update_self _ ha (Obj.isFreed_of_fields (Obj.data_mapFields da _)),Obj.cls_mapFields ..⟩)
  rw [Heap.get?_update_other _ _ (Ne.symm hb)]
  exact e
theorem stop_warm {α:Type} {Q:α→Shared→Prop} (hw:WarmAt A s.heap)
  (hE:∀ h' a,(∀ b o,s.heap.get? b=some o→h'.get? b=some o)→(∃ o,h'.get? a=some o∧o.cls = .type "StopIteration")→E (.ref a) { s with heap:=h' }) :
  wpAny (model prog w) A (do let e ← newExc (.type "StopIteration") []; (raiseNew e:Sem α)) Q E s:=by
 refine wpAny_bind ?_
 simp only [newExc,newTuple]
 refine wpAny_bind (wpAny_newObj_type ?_ (by size_fits))
 refine wpAny_bind (m:=firstArgMember _ _) (wpAny_of_eq (a:=Value.none) (by first | rfl | (simp only [firstArgMember]; rfl)) ?_)
 refine wpAny_newObj_type ?_ (by size_fits)
 refine raise_warm (hw.keeps fun b o _ e=>Heap.get?_push_of_some _ (Heap.get?_push_of_some _ e)) (fun z=>?_) (Heap.get?_push_size _ rfl) rfl (by first | (simp; done) | (simp; omega) | (simp only [Array.size_append]; simp; omega)) fun h' r=>hE h' _ (fun b o e=>?_) (r.at_.imp fun _ z=>⟨z.1,z.2⟩)
 ·rcases hw with hh | ⟨x,hh,o,vs,g,d,c⟩
  ·rw [hh] at z; cases z
  ·rw [hh] at z
   have lt:=Heap.lt_size (Heap.get?_push_of_some { cls:=.type "tuple",data:=.seq [].toArray } g)
   cases z
   exact absurd lt (Nat.lt_irrefl _)
 ·have e1:=Heap.get?_push_of_some { cls:=.type "tuple",data:=.seq [].toArray } e
  exact r.keep b o (Nat.ne_of_lt (Heap.lt_size e1)) (Heap.get?_push_of_some _ e1)
theorem list_end_warm {it l:Addr} {i:Nat} {xs:Array Value} {Q:Option Value→Shared→Prop} (hw:WarmAt A s.heap) (hit:s.heap.IsListIter it l i) (hl:s.heap.IsList l xs) (hx:xs[i]?=none)
  (hQ:∀ h',(∀ b o,b≠it→s.heap.get? b=some o→h'.get? b=some o)→Q none { s with heap:=h' }):wpAny (model prog w) A (pyNext (.ref it)) Q E s:=by
 obtain ⟨o,ho,hc,hd⟩:=id hit
 obtain ⟨ol,hol,_,nl,hdl⟩:=hl
 have nc:¬ HasCtx s.heap it:=no_ctx ho hd (by simp)
 unfold pyNext
 refine wpAny_bind (wpAny_attempt (wpAny_callSpecial?_slot (name:=Str.ofString "__next__") hit.typeIs slot_listiter_next (wpAny_call_entry slot_listiter_next hit.typeIs entry_listiter_next ?_ (args_listiter_next _))))
 show wpAny _ _ (field (.ref it) 0 >>= _) _ _ s
 refine wpAny_bind (wpAny_field ho hd (x:=.ref l) rfl ?_)
 show wpAny _ _ (if (Value.ref l == Value.none)=true then _ else _) _ _ s
 rw [if_neg (show ¬ ((Value.ref l == Value.none)=true) from Bool.false_ne_true)]
 show wpAny _ _ (field (.ref it) 1 >>= _) _ _ s
 refine wpAny_bind (wpAny_field ho hd (x:=.int i 0) rfl ?_)
 show wpAny _ _ (seqItems? (.ref l) >>= _) _ _ s
 refine wpAny_bind (wpAny_seqItems hol hdl ?_)
 simp only [Int.toNat_natCast,hx]
 refine wpAny_bind (wpAny_rule (wpAny_bind (wpAny_setField ho hd (by simp) ?_)))
 have k:∀ b o',b≠it→s.heap.get? b=some o'→(s.heap.update it (Obj.mapFields (·.setIfInBounds 0 Value.none))).get? b=some o':=fun b o' hb e=>by
  rw [Heap.get?_update_other _ _ (Ne.symm hb)]; exact e
 refine stop_warm (A:=A.in1) (s:={ s with heap:=s.heap.update it (Obj.mapFields (·.setIfInBounds 0 Value.none)) }) (hw.but nc k) fun h' a kk ⟨oa,ha,hca⟩=>?_
 refine wpAny_bind (wpAny_isInstance (T:= "StopIteration") (b:=true) ⟨oa,ha,hca⟩ isSubtype_stop ?_)
 exact wpAny_pure (hQ h' fun b o' hb e=>kk b o' (k b o' hb e))
theorem tuple_end_warm {it t:Addr} {i:Nat} {xs:Array Value} {Q:Option Value→Shared→Prop} (hw:WarmAt A s.heap) (hit:s.heap.IsTupleIter it t i) (hl:s.heap.IsTuple t xs) (hx:xs[i]?=none)
  (hQ:∀ h',(∀ b o,b≠it→s.heap.get? b=some o→h'.get? b=some o)→Q none { s with heap:=h' }):wpAny (model prog w) A (pyNext (.ref it)) Q E s:=by
 obtain ⟨o,ho,hc,hd⟩:=id hit
 obtain ⟨ol,hol,_,nl,hdl⟩:=hl
 have nc:¬ HasCtx s.heap it:=no_ctx ho hd (by simp)
 unfold pyNext
 refine wpAny_bind (wpAny_attempt (wpAny_callSpecial?_slot (name:=Str.ofString "__next__") hit.typeIs F.slot_tuple_iterator_next (wpAny_call_entry F.slot_tuple_iterator_next hit.typeIs F.entry_tuple_iterator_next ?_ (F.args_tuple_iterator_next_1 _))))
 show wpAny _ _ (field (.ref it) 0 >>= _) _ _ s
 refine wpAny_bind (wpAny_field ho hd (x:=.ref t) rfl ?_)
 show wpAny _ _ (if (Value.ref t == Value.none)=true then _ else _) _ _ s
 rw [if_neg (show ¬ ((Value.ref t == Value.none)=true) from Bool.false_ne_true)]
 show wpAny _ _ (field (.ref it) 1 >>= _) _ _ s
 refine wpAny_bind (wpAny_field ho hd (x:=.int i 0) rfl ?_)
 show wpAny _ _ (seqItems? (.ref t) >>= _) _ _ s
 refine wpAny_bind (wpAny_seqItems hol hdl ?_)
 simp only [Int.toNat_natCast,hx]
 refine wpAny_bind (wpAny_rule (wpAny_bind (wpAny_setField ho hd (by simp) ?_)))
 have k:∀ b o',b≠it→s.heap.get? b=some o'→(s.heap.update it (Obj.mapFields (·.setIfInBounds 0 Value.none))).get? b=some o':=fun b o' hb e=>by
  rw [Heap.get?_update_other _ _ (Ne.symm hb)]; exact e
 refine stop_warm (A:=A.in1) (s:={ s with heap:=s.heap.update it (Obj.mapFields (·.setIfInBounds 0 Value.none)) }) (hw.but nc k) fun h' a kk ⟨oa,ha,hca⟩=>?_
 refine wpAny_bind (wpAny_isInstance (T:= "StopIteration") (b:=true) ⟨oa,ha,hca⟩ isSubtype_stop ?_)
 exact wpAny_pure (hQ h' fun b o' hb e=>kk b o' (k b o' hb e))
theorem unpack_tuple_warm {t:Addr} {xs:Array Value} {Q:List Value→Shared→Prop} (hw:WarmAt A s.heap) (ht:IsTup s.heap t xs)
  (hQ:∀ h',(∀ b o,b≠s.heap.objs.size→s.heap.get? b=some o→h'.get? b=some o)→Q xs.toList { s with heap:=h' }):wpAny (model prog w) A (unpackItems (.ref t) xs.size none) Q E s:=by
 have hlt:t≠s.heap.objs.size:=let ⟨_,ho,_⟩:=ht; Nat.ne_of_lt (Heap.lt_size ho)
 have hT:s.heap.IsTuple t xs:=ht
 unfold unpackItems notIterableAtAll
 refine wpAny_bind (wpAny_bind (wpAny_specialOf hT.typeIs slot_tuple_iter.lookup (wpAny_pure ?_)))
 rw [if_neg (by simp)]
 refine wpAny_bind (wpAny_holding (iter_tuple ht ?_))
 refine wpAny_bind (wpAny_holding (draw_tuple hlt xs.size 0 _ _ ⟨_,Heap.get?_push_size _ rfl,rfl,rfl⟩ (ht.push _) (by omega) fun h1 hit1 hs1=>?_))
 have e0:List.take xs.size (List.drop 0 xs.toList)=xs.toList:=by rw [List.drop_zero]; exact List.take_of_length_le (by simp)
 rw [e0,if_neg (by simp)]
 have k1:∀ b o,b≠s.heap.objs.size→s.heap.get? b=some o→h1.get? b=some o:=fun b o hb e=>hs1.extBut b o hb (Heap.get?_push_of_some _ e)
 have ht1:h1.IsTuple t xs:=(hT.push _).extBut hs1.extBut hlt
 have nn:¬ HasCtx s.heap s.heap.objs.size:=fun ⟨_,_,g,_⟩=>absurd (Heap.lt_size g) (Nat.lt_irrefl _)
 refine wpAny_bind (wpAny_holding (tuple_end_warm (hw.but nn k1) hit1 ht1 (by simp) fun h2 k2=>?_))
 rw [if_neg (by simp)]
 exact wpAny_pure (hQ h2 fun b o hb e=>k2 b o hb (k1 b o hb e))
theorem unpack_list_warm {l:Addr} {xs:Array Value} {Q:List Value→Shared→Prop} (hw:WarmAt A s.heap) (hl:s.heap.IsList l xs)
  (hQ:∀ h',(∀ b o,b≠s.heap.objs.size→s.heap.get? b=some o→h'.get? b=some o)→Q xs.toList { s with heap:=h' }):wpAny (model prog w) A (unpackItems (.ref l) xs.size none) Q E s:=by
 have hlt:l≠s.heap.objs.size:=let ⟨_,ho,_⟩:=hl; Nat.ne_of_lt (Heap.lt_size ho)
 unfold unpackItems notIterableAtAll
 refine wpAny_bind (wpAny_bind (wpAny_specialOf hl.typeIs slot_list_iter.lookup (wpAny_pure ?_)))
 rw [if_neg (by simp)]
 refine wpAny_bind (wpAny_holding (wpAny_pyIter_list hl ?_))
 refine wpAny_bind (wpAny_holding (PySem.W.kun_draw hlt xs.size 0 _ _ ⟨_,Heap.get?_push_size _ rfl,rfl,rfl⟩ (hl.push _) (by omega) fun h1 hit1 hs1=>?_))
 have e0:List.take xs.size (List.drop 0 xs.toList)=xs.toList:=by rw [List.drop_zero]; exact List.take_of_length_le (by simp)
 rw [e0,if_neg (by simp)]
 have k1:∀ b o,b≠s.heap.objs.size→s.heap.get? b=some o→h1.get? b=some o:=fun b o hb e=>hs1.extBut b o hb (Heap.get?_push_of_some _ e)
 have hl1:h1.IsList l xs:=(hl.push _).extBut hs1.extBut hlt
 have nn:¬ HasCtx s.heap s.heap.objs.size:=fun ⟨_,_,g,_⟩=>absurd (Heap.lt_size g) (Nat.lt_irrefl _)
 refine wpAny_bind (wpAny_holding (list_end_warm (hw.but nn k1) hit1 hl1 (by simp) fun h2 k2=>?_))
 rw [if_neg (by simp)]
 exact wpAny_pure (hQ h2 fun b o hb e=>k2 b o hb (k1 b o hb e))
end
end EvH
set_option maxRecDepth 100000
set_option maxHeartbeats 2000000
namespace EvW
open PySem PySem.Spec PyProof.Rows L2 EvH
abbrev St:=L2.St
def Warm (X:Cx):Prop:=X.calm=true∨L2H.HotC X
section
variable {X:Cx} {pins:List (Addr×Obj)} {σ:St} {H:Hp} {s:Shared}
theorem Warm.at_ (w:Warm X) (I:Inv X pins σ H s):WarmAt X.A s.heap:=by
 rcases w with c | c
 ·exact .inl (I.ok.hd c)
 ·exact .inr (c.at I)
end
section
variable {X:Cx} {pos:Pos}
theorem pg_tupW {es:List Expr} {k:Nat} {t:TGs} {n:Nat} (hc:Warm X) (h:PGs X es t) (hn:(assignEach es X.env).length=n) (hst:(assignEach es X.env).findIdx? (·.1)=none):PG X (.Tuple es k pos) (gTup X.K n t):=by
 constructor
 intro pins s σ H v u Q I r hw
 obtain ⟨a,xs,rfl,hq,hl,hw⟩:=hw
 cases r
 obtain ⟨its,rv,ht,hz⟩:=I.tuple hq
 have hsz:(assignEach es X.env).length=its.toArray.size:=by simp [hn,← hl,rv.length]
 rw [PyProof.Rows.assign_Tuple]
 unfold unpack
 rw [hsz,hst]
 refine wpAny_bind (wpAny_standAt (wpAny_bind (wpAny_holding (unpack_tuple_warm (hc.at_ I) ht fun h1 hx=>?_))))
 exact h.run pins _ σ H xs _ Q (I.kept (h':=h1) (t':=s.toks) fun b o e=>hx b o (Nat.ne_of_lt (Heap.lt_size e)) e) (by simpa using rv) hw
theorem pg_lstW {es:List Expr} {k:Nat} {t:TGs} {n:Nat} (hc:Warm X) (h:PGs X es t) (hn:(assignEach es X.env).length=n) (hst:(assignEach es X.env).findIdx? (·.1)=none):PG X (.Tuple es k pos) (gLst X.K n t):=by
 constructor
 intro pins s σ H v u Q I r hw
 obtain ⟨a,xs,rfl,hq,hl,hw⟩:=hw
 cases r
 obtain ⟨its,rv,pl,hz⟩:=I.list hq
 have hsz:(assignEach es X.env).length=its.toArray.size:=by simp [hn,← hl,rv.length]
 rw [PyProof.Rows.assign_Tuple]
 unfold unpack
 rw [hsz,hst]
 refine wpAny_bind (wpAny_standAt (wpAny_bind (wpAny_holding (unpack_list_warm (hc.at_ I) pl.isList fun h1 hx=>?_))))
 exact h.run pins _ σ H xs _ Q (I.kept (h':=h1) (t':=s.toks) fun b o e=>hx b o (Nat.ne_of_lt (Heap.lt_size e)) e) (by simpa using rv) hw
end
structure TurnW (P:Program) (w:World) (K:PySem.W.Frag) (tg:Expr) (J:It) (fp:List Addr) (it:Addr) (tn:Nat→Heap→Prop):Prop where
 mem:it∈fp
 obj:∀ i h,tn i h→∀ b∈fp,∃ o,h.get? b=some o∧∀ v,o.data ≠ .cell v
 keep:∀ i h h',tn i h→(∀ b∈fp,∀ o,h.get? b=some o→h'.get? b=some o)→tn i h'
 item:∀ (X:Cx),X.prog=P→X.w=w→X.K=K→Warm X→∀ (i:Nat) (pins:List (Addr×Obj)) (s:Shared) (σ:St) (H:Hp) (E:Value→Shared→Prop),Inv X pins σ H s→(∀ b∈fp,FpOk X pins H b)→tn i s.heap→J.go i H →
  wpAny (model P w) X.A (pyNext (.ref it)) (fun r s1=>∃ u,r=some u ∧
   wpAny (model P w) X.A (letOwnedTupleGo tg (.ref it) u) (fun _ s2=>∃ x H',Inv X pins σ H' s2∧RelV x u∧J.yld i H x H'∧tn (i+1) s2.heap∧∀ b∈fp,H' b=none) E s1) E s
 done:∀ (X:Cx),X.prog=P→X.w=w→X.K=K→Warm X→∀ (i:Nat) (pins:List (Addr×Obj)) (s:Shared) (σ:St) (H:Hp) (E:Value→Shared→Prop),Inv X pins σ H s→(∀ b∈fp,FpOk X pins H b)→tn i s.heap→J.stop i H →
  wpAny (model P w) X.A (pyNext (.ref it)) (fun r s1=>r=none∧Inv X pins σ H s1) E s
 self:∀ (A:Around) (i:Nat) (s:Shared) (Q:Value→Shared→Prop) (E:Value→Shared→Prop),tn i s.heap→Q (.ref it) s→wpAny (model P w) A (pyIter (.ref it)) Q E s
theorem one_mem {b it:Addr} (hb:b∈[it]):b=it:=by simpa using hb
theorem turn_listW {P:Program} {w:World} {K:PySem.W.Frag} {tg:Expr} (a it:Addr):TurnW P w K tg (Itl K a) [it] it (fun i h=>h.IsListIter it a i) where
 mem:=by simp
 obj:=fun i h st b hb=>by
  cases one_mem hb
  obtain ⟨o,e,c,d⟩:=st
  exact ⟨o,e,fun v z=>by rw [d] at z; cases z⟩
 keep:=fun i h h' st k=>st.at fun o e=>k it (by simp) o e
 item:=by
  rintro X rfl rfl rfl hc i pins s σ H E I hf st ⟨xs,x,hq,hx⟩
  obtain ⟨its,rv,p,hz⟩:=I.list hq
  obtain ⟨u,hu,ru⟩:=rv.get hx
  obtain ⟨f0,f1,f2,f3,f4,f5⟩:=hf it (by simp)
  refine wpAny_pyNext_list_item st p.isList (x:=u) (by simpa using hu) fun h1 st1 sb=>?_
  have I1:Inv X pins σ H { s with heap:=h1 }:=I.turned (t':=s.toks) (fun b o hb e=>(sb.2 b hb).trans e) f0 f1 f3 f4 f5
  obtain ⟨o,e,c,d⟩:=id st1
  exact ⟨u,rfl,go_of (s:={ s with heap:=h1 }) e c d (by decide) ⟨x,H,I1,ru,⟨rfl,fun ys hy=>by rw [I.list_inj hy hq]; exact hx⟩,st1,fun b hb=>(hf b hb).1⟩⟩
 done:=by
  rintro X rfl rfl rfl hc i pins s σ H E I hf st ⟨xs,hq,hx⟩
  obtain ⟨its,rv,p,hz⟩:=I.list hq
  obtain ⟨f0,f1,f2,f3,f4,f5⟩:=hf it (by simp)
  have hl:=rv.length
  exact list_end_warm (hc.at_ I) st p.isList (by simp; omega) fun h1 eb=>⟨rfl,I.turned (t':=s.toks) (fun b o hb e=>eb b o hb e) f0 f1 f3 f4 f5⟩
 self:=fun _ _ _ _ _ st h=>wpAny_pyIter_listiter st h
theorem turn_tupleW {P:Program} {w:World} {K:PySem.W.Frag} {tg:Expr} (a it:Addr):TurnW P w K tg (Itt K a) [it] it (fun i h=>h.IsTupleIter it a i) where
 mem:=by simp
 obj:=fun i h st b hb=>by
  cases one_mem hb
  obtain ⟨o,e,c,d⟩:=st
  exact ⟨o,e,fun v z=>by rw [d] at z; cases z⟩
 keep:=fun i h h' st k=>st.at fun o e=>k it (by simp) o e
 item:=by
  rintro X rfl rfl rfl hc i pins s σ H E I hf st ⟨xs,x,hq,hx⟩
  obtain ⟨its,rv,p,hz⟩:=I.tuple hq
  obtain ⟨u,hu,ru⟩:=rv.get hx
  obtain ⟨f0,f1,f2,f3,f4,f5⟩:=hf it (by simp)
  refine wpAny_pyNext_tuple_item st (show s.heap.IsTuple a its.toArray from p) (x:=u) (by simpa using hu) fun h1 st1 sb=>?_
  have I1:Inv X pins σ H { s with heap:=h1 }:=I.turned (t':=s.toks) (fun b o hb e=>(sb.2 b hb).trans e) f0 f1 f3 f4 f5
  obtain ⟨o,e,c,d⟩:=id st1
  exact ⟨u,rfl,go_of (s:={ s with heap:=h1 }) e c d (by decide) ⟨x,H,I1,ru,⟨rfl,fun ys hy=>by rw [I.tuple_inj hy hq]; exact hx⟩,st1,fun b hb=>(hf b hb).1⟩⟩
 done:=by
  rintro X rfl rfl rfl hc i pins s σ H E I hf st ⟨xs,hq,hx⟩
  obtain ⟨its,rv,p,hz⟩:=I.tuple hq
  obtain ⟨f0,f1,f2,f3,f4,f5⟩:=hf it (by simp)
  have hl:=rv.length
  exact tuple_end_warm (hc.at_ I) st (show s.heap.IsTuple a its.toArray from p) (by simp; omega) fun h1 eb=>⟨rfl,I.turned (t':=s.toks) (fun b o hb e=>eb b o hb e) f0 f1 f3 f4 f5⟩
 self:=fun _ _ _ _ _ st h=>wpAny_pyIter_tupleiter st h
end EvW
set_option maxRecDepth 100000
set_option maxHeartbeats 2000000
namespace EvW
open PySem PySem.Spec PyProof.Rows L2 EvH
def PIEW (X:Cx) (pins:List (Addr×Obj)) (σ:St) (tg:Expr) (R:It→Hp→Prop) (itv:Value) (s2:Shared):Prop:=
 ∃ (it:Addr) (fp:List Addr) (tn:Nat→Heap→Prop) (J:It) (H':Hp),itv = .ref it∧Inv X pins σ H' s2∧TurnW X.prog X.w X.K tg J fp it tn∧tn 0 s2.heap∧(∀ b∈fp,FpOk X pins H' b)∧R J H'
structure PIW (X:Cx) (tg iter:Expr) (wi:TI):Prop where
 run:∀ (pins:List (Addr×Obj)) (s:Shared) (σ:St) (H:Hp) (R:It→Hp→Prop),Inv X pins σ H s→wi σ H R →
  wpAny (model X.prog X.w) X.A (eval iter X.env) (fun v s1=>wpAny (model X.prog X.w) X.A (pyIter v) (PIEW X pins σ tg R) X.xe s1) X.xe s
section
variable {X:Cx} {tg:Expr}
theorem ps_forW {iter:Expr} {body:List Stmt} {wi:TI} {g:TG} {tb:TS} {pos:Pos} (hp:PassesOwn (model X.prog X.w) X.A X.env X.xe) (hc:Warm X) (hi:PIW X tg iter wi) (hg:PG X tg g) (hb:PSs X body tb)
  (hs:∀ x,foldedSetIterable iter X.env x=pure x):PS X (.For tg iter body [] pos) (tFor wi g tb):=by
 constructor
 intro pins s σ H D I h
 refine wpAny_For (thn (hi.run pins s σ H _ I h) fun v s1 h1=>thn h1 fun itv s2 h2=>?_) hs
 obtain ⟨it,fp,tn,J,H2,rfl,I2,T,st2,f2,W,⟨m0,w0⟩,turn⟩:=h2
 have stat:∀ {H':Hp},(∀ b∈fp,H' b=none)→∀ b∈fp,FpOk X pins H' b:=fun hn b hb=>⟨hn b hb,(f2 b hb).2⟩
 refine codeAny_forLoop_any (fun n s'=>∃ i σ' H',Inv X pins σ' H' s'∧tn i s'.heap∧(∀ b∈fp,H' b=none)∧W i n σ' H') ?_ m0 ⟨0,σ,H2,I2,st2,fun b hb=>(f2 b hb).1,w0⟩
 rintro n s3 ⟨i,σ3,H3,I3,st3,fr3,w3⟩
 rcases turn i n σ3 H3 w3 with ⟨stop,qn⟩ | ⟨go,N,hN,step⟩
 ·refine wpAny_passesOwn hp (thn (T.done X rfl rfl rfl hc i pins s3 σ3 H3 X.xe I3 (stat fr3) st3 stop) fun r s4 ⟨hr,I4⟩=>?_)
  subst hr
  exact wpAny_execs_nil ⟨σ3,H3,I4,qn⟩
 ·refine wpAny_passesOwn hp (thn (T.item X rfl rfl rfl hc i pins s3 σ3 H3 X.xe I3 (stat fr3) st3 go) fun r s4 ⟨u,hr,h4⟩=>?_)
  subst hr
  refine wpAny_passesOwn hp (thn h4 fun _ s5 ⟨x,H5,I5,r5,y5,st5,fr5⟩=>?_)
  have J5:=I5.pinned (stat fr5) (T.obj _ _ st5)
  refine wpAny_passesOwn hp (thn (hg.run _ s5 σ3 H5 x u _ J5 r5 (step x H5 y5)) fun _ s6 ⟨σ6,H6,I6,q6⟩=>?_)
  refine wpAny_passesOwn hp (thn (hb.run _ s6 σ6 H6 _ I6 q6) fun f s7 q7=>?_)
  have pin:∀ {σ7:St} {H7:Hp},Inv X (pins++pinsAt fp s5.heap) σ7 H7 s7→∀ b∈fp,∀ o,s5.heap.get? b=some o→s7.heap.get? b=some o∧H7 b=none:=fun {σ7 H7} I7 b hb o e =>
   let z:=I7.pin (b,o) (List.mem_append_right _ (List.mem_append_right _ (mem_pinsAt hb e)))
   ⟨z.1,z.2.1⟩
  have again:∀ {σ7:St} {H7:Hp},Inv X (pins++pinsAt fp s5.heap) σ7 H7 s7→N σ7 H7→∃ m,m < n∧∃ i σ' H',Inv X pins σ' H' s7∧tn i s7.heap∧(∀ b∈fp,H' b=none)∧W i m σ' H':=fun {σ7 H7} I7 n7=>by
   obtain ⟨m1,hm,w7⟩:=hN σ7 H7 n7
   refine ⟨m1,hm,i+1,σ7,H7,I7.unpinned,T.keep _ _ _ st5 fun b hb o e=>(pin I7 b hb o e).1,fun b hb=>?_,w7⟩
   obtain ⟨o,e,_⟩:=T.obj _ _ st5 b hb
   exact (pin I7 b hb o e).2
  cases f with
  | next=>exact q7.elim fun σ7 q=>q.elim fun H7 q=>again q.1 q.2
  | cont=>exact q7.elim fun σ7 q=>q.elim fun H7 q=>again q.1 q.2
  | brk=>exact q7.elim fun σ7 q=>q.elim fun H7 q=>⟨σ7,H7,q.1.unpinned,q.2⟩
  | ret v =>
   obtain ⟨x7,σ7,H7,I7,r7,q7⟩:=q7
   exact ⟨x7,σ7,H7,I7.unpinned,r7,q7⟩
end
abbrev blkW (X:Cx) (s:Shared) (H:Hp) (scope:Scope) (cenv:Env) (fp:List Addr):Cx:={ X.blk s H scope cenv fp with pn:=X.pn }
theorem Warm.blk {X:Cx} (c:Warm X) (s:Shared) (H:Hp) (scope:Scope) (cenv:Env) (fp:List Addr):Warm (blkW X s H scope cenv fp):=c
section
variable {X:Cx} {pins:List (Addr×Obj)} {σ:St} {H:Hp} {s:Shared}
theorem block_startW {scope:Scope} {own:List (Str×Nat)} {fp:List Addr} (I:Inv X pins σ H s) (ok:BlkOk X.N X.env.scope scope own) (hN:X.N.Nodup) (hfp:∀ b∈fp,FpOk X pins H b∧b < s.heap.objs.size) :
  Inv (blkW X s H scope (compEnvC scope (cellsFrom (s.heap.objs.size+1) scope.names (cloFrom X.env.cells scope.names [])) s.heap.objs.size X.env) fp) [] (wipe σ (own.map (·.2))) H { s with heap:=pushCells (s.heap.push { cls:=.type "dict",data:=.dict #[] }) scope.names }:=by
 have J:=block_start I ok hN hfp
 obtain ⟨j1,j2,j3,j4,j5,j6,j7,j8,j9,j10,j11⟩:=J
 refine ⟨⟨j1.mod,j1.kind,j1.glob,j1.blt,j1.above,j1.inj,j1.has,j1.cab,j1.hd,j1.frames,j1.stk,j1.exf,j1.bs,j1.bsz,j1.noex,j1.exfs,j1.funs,j1.frf⟩,j2,j3,j4,j5,j6,j7,j8,fun p hp=>?_,j10,j11⟩
 have hp:p∈X.pn:=by simpa using hp
 obtain ⟨p1,p2,p3,p4,p5⟩:=I.pin p (List.mem_append_left _ hp)
 refine ⟨pushCells_keeps _ _ _ _ (Heap.get?_push_of_some _ p1),p2,Nat.ne_of_lt (Heap.lt_size p1),fun z=>?_,p5⟩
 rcases List.mem_cons.mp (I.stkSub p.1 z) with z | z
 ·exact p3 z
 ·exact p4 z
end
section
variable {X:Cx}
theorem lc_coreW {pins:List (Addr×Obj)} {s:Shared} {σ:St} {H:Hp} {Q:VK} {elt tg iter:Expr} {ifs:List Expr} {scope:Scope} {own:List (Str×Nat)} {pos pos':Pos} {wi:TI} {g:TG} {tt:TT} {te:TE} {use:Option (Value→Sem Unit)} {Qf:Value→Shared→Prop}
  (hc:Warm X) (hN:X.N.Nodup) (I:Inv X pins σ H s) (hi:PIW X tg iter wi) (ok:BlkOk X.N X.env.scope scope own)
  (hg:∀ (s:Shared) (H:Hp) (C:Addr) (cl:List (Str×Addr)) (fp:List Addr),PG (blkW X s H scope (compEnvC scope cl C X.env) fp) tg g) (ht:∀ (s:Shared) (H:Hp) (C:Addr) (cl:List (Str×Addr)) (fp:List Addr),PTs (blkW X s H scope (compEnvC scope cl C X.env) fp) ifs tt)
  (he:∀ (s:Shared) (H:Hp) (C:Addr) (cl:List (Str×Addr)) (fp:List Addr),PE (blkW X s H scope (compEnvC scope cl C X.env) fp) elt te) (hs:∀ x,foldedSetIterable iter X.env x=pure x)
  (h:tLc wi g tt te (own.map (·.2)) σ H Q)
  (hRR:∀ D C s' m H',Inv X pins σ H' s'→Q (.ref D) H'→s'.heap.Ns C m→FpOk X pins H' C→compPost (model X.prog X.w) X.A X.xe use Qf (.ref D) C (.ok .next) s') :
  wpAny (model X.prog X.w) X.A (comprehension (.ListComp elt [⟨tg,iter,ifs,0⟩] scope pos) scope X.env pos' (newList []) false (eval iter X.env) use) Qf X.xe s:=by
 have hfree:∀ y∈scope.names,y.2 = .free→∃ c,X.env.cells.lookup y.1=some c:=fun y hy e=>(ok.free y hy e).elim (fun k=>I.ok.has _ (.inl k)) fun k=>I.ok.has _ (.inr k)
 refine wpAny_comprehension_free (use:=use) rfl hs (closure_ok hfree) ok.kind (fun y hy e=>by rw [ok.uniq y hy,e])
  (thn (hi.run pins s σ H _ I h) fun xv s1 hx=>thn hx fun itv s2 h2=>?_)
 obtain ⟨it,fp,tn,J,H2,rfl,I2,T,st2,f2,q⟩:=h2
 refine wpAny_newObj_type (newEnv_comp ?_) (by show 0≤sizeLine; decide)
 generalize hD:s2.heap.objs.size=D
 have hDn:H2 D=none:=I2.hok.fresh (Nat.le_of_eq hD)
 obtain ⟨W,⟨m0,w0⟩,turn⟩:=q D hDn
 generalize hs3:({ s2 with heap:=s2.heap.push { cls:=.type "list",data:=.seq ([]:List Value).toArray } }:Shared)=s3
 have h3:s3.heap=s2.heap.push { cls:=.type "list",data:=.seq ([]:List Value).toArray }:=by rw [← hs3]
 have I3:Inv X pins σ (upd H2 D (.lst [])) s3:=by
  rw [← hs3]
  refine I2.laid (t':=s2.toks) (fun b o e=>Heap.get?_push_of_some _ e) (Nat.le_of_eq hD) ⟨Nat.zero_le _,[],0,.nil,?_⟩
  rw [← hD]
  exact Heap.get?_push_size _ rfl
 have f3:∀ b∈fp,FpOk X pins (upd H2 D (.lst [])) b∧b < s3.heap.objs.size:=fun b hb=>by
  obtain ⟨o,e,_⟩:=T.obj _ _ st2 b hb
  have hlt:=Heap.lt_size e
  refine ⟨⟨?_,(f2 b hb).2⟩,by rw [h3,Heap.size_push]; exact Nat.lt_succ_of_lt hlt⟩
  rw [upd_ne (by rw [← hD]; exact Nat.ne_of_lt hlt)]
  exact (f2 b hb).1
 have st3:tn 0 s3.heap:=T.keep _ _ _ st2 fun b _ o e=>by rw [h3]; exact Heap.get?_push_of_some _ e
 have I4:=block_startW I3 ok hN f3
 have pg:=hg s3 (upd H2 D (.lst [])) s3.heap.objs.size (cellsFrom (s3.heap.objs.size+1) scope.names (cloFrom X.env.cells scope.names [])) fp
 have pt:=ht s3 (upd H2 D (.lst [])) s3.heap.objs.size (cellsFrom (s3.heap.objs.size+1) scope.names (cloFrom X.env.cells scope.names [])) fp
 have pe:=he s3 (upd H2 D (.lst [])) s3.heap.objs.size (cellsFrom (s3.heap.objs.size+1) scope.names (cloFrom X.env.cells scope.names [])) fp
 show codeAny _ _ (.compStart (.ListComp elt [⟨tg,iter,ifs,0⟩] scope pos) 0 (.ref it) (.ref D) (compEnvC scope (cellsFrom (s3.heap.objs.size+1) scope.names (cloFrom X.env.cells scope.names [])) s3.heap.objs.size X.env)) (compPost (model X.prog X.w) X.A X.xe use Qf (.ref D) s3.heap.objs.size) { s3 with heap:=pushCells (s3.heap.push { cls:=.type "dict",data:=.dict #[] }) scope.names }
 have nfp:∀ b∈fp,(upd H2 D (.lst [])) b=none:=fun b hb=>(f3 b hb).1.1
 generalize hce:compEnvC scope (cellsFrom (s3.heap.objs.size+1) scope.names (cloFrom X.env.cells scope.names [])) s3.heap.objs.size X.env=ce at I4 pg pt pe ⊢
 have cL:ce.locals=s3.heap.objs.size:=by subst hce; rfl
 generalize hH3:upd H2 D (.lst [])=H3 at I3 I4 pg pt pe w0 nfp f3
 generalize hs4:({ s3 with heap:=pushCells (s3.heap.push { cls:=.type "dict",data:=.dict #[] }) scope.names }:Shared)=s4 at I4 ⊢
 have st4:tn 0 s4.heap:=T.keep _ _ _ st3 fun b _ o e=>by rw [← hs4]; exact pushCells_keeps _ _ _ _ (Heap.get?_push_of_some _ e)
 have npn:∀ b∈fp,∀ p∈X.pn++([]:List (Addr×Obj)),p.1≠b:=fun b hb p hp=>(f3 b hb).1.2.2.2.2.2 p (List.mem_append_left _ (by simpa using hp))
 have stat:∀ {σ':St} {H':Hp} {s':Shared},Inv (blkW X s3 H3 scope ce fp) [] σ' H' s'→(∀ b∈fp,H' b=none)→∀ b∈fp,FpOk (blkW X s3 H3 scope ce fp) [] H' b:=fun {σ' H' s'} I' hn b hb =>
  ⟨hn b hb,(I'.ok.exf b hb).1,I'.ok.exfs b hb,.inl hb,fun x c e=>(I'.ok.exf b hb).2 x c e,npn b hb⟩
 have hcB:Warm (blkW X s3 H3 scope ce fp):=hc.blk ..
 have loop:codeAny (model X.prog X.w) X.A (.compLoop (.ListComp elt [⟨tg,iter,ifs,0⟩] scope pos) 0 (.ref it) (.ref D) ce) (compPost (model X.prog X.w) X.A X.xe use Qf (.ref D) s3.heap.objs.size) s4:=by
  refine compLoop_any (fun n s'=>∃ i H',Inv (blkW X s3 H3 scope ce fp) [] (wipe σ (own.map (·.2))) H' s'∧tn i s'.heap∧(∀ b∈fp,H' b=none)∧W i n H') ?_ m0 ⟨0,H3,I4,st4,nfp,w0⟩
  rintro n s5 ⟨i,H5,I5,st5,n5,w5⟩
  rcases turn i n H5 w5 with ⟨stop,qq⟩ | ⟨go,Nx,hNx,step⟩
  ·refine thnF (T.done (blkW X s3 H3 scope ce fp) rfl rfl rfl hcB i [] s5 _ H5 (fun _ _=>False) I5 (stat I5 n5) st5 stop) fun r s6 ⟨hr,I6⟩=>?_
   subst hr
   have I7:Inv X pins σ H5 s6:=I3.call' (ch:=fp) I6.os I6.base I6.hok I6.bare fun b hb=>⟨(f3 b hb).1.2.2.2.1,(f3 b hb).1.2.1,(f3 b hb).1.2.2.2.2.1,(f3 b hb).1.2.2.2.2.2⟩
   have nC:H5 s3.heap.objs.size=none:=by
    rw [← cL]
    exact I6.free
   obtain ⟨m,hn,_⟩:=I6.loc
   have hn:s6.heap.Ns ce.locals m:=hn
   rw [cL] at hn
   exact hRR D s3.heap.objs.size s6 m H5 I7 qq hn (I3.fpOk (Nat.le_refl _) nC)
  ·refine thnF (T.item (blkW X s3 H3 scope ce fp) rfl rfl rfl hcB i [] s5 _ H5 (fun _ _=>False) I5 (stat I5 n5) st5 go) fun r s6 ⟨u,hr,h6⟩=>?_
   subst hr
   refine thnF h6 fun _ s7 ⟨x,H7,I7,r7,y7,st7,n7⟩=>?_
   have J7:=I7.pinned (stat I7 n7) (T.obj _ _ st7)
   refine thnF (pg.run _ s7 _ H7 x u _ J7 r7 (step x H7 y7)) fun _ s8 ⟨σ8,H8,I8,hw8,q8⟩=>?_
   refine thnF (pt.run _ s8 σ8 H8 _ I8 q8) fun b s9 ⟨H9,I9,q9⟩=>?_
   have fin:∀ {s':Shared} {H':Hp},Inv (blkW X s3 H3 scope ce fp) ([]++pinsAt fp s7.heap) σ8 H' s'→Nx H'→∃ m,m < n∧∃ i H',Inv (blkW X s3 H3 scope ce fp) [] (wipe σ (own.map (·.2))) H' s'∧tn i s'.heap∧(∀ b∈fp,H' b=none)∧W i m H':=fun {s' H'} I' nx=>by
    obtain ⟨m1,hm,w1⟩:=hNx H' nx
    have pin:∀ b∈fp,∀ o,s7.heap.get? b=some o→s'.heap.get? b=some o∧H' b=none:=fun b hb o e =>
     let z:=I'.pin (b,o) (List.mem_append_right _ (List.mem_append_right _ (mem_pinsAt hb e)))
     ⟨z.1,z.2.1⟩
    have hl:(wipe σ (own.map (·.2))).length=σ8.length:=by rw [← hw8,wipe_length]
    refine ⟨m1,hm,i+1,H',(I'.unpinned (pins:=[])).weak hl (fun j v e=>by rw [← hw8] at e; exact (wipe_some e).1),T.keep _ _ _ st7 fun b hb o e=>(pin b hb o e).1,fun b hb=>?_,w1⟩
    obtain ⟨o,e,_⟩:=T.obj _ _ st7 b hb
    exact (pin b hb o e).2
   cases b with
   | false =>
    simp only [Bool.false_eq_true,if_false] at q9 ⊢
    exact fin I9 q9
   | true =>
    simp only [if_true] at q9 ⊢
    refine thnF (pe.run _ s9 σ8 H9 _ I9 q9) fun z s10 ⟨yv,H10,I10,r10,acc,hD10,hz10,nx⟩=>?_
    exact app_ok (X:=blkW X s3 H3 scope ce fp) I10 hD10 hz10 r10 fun s11 I11=>fin I11 nx
 exact codeAny_compStart_list loop (T.self X.A 0 _ _ _ st4 loop)
theorem pe_lcW {elt tg iter:Expr} {ifs:List Expr} {scope:Scope} {own:List (Str×Nat)} {pos:Pos} {wi:TI} {g:TG} {tt:TT} {te:TE} (hc:Warm X) (hN:X.N.Nodup) (hi:PIW X tg iter wi) (ok:BlkOk X.N X.env.scope scope own)
  (hg:∀ (s:Shared) (H:Hp) (C:Addr) (cl:List (Str×Addr)) (fp:List Addr),PG (blkW X s H scope (compEnvC scope cl C X.env) fp) tg g) (ht:∀ (s:Shared) (H:Hp) (C:Addr) (cl:List (Str×Addr)) (fp:List Addr),PTs (blkW X s H scope (compEnvC scope cl C X.env) fp) ifs tt)
  (he:∀ (s:Shared) (H:Hp) (C:Addr) (cl:List (Str×Addr)) (fp:List Addr),PE (blkW X s H scope (compEnvC scope cl C X.env) fp) elt te) (hs:∀ x,foldedSetIterable iter X.env x=pure x) :
  PE X (.ListComp elt [⟨tg,iter,ifs,0⟩] scope pos) (tLc wi g tt te (own.map (·.2))):=by
 constructor
 intro pins s σ H Q I h
 rw [eval_ListComp]
 refine lc_coreW hc hN I hi ok hg ht he hs h fun D C s1 m H1 I1 q hn ⟨f0,f1,f2,f3,f4,f5⟩=>⟨m,hn,fun h2 sb=>?_⟩
 exact ⟨.ref D,H1,I1.turned (t':=s1.toks) (fun b o hb e=>(sb.2 b hb).trans e) f0 f1 f3 f4 f5,rfl,q⟩
theorem ps_setLcW {i:Nat} {y:Str} {py:Pos} {elt tg iter:Expr} {ifs:List Expr} {scope:Scope} {own:List (Str×Nat)} {pos spos:Pos} {wi:TI} {g:TG} {tt:TT} {te:TE} (hc:Warm X) (hN:X.N.Nodup) (hy:X.N[i]?=some y) (hyl:X.env.scope.names.lookup y=some .local)
  (hsw:swapsWith (.ListComp elt [⟨tg,iter,ifs,0⟩] scope pos) (some (.Name y py)) spos.line X.env=pure true) (hi:PIW X tg iter wi) (ok:BlkOk X.N X.env.scope scope own)
  (hg:∀ (s:Shared) (H:Hp) (C:Addr) (cl:List (Str×Addr)) (fp:List Addr),PG (blkW X s H scope (compEnvC scope cl C X.env) fp) tg g) (ht:∀ (s:Shared) (H:Hp) (C:Addr) (cl:List (Str×Addr)) (fp:List Addr),PTs (blkW X s H scope (compEnvC scope cl C X.env) fp) ifs tt)
  (he:∀ (s:Shared) (H:Hp) (C:Addr) (cl:List (Str×Addr)) (fp:List Addr),PE (blkW X s H scope (compEnvC scope cl C X.env) fp) elt te) (hs:∀ x,foldedSetIterable iter X.env x=pure x) :
  PS X (.Assign [.Name y py] (.ListComp elt [⟨tg,iter,ifs,0⟩] scope pos) spos) (tAsg (tLc wi g tt te (own.map (·.2))) (gName i)):=by
 constructor
 intro pins s σ H D I h
 rw [exec_Assign_Name_used _ _ _ _ hsw]
 refine wpAny_bind (wpAny_standAt (wpAny_bind ?_))
 show wpAny _ X.A (comprehension (.ListComp elt [⟨tg,iter,ifs,0⟩] scope pos) scope X.env (firstIterPos [⟨tg,iter,ifs,0⟩] pos) (newList []) false (eval iter X.env) (some (assign (.Name y py) X.env)) >>= fun _=>pure _) _ _ s
 have h:tLc wi g tt te (own.map (·.2)) σ H (fun x H1=>gName i x σ H1 D.nx):=h
 refine wpAny_bind (thn (lc_coreW (Qf:=fun _ s1=>SP X pins D .next s1) hc hN I hi ok hg ht he hs h fun L C s1 m H1 I1 q hn ⟨f0,f1,f2,f3,f4,f5⟩=>?_) fun _ s1 hq=>wpAny_pure (wpAny_pure hq))
 show wpAny _ _ (assign (.Name y py) X.env (.ref L)) _ _ _
 refine wpAny_assign_Name (store_ok2 (v:=V.ref L) I1 hN hy (.inl hyl) rfl (fun s2 I2 ⟨a,sb,ha⟩=>?_) (.inr hyl))
 have haC:C≠a:=ha.elim (fun z=>by rw [z]; exact f1) fun z e=>f4 y a z e.symm
 exact ⟨m,hn.sameBut sb haC,fun h3 sb3=>⟨_,H1,I2.turned (t':=s2.toks) (fun b o hb e=>(sb3.2 b hb).trans e) f0 f1 f3 f4 f5,q⟩⟩
end
end EvW
set_option maxRecDepth 100000
set_option maxHeartbeats 2000000
namespace EvW
open PySem PySem.Spec PyProof.Rows L2 EvH HotX
section
variable {prog:Program} {w:World} {A:Around} {E:Value→Shared→Prop} {s:Shared}
end
section
variable {X:Cx}
end
end EvW
set_option maxRecDepth 100000
set_option maxHeartbeats 2000000
namespace EvT
open PySem PySem.Spec PyProof.Rows L2
theorem Bk.base:∀ b:Bk,ExcBaseFacts b.name b.newId b.initId b.tail
 | .ve=>F.excBase_ValueError
 | .ae=>F.excBase_ArithmeticError
 | .le=>F.excBase_LookupError
theorem Bk.store:∀ b:Bk,StoreFacts b.name b.tail "object.__setattr__" "object"
 | .ve=>F.store_ValueError
 | .ae=>F.store_ArithmeticError
 | .le=>F.store_LookupError
theorem Bk.typ:∀ b:Bk,typeOf (.type b.name)=pure (.type "type")
 | .ve=>by kernel_rfl
 | .ae=>by kernel_rfl
 | .le=>by kernel_rfl
theorem Bk.stub:∀ b:Bk,Manifest.isStub b.name=false
 | .ve=>by decide +kernel
 | .ae=>by decide +kernel
 | .le=>by decide +kernel
theorem Bk.handed:∀ b:Bk,PySem.W.handedIn (.builtin b.initId)=true
 | .ve=>by decide +kernel
 | .ae=>by decide +kernel
 | .le=>by decide +kernel
theorem Bk.boot:∀ b:Bk,bootBuiltins (Str.ofString b.name)=some (.type b.name)
 | .ve=>PyProof.Rows.Boot.«ValueError»
 | .ae=>PyProof.Rows.Boot.«ArithmeticError»
 | .le=>PyProof.Rows.Boot.«LookupError»
theorem off_cases:∀ l:List Value,(∃ c r,l = .ref c::r∧off l=off r)∨off l=l
 | .ref c::r => .inl ⟨c,r,rfl,rfl⟩
 | [] => .inr rfl
 | .none::_ => .inr rfl
 | .ellipsis::_ => .inr rfl
 | .notImplemented::_ => .inr rfl
 | .bool _::_ => .inr rfl
 | .int _ _::_ => .inr rfl
 | .float _ _::_ => .inr rfl
 | .str _ _::_ => .inr rfl
 | .bytes _ _::_ => .inr rfl
 | .type _::_ => .inr rfl
 | .builtin _::_ => .inr rfl
theorem off_has (Y:String):∀ l:List Value,l.contains (.type Y)=(off l).contains (.type Y):=by
  intro l
  induction l with
  | nil=>rfl
  | cons a r ih =>
   rcases off_cases (a::r) with ⟨c,r',e,h⟩ | h
   ·obtain ⟨rfl,rfl⟩:=List.cons.inj e
    rw [h,← ih,List.contains_cons]; rfl
   ·rw [h]
theorem off_refuse (self:Value) (m:Str):∀ l:List Value,refuseLoop self m l=refuseLoop self m (off l):=by
  intro l
  induction l with
  | nil=>rfl
  | cons a r ih =>
   rcases off_cases (a::r) with ⟨c,r',e,h⟩ | h
   ·obtain ⟨rfl,rfl⟩:=List.cons.inj e
    rw [h,← ih,refuseLoop_ref]
   ·rw [h]
theorem off_ne {l:List Value} (h:off l≠[]):l.isEmpty=false:=by
 cases l with
 | nil=>exact absurd rfl h
 | cons _ _=>rfl
theorem tail_ne (b:Bk):b.tail≠[]:=by unfold Bk.tail; simp
structure ExT (K:PySem.W.Frag) (C:Addr) (b:Bk):Prop where
 cls:∃ nm q N bs bm sn sub ab col dd k0 k1 k2 k3 k5,K.lookup C=some (excClassObj nm q C N bs bm true sn sub ab col dd k0 k1 k2 k3 k5 b.newId)∧off bm=b.tail
 sa:PySem.W.findIn K (.ref C) "__setattr__" = some (some (.builtin "object.__setattr__"))
 exC:PySem.W.subIn K (.ref C) (.type "BaseException")=some true
 tyC:PySem.W.typeIn K (.ref C)=some (.type "type")
 kC:PySem.W.keepIn K (.ref C)=true
section
variable {prog:Program} {w:World} {A:Around} {R:Result→Shared→Prop} {hp:Heap} {g:Array GenState} {d:Drawn} {t:Nat} {os:OsState}
open Builtin Builtin.ObjectAttr
theorem osa_first {b:Bk} {K:PySem.W.Frag} {name:Str} {tk:Tok} {v:Value} {x C:Addr} {fv:Array Value} {cd:ClassData} (KX:K.In hp) (hx:hp.get? x=some { cls:=.ref C,data:=.fields fv }) (hcd:PySem.W.clsIn K C=some cd)
  (hm:off cd.mro=b.tail) (hh:cd.hasDict=true) (ha:PySem.W.findIn K (.ref C) name=some none)
  (hq:∀ h' tk' dx,(∀ c o,c≠x→hp.get? c=some o→h'.get? c=some o)→hp.objs.size≤dx→dx≠x→h'.get? x=some { cls:=.ref C,dict:=some dx,data:=.fields fv } →
   h'.Ns1 dx (fun y=>if y=name then some v else none)→R (.ok (.ret .none)) ⟨h',g,d,tk',os⟩) :
  codeAny (model prog w) A (.call (.builtin "object.__setattr__") ⟨[.ref x,.str name tk,v],[]⟩) R ⟨hp,g,d,t,os⟩:=by
 have J:PySem.W.InstAt hp x { cls:=.ref C,data:=.fields fv } C none:=⟨hx,rfl,rfl,trivial⟩
 have SF:=F.store_object
 have ne:cd.mro.isEmpty=false:=off_ne (by rw [hm]; exact tail_ne b)
 have hob:cd.mro.contains (.type "object")=true:=by rw [off_has,hm]; cases b <;> decide +kernel
 have hxs:x≠hp.objs.size:=Nat.ne_of_lt (Heap.lt_size hx)
 have sub:PySem.W.Looks (model prog w) hp (isInstance (.ref x) (.type "object")) true:=J.type.andThen (PySem.W.looks_mroIn KX (by unfold PySem.W.mroIn; rw [hcd,Option.bind_some,if_neg (by rw [ne]; decide),hob]))
 refine codeAny_call_builtin SF.slot.plain SF.entry (@PySem.W.check_slot (model prog w) _ _ ⟨hp,g,d,t,os⟩ "object.__setattr__" "object" "__setattr__" (.ref x) [.str name tk,v] [] _ SF.kind SF.split sub (SF.args (.ref x) (.str name tk) v) ?_)
 have mr:PySem.W.Looks (model prog w) hp (mroOf (.ref C)) cd.mro:=(PySem.W.looks_clsIn KX hcd).andThen .now
 have tkr:PySem.W.Looks (model prog w) hp (storeTaker? none) none:=.now
 have hcls:PySem.W.Looks (model prog w) hp (classData C) cd:=PySem.W.looks_clsIn KX hcd
 rw [PySem.W.osa_eq,refuse_eq]
 refine wpAny_bind (wpAny_bind (J.type.at (wpAny_bind (mr.at ?_))))
 rw [off_refuse,hm,b.store.passes]
 refine wpAny_pure (wpAny_bind (J.type.at (wpAny_bind ((PySem.W.looks_findIn KX ha).at (wpAny_bind (tkr.at ?_))))))
 show wpAny _ _ (storeInOwnDict (.ref x) (.ref C) (.str name tk) name v false) _ _ _
 obtain ⟨nm,bs,mro,ns,qn,hd,sn,sb,ab,col,del⟩:=cd
 dsimp only at hh
 subst hh
 unfold storeInOwnDict ownDictForStores
 repeat (first | with_reducible refine HandSPX.store_in_new ?_ ?_ | with_reducible refine wpAny_loadPart_at hx ?_ | with_reducible refine hcls.at ?_ | wp_step)
 ·exact ⟨_,#[],_,(Heap.get?_update_ne _ _ _ _ hxs.symm).trans (Heap.get?_push_at rfl rfl),rfl,fun e he=>absurd he (by simp),fun _=>rfl⟩
 ·intro h2 tk2 hn hs
  have hx1:(hp.push { cls:=.type "dict",data:=.dict #[] }).get? x=some { cls:=.ref C,data:=.fields fv }:=Heap.get?_push_of_some _ hx
  exact hq h2 tk2 hp.objs.size (fun c o hc ho=>(hs.2 c (Nat.ne_of_lt (Heap.lt_size ho))).trans ((Heap.get?_update_ne _ _ _ _ hc).trans (Heap.get?_push_of_some _ ho))) (Nat.le_refl _) hxs.symm ((hs.2 x hxs).trans (Heap.get?_update_self _ hx1 rfl)) hn
end
section
variable {X:Cx} {pins:List (Addr×Obj)} {σ:L2.St} {H:Hp} {s:Shared} {a C dx:Addr} {f:Str} {y:V} {u:Value} {b:Bk} {Q:Unit→Shared→Prop} {E:Value→Shared→Prop} {A:Around}
theorem put_first (T:ExT X.K C b) (I:Inv X pins σ H s) (e:H a=some (exo a C none)) (hno:PySem.W.findIn X.K (.ref C) f=some none) (ry:RelV y u)
  (h:∀ dx s',H dx=none→dx≠a→Inv X pins σ (upd (upd H dx (exd dx [(f,y)])) a (exo a C (some dx))) s'→Q () s'):wpAny (model X.prog X.w) A (setAttr (.ref a) f u) Q E s:=by
 obtain ⟨nm,q,N,bs,bm,sn,sub,ab,col,dd,k0,k1,k2,k3,k5,hC,hbm⟩:=T.cls
 have hcl:PySem.W.clsIn X.K C=some { name:=nm,bases:=bs,mro:=.ref C::bm,ns:=N,qualname:=q,hasDict:=true,slotNames:=sn,subclasses:=sub,abstract:=ab,collection:=col,hasDel:=false }:=by unfold PySem.W.clsIn; rw [hC] <;> rfl
 obtain ⟨t1,ho⟩:=exo_at I.hok e
 obtain ⟨hp,g,d,t,os⟩:=s
 refine PySem.W.set_plain I.kIn (ox:={ cls:=.ref C,dict:=none,data:=.fields #[.ref t1,.none,.none,.none,.bool false,.none] }) (od:=none) ⟨ho,rfl,rfl,trivial⟩ T.sa ?_
 refine osa_first (b:=b) I.kIn ho hcl (show off (.ref C::bm)=b.tail from hbm) rfl hno (fun h1 tk dx k dn dne hx hn=>?_)
 have hnd:H dx=none:=I.hok.fresh dn
 have nd:∀ {c:Addr} {o:Obj},hp.get? c=some o→c≠dx:=fun {c o} q=>Nat.ne_of_lt (Nat.lt_of_lt_of_le (Heap.lt_size q) dn)
 have na:∀ {c:Addr},H c=none→c≠a:=fun {c} n z=>by
  rw [z,e] at n
  cases n
 have U:Un X.fs [] H (upd (upd H dx (exd dx [(f,y)])) a (exo a C (some dx))) hp h1:={
  keep:=fun c o q n _ _=>k c o (na n) q
  slot:=fun c o q n _ _=>⟨o.slots,k c o (na n) q⟩
  free:=fun c o q n _=>by rw [upd_ne (na n),upd_ne (nd q)]; exact n
  there:=fun c o q _=>by
   by_cases hb:c=a
   ·exact ⟨_,by rw [hb]; exact hx⟩
   ·exact ⟨o,k c o hb q⟩
  tups:=fun c xs q=>by rw [upd_ne (at_ne e q exo_tup),upd_ne (ne_of_none q hnd)]; exact q
  frzs:=fun c o v q=>by rw [upd_ne (at_ne e q exo_frz),upd_ne (ne_of_none q hnd)]; exact q
  tbls:=fun c ps q=>⟨#[],by rw [upd_ne (at_ne e q exo_tbl),upd_ne (ne_of_none q hnd),q]; simp⟩ }
 refine h dx _ hnd dne (I.un (t':=tk) U fun c o q=>?_)
 by_cases hb:c=a
 ·subst hb
  rw [upd_same] at q
  cases q
  exact exo_ok hx
 rw [upd_ne hb] at q
 by_cases hd:c=dx
 ·subst hd
  rw [upd_same] at q
  cases q
  exact exd_ok hn (relO_put (fs:=[]) ry fun g=>True.intro)
 rw [upd_ne hd] at q
 exact (I.hok c o q).stay (fun c' v hc z=>k c' v (hc.elim (fun hc=>by rw [hc]; exact hb) fun hc=>at_ne e hc exo_own) z)
  (fun c' hc=>by rw [upd_ne (at_ne e hc exo_own),upd_ne (ne_of_none hc hnd)]; exact hc) (fun c' xs hc=>by rw [upd_ne (at_ne e hc exo_tup),upd_ne (ne_of_none hc hnd)]; exact hc)
theorem init_run {us:List Value} {Q:Value→Shared→Prop} (T:ExT X.K C b) (I:Inv X pins σ H s) (e:H a=some (exo a C none)) (hl:us.length≤sizeLine) (h:∀ s',Inv X pins σ H s'→Q .none s') :
  wpAny (model X.prog X.w) A (call (.builtin b.initId) (.ref a::us)) Q E s:=by
 obtain ⟨nm,q,N,bs,bm,sn,sub,ab,col,dd,k0,k1,k2,k3,k5,hC,hbm⟩:=T.cls
 obtain ⟨t1,ho⟩:=exo_at I.hok e
 obtain ⟨hp,g,d,t,os⟩:=s
 refine wpAny_call (PySem.HandSPX.init_base b.base (fun Y=>by rw [off_has,hbm]) (I.kIn _ _ hC) ho hl fun h1 t2 k hx=>?_)
 have J:=I.write (t':=t) (x:=a) (e:=a) (o:=exo a C none) (by rw [e]; exact True.intro) (.inl rfl) k ⟨_,hx⟩ (exo_ok hx)
 have eu:upd H a (exo a C none)=H:=funext fun c=>by
  by_cases hb:c=a
  ·rw [hb,upd_same,e]
  ·rw [upd_ne hb]
 rw [eu] at J
 exact h _ J
end
def BaseN (K:PySem.W.Frag) (mg:Str→Option Value) (b:Bk) (x:Str):Prop:=
 (x=Str.ofString b.name∧mg x=none∧PySem.W.findCls K (.type b.name) (.type "type") "__init__" = some (.val (.builtin b.initId))) ∨
 ∃ S:Addr,mg x=some (.ref S)∧PySem.W.readsIn K S (.type "type")=true∧PySem.W.specialIn K (.ref S) "__getattribute__" = some (some (.builtin "type.__getattribute__"))∧PySem.W.findCls K (.ref S) (.type "type") "__init__" = some (.val (.builtin b.initId))
def tBi (K:PySem.W.Frag) (b:Bk) (ta:TA):TE:=fun σ H Q=>ta σ H fun vs H1=>∃ (a C:Addr) (ws:List V),vs = .ref a::ws∧ws.length≤1000∧ExT K C b∧H1 a=some (exo a C none)∧Q .non H1
section
variable {X:Cx} {o e:Expr} {es:List Expr} {to te:TE} {ta:TA} {f x:Str} {p p' p1 p2 pos:Pos} {b:Bk}
theorem pe_binit {pl:Sem Bool} (hg:Gl X x) (hdb:(x == ("__debug__" : Str))=false) (hB:BaseN X.K X.mg b x) (ha:PA X (e::es) ta)
  (hc:eval (.Call (.Attribute (.Name x p1) "__init__" p2) (e::es) [] pos) X.env=(do
   let ov ← eval (.Name x p1) X.env
   standAt p2.atName
   let (f,first) ← holding [ov] (getMethod ov "__init__" pl)
   callWith pos f first (backTo pos (starEach (e::es) X.env)) (backToKw pos (keywordEach [] X.env))))
  (he:starEach (e::es) X.env=(false,eval e X.env)::starEach es X.env) (hpl:(backTo pos (starEach es X.env)).any (·.1)=false) :
  PE X (.Call (.Attribute (.Name x p1) "__init__" p2) (e::es) [] pos) (tBi X.K b ta):=by
 constructor
 intro pins s σ H Q I h
 have go:∀ s0:Shared,Inv X pins σ H s0→wpAny (model X.prog X.w) X.A (callWith pos (Value.builtin b.initId) [] (backTo pos (starEach (e::es) X.env)) []) (EP X pins σ Q) X.xe s0:=fun s0 I0=>by
  refine PyProof.Rows.callWith_method1 (thn (ha.run pos pins _ σ H _ I0 h) fun us s1 ⟨vs,H1,I1,r1,a,C,ws,ev,hl,T,ea,q⟩=>?_) he hpl
  subst ev
  cases r1 with
  | @cons _ u0 _ ur ra rw' =>
   obtain rfl:u0=Value.ref a:=ra
   exact init_run T I1 ea (by rw [← Paired.length rw',sizeLine_eq]; omega) fun s2 J=>⟨.non,H1,J,rfl,q⟩
 rcases hB with ⟨rfl,hm,hv⟩ | ⟨S,hm,hr,hga,hv⟩
 ·refine PySem.W.methodCall_KW (ld_blt I hg hm b.boot ?_ (by cases b <;> decide) hdb) hc
  obtain ⟨m,fr⟩:=I.fr
  refine PySem.W.method_type fr I.ok.mod.kin b.typ b.stub hv b.handed ?_
  exact go _ (I.tok _)
 ·refine PySem.W.methodCall_KW (ld_glob I hg hm ?_ hdb) hc
  refine PySem.W.method_cls I.kIn hga (PySem.W.cls_value I.kIn hr hv b.handed ?_)
  exact go _ (I.tok _)
def tPut (K:PySem.W.Frag) (b:Bk) (f:Str) (to te:TE):TS:=fun D σ H=>te σ H fun y H1=>to σ H1 fun x H2=>∃ a C:Addr,x = .ref a∧ExT K C b∧PySem.W.findIn K (.ref C) f=some none ∧
 H2 a=some (exo a C none)∧∀ dx,H2 dx=none→dx≠a→D.nx σ (upd (upd H2 dx (exd dx [(f,y)])) a (exo a C (some dx)))
theorem ps_put (ho:PE X o to) (he:PE X e te) (hs:swapsWith e (some (.Attribute o f p')) pos.line X.env=pure false):PS X (.Assign [.Attribute o f p'] e pos) (tPut X.K b f to te):=by
 constructor
 intro pins s σ H D I h
 refine plainObj_wpAny_Assign_Attribute (thn (he.run pins s σ H _ I h) fun v s1 ⟨y,H1,I1,r1,q1⟩=>thn (ho.run pins s1 σ H1 _ I1 q1) fun u s2 ⟨x,H2,I2,r2,a,C,ex,T,hno,ea,q⟩=>?_) hs
 subst ex
 obtain rfl:u=Value.ref a:=r2
 exact put_first T I2 ea hno r1 fun dx s3 n ne J=>⟨σ,_,J,q dx n ne⟩
end
end EvT
set_option maxRecDepth 100000
set_option maxHeartbeats 2000000
namespace EvB
open PySem PySem.Spec PySem.Calls PyProof.Rows
section
variable {prog:Program} {w:World} {A:Around} {E:Value→Shared→Prop} {s:Shared} {K:PySem.W.Frag} {x C f L:Addr} {ox:Obj} {od:Option Obj} {h₀:Heap} {m:Str→Option Value}
end
section
variable {M:Model} {A:Around} {E:Value→Shared→Prop} {s:Shared} {Q:Value→Shared→Prop}
theorem is_bool {a b:Bool} (h:Q (.bool (decide (a=b))) s):wpAny M A (compareOp .Is (.bool a) (.bool b)) Q E s:=by
 have e:(Value.bool a == Value.bool b)=decide (a=b):=by cases a <;> cases b <;> rfl
 exact wpAny_pure (by rw [e]; exact h)
theorem isnot_bool {a b:Bool} (h:Q (.bool (!decide (a=b))) s):wpAny M A (compareOp .IsNot (.bool a) (.bool b)) Q E s:=by
 have e:(Value.bool a == Value.bool b)=decide (a=b):=by cases a <;> cases b <;> rfl
 exact wpAny_pure (by rw [e]; exact h)
end
end EvB
set_option maxRecDepth 100000
namespace Ev
open PySem PySem.Spec PyProof.Rows L2
structure ClsF (W:Wd) (c:Nat) (i:ClI):Prop where
 cls:Cls W.K (W.ca c)
 no:∀ k∈i.flds,NoAttr W.K (W.ca c) (an W.T k)
 fi:∀ k∈i.flds,∀ k'∈i.flds,an W.T k=an W.T k'→k=k'
 meth:∀ (m f:Nat),i.meths.lookup m=some f→∃ j,W.T.fns[f]?=some j∧Meth W.K (W.ca c) (an W.T m) (fadr W.K W.T j.loc)∧∀ k∈i.flds,an W.T k≠an W.T m
 prop:∀ (k f:Nat),i.props.lookup k=some f→∃ j p,W.T.fns[f]?=some j∧PropOf W.K (W.ca c) (an W.T k) p (fadr W.K W.T j.loc)
 first:PySem.W.selfFirst W.K (W.ca c)=true
 ne:i.meths.lookup 6≠none→PySem.W.findIn W.K (.ref (W.ca c)) "__ne__" = some (some (.builtin "object.__ne__"))
 top:PySem.W.subIn W.K (.ref (W.ca c)) (.type "object")=some true
 cla:PySem.W.findIn W.K (.ref (W.ca c)) "__class__" = some (some (.builtin "object.__class__"))
 mro:PySem.W.mroIn W.K (W.ca c) (.type "object")=some true
 make:∀ (j:FnI),W.T.fns[i.init]?=some j→Mk W.K (W.ca c) (fadr W.K W.T j.loc)
 mroT:∀ t∈FLATT,PySem.W.mroIn W.K (W.ca c) (.type t)=some false
 eqo:i.meths.lookup 6=none→PySem.W.findIn W.K (.ref (W.ca c)) "__eq__" = some (some (.builtin "object.__eq__"))∧PySem.W.findIn W.K (.ref (W.ca c)) "__ne__" = some (some (.builtin "object.__ne__"))
 subs:∀ (c':Nat) (i':ClI),W.T.cls[c']?=some i'→i'.isexc=false→PySem.W.mroIn W.K (W.ca c) (.ref (W.ca c'))=some (i.mro.contains c')
 qin:∀ (f:Nat) (j:FnI),i.meths.lookup 16=some f→W.T.fns[f]?=some j→PySem.W.readsIn W.K (W.ca c) (.type "type")=true∧PySem.W.specialIn W.K (.ref (W.ca c)) "__getattribute__" = some (some (.builtin "type.__getattribute__")) ∧
  PySem.W.findCls W.K (.ref (W.ca c)) (.type "type") "__init__" = some (.val (.ref (fadr W.K W.T j.loc)))
 nor:∀ k∈OPS,(i.meths.lookup k.m).isSome=true→PySem.W.findIn W.K (.ref (W.ca c)) (PySem.dunderR (opB2 k).info.2)=some none
 con:∀ (k:Nat) (d:D),i.cons.lookup k=some d→∃ v u,Con W.K (W.ca c) (an W.T k) v u∧ClX.CVal W.K (W.ca c) (.type "type") (an W.T k) v u∧ClX.CRead W.K (W.ca c) (.type "type")∧(∀ e,Rep W e d v)∧∀ k'∈i.flds,an W.T k'≠an W.T k
theorem RoomH.in1 {k:Nat} {A:Around} (r:L2H.RoomH (k+1) A):L2H.RoomH k A.in1:=
 ⟨by have:=r.dp; show A.depth+3 * k+5 < _; omega,by have:=r.un; show A.units+1+16 * k+200 < _; omega⟩
theorem RoomH.make {k:Nat} {A:Around} (r:L2H.RoomH (k+1) A) (C:Addr) (us:List Value):L2H.RoomH k (A.under (.builtin "type.__call__" ⟨.ref C::us,[]⟩)):=
 ⟨by have:=r.dp; rw [make_depth]; omega,by have:=r.un; rw [make_units]; omega⟩
def Lull (hot:Bool) (A:Around) (outer:List Env) (H:Hp) (s:Shared):Prop:=A.handled=none∨hot=true∧∃ p,L2H.Hot1 A p∧L2H.PinOk outer H s p
structure FnG (hot rep:Bool) (P:Program) (w:World) (K:PySem.W.Frag) (mg:Str→Option Value) (base:Heap) (Cx_:CXT) (k:Nat) (f:Addr) (fd:FuncData) (ps:List Str) (sp:Sp):Prop where
 len:∀ vs H Q E,sp vs H Q E→vs.length=ps.length
 run:∀ (A:Around) (outer:List Env) (s:Shared) (H:Hp) (args:Args) (us:List Value) (vs:List V) (Q:VK) (E:XK),(rep=true→A.guards=some [])→L2H.RoomH k A→Lull hot A outer H s→Env0 P w K mg base A outer s H→BindsTo s fd args (ps.zip us)→Vals vs us→sp vs H Q E →
  codeAny (model P w) A (.call (.ref f) args) (CR Cx_ outer P w H s Q E) s
def spF (W:Wd) (np:Nat) (F:List D→Mu→Res D):Sp:=fun vs H Q E=>∃ e μ ds,vs.length=np∧St0 W e μ H∧RepVL W e ds vs∧Aft W e H (F ds μ) (fun d m e' H'=>∀ v,Rep W e' d v→Q v H') E
def KwB (K:PySem.W.Frag) (fd:FuncData) (ps:List Str):Prop:=∀ (s:Shared) (us ws:List Value),K.In s.heap→us.length+ws.length=ps.length→BindsTo s fd ⟨us,(ps.drop us.length).reverse.zip ws⟩ (ps.zip (us++ws.reverse))
structure FnP (W:Wd) (n:Nat) (hot rep:Bool) (i:FnI) (F:List D→Mu→Res D):Prop where
 np:(i.names.take i.np).length=i.np
 fill:∀ ds μ us,argsOf i ds=some us→F ds μ=F us μ
 miss:∀ ds μ,argsOf i ds=none→F ds μ = .stuck
 ok:∃ fd,FnG hot rep W.P W.w W.K W.mg W.base (L2N.CX W.P W.w) (n+34) (fadr W.K W.T i.loc) fd (i.names.take i.np) (spF W i.np F) ∧
  (∀ k,k≤i.dfl.length→∃ ds dvs,Vals dvs ds∧(∀ e,RepL W e (i.dfl.drop k) dvs)∧Binds W.K fd (i.names.take i.np) ds)∧KwB W.K fd (i.names.take i.np)
def without_ (H:Hp) (a:Addr):Hp:=fun b=>if b=a then none else H b
def AftI (W:Wd) (e:Em) (H:Hp) (c:Nat) (ks:List Nat) (a dx:Addr) (r:Res D) (Q:VK) (E:XK):Prop:=match r with
 | .ok d m=>∀ e' H' gs vs fs,Ex e H e' H'→St0 W e' m H'→d = .ins c fs→FldsAt W.T ks gs vs→RepL W e' fs vs→e'.G a=none→(∀ i,e'.r i≠some a)→Q .non (upd H' a (.ins (W.ca c) dx gs))
 | .exc c' fs m=>∀ e' H' gs cls d,Ex e H e' H'→St0 W e' m H'→Exa W e' H' c' fs cls d→e'.G a=none→(∀ i,e'.r i≠some a)→d≠some a→E cls d (upd H' a (.ins (W.ca c) dx gs))
 | .stuck=>False
def spI (W:Wd) (c:Nat) (ks:List Nat) (np:Nat) (F:List D→Mu→Res D):Sp:=fun vs H Q E=>∃ e μ ds a dx us,vs = .ref a::us∧vs.length=np∧H a=some (.ins (W.ca c) dx [])∧e.G a=none∧(∀ i,e.r i≠some a) ∧
 St0 W e μ (without_ H a)∧RepL W e ds us∧AftI W e (without_ H a) c ks a dx (F ds μ) Q E
structure InP (W:Wd) (n:Nat) (hot rep:Bool) (c:Nat) (k:ClI) (i:FnI) (F:List D→Mu→Res D):Prop where
 np:(i.names.take i.np).length=i.np
 fill:∀ ds μ us,argsOf i (.non::ds)=some (.non::us)→F ds μ=F us μ
 miss:∀ ds μ,argsOf i (.non::ds)=none→F ds μ = .stuck
 ok:∃ fd,FnG hot rep W.P W.w W.K W.mg W.base (L2N.CX W.P W.w) (n+34) (fadr W.K W.T i.loc) fd (i.names.take i.np) (spI W c k.flds i.np F) ∧
  (∀ k,k≤i.dfl.length→∃ ds dvs,Vals dvs ds∧(∀ e,RepL W e (i.dfl.drop k) dvs)∧Binds W.K fd (i.names.take i.np) ds)∧KwB W.K fd (i.names.take i.np)
def FnPs (W:Wd) (n:Nat) (hot rep:Bool) (F:Nat→List D→Mu→Res D):Prop:=∀ (f:Nat) (ds:List D) (μ:Mu),F f ds μ = .stuck∨∃ i,W.T.fns[f]?=some i∧i.ok=true∧FnP W n hot rep i (F f)
def InPs (W:Wd) (n:Nat) (hot rep:Bool) (F:Nat→List D→Mu→Res D):Prop:=∀ (c:Nat) (ds:List D) (μ:Mu),F c ds μ = .stuck∨∃ k i,W.T.cls[c]?=some k∧k.isexc=false∧W.T.fns[k.init]?=some i∧i.ok=true ∧
 ((k.isval=true∧InP W n hot rep c k i (F c))∨(k.isval=false∧∃ G,FnP W n hot rep i G∧∀ vs μ,F c vs μ=(G (.obj μ.length::vs) (μ++[.ins c []])).bind fun r m=>(match r with | .non => .ok (.obj μ.length) m | _ => .stuck)))
def tyV (W:Wd):Ty→Value
 | .non => .type "NoneType"
 | .bl => .type "bool"
 | .int => .type "int"
 | .str => .type "str"
 | .lst => .type "list"
 | .tup => .type "tuple"
 | .ins c => .ref (W.ca c)
 | .dct => .type "dict"
def kdV (W:Wd):Kd→Value
 | .int => .type "int"
 | .str => .type "str"
 | .bool => .type "bool"
 | .list => .type "list"
 | .tuple => .type "tuple"
 | .cls c => .ref (W.ca c)
 | .verr => .type "ValueError"
 | .arerr => .type "ArithmeticError"
 | .lkerr => .type "LookupError"
def kdIn (T:Tb):Kd→Bool
 | .cls c=>(T.cls[c]?).isSome
 | _=>true
structure FnT (W:Wd) (i:FnI) (body:List Stmt) (scope:Scope):Prop where
 ex:∃ (x qual:Str) (params:Arguments) (dvs:List V) (fd:FuncData),FunD W.K x qual params body scope dvs [] (fadr W.K W.T i.loc) fd ∧
  (∀ k,k≤i.dfl.length→∃ ds dvs',Vals dvs' ds∧(∀ e,RepL W e (i.dfl.drop k) dvs')∧Binds W.K fd (i.names.take i.np) ds)∧KwB W.K fd (i.names.take i.np)
 sc:FnScope i.names (i.names.take i.np) scope
 np:(i.names.take i.np).length=i.np
def XBody (K:PySem.W.Frag) (mg:Str→Option Value) (b:EvT.Bk) (f:Str) (N:List Str) (sc:Scope) (body:List Stmt):Prop:=∃ (sf vl bn txt:Str) (j:Nat) (p1 p2 p3 p4 p5 p6 p7 p8 p9 p10:Pos),N=[sf,vl] ∧
 body=[.Expr (.Call (.Attribute (.Name bn p1) "__init__" p2) [.Name sf p3,.Constant (.str txt) j p4] [] p5) p6,.Assign [.Attribute (.Name sf p7) f p8] (.Name vl p9) p10]∧(p2.endLine == p5.line)=true ∧
 sc.names.lookup sf=some .local∧sc.names.lookup vl=some .local∧sc.names.lookup bn=some .globalImplicit∧(bn == ("__debug__" : Str))=false∧(sf == ("__debug__" : Str))=false∧(sf == ("__classdict__" : Str))=false∧(vl == ("__debug__" : Str))=false∧(vl == ("__classdict__" : Str))=false ∧
 EvT.BaseN K mg b bn
structure ExcF (W:Wd) (c:Nat) (i:ClI):Prop where
 made:i.flds≠[]→∃ (b:EvT.Bk) (k:Nat) (j:FnI) (body:List Stmt) (scope:Scope),EvT.ExT W.K (W.ca c) b∧i.flds=[k]∧PySem.W.findIn W.K (.ref (W.ca c)) (an W.T k)=some none∧W.T.fns[i.init]?=some j ∧
  PySem.W.findIn W.K (.ref (W.ca c)) "__init__" = some (some (.ref (fadr W.K W.T j.loc)))∧PySem.W.typeIn W.K (.ref (fadr W.K W.T j.loc))=some (.type "function")∧FnT W j body scope∧j.np=2∧j.dfl=[]∧XBody W.K W.mg b (an W.T k) j.names scope body
 xf:XfC W.K (W.ca c)
 cls:PySem.W.findIn W.K (.ref (W.ca c)) "__class__" = some (some (.builtin "object.__class__"))
 top:PySem.W.mroIn W.K (W.ca c) (.type "object")=some true
 inst:(PySem.W.clsIn W.K (W.ca c)).isSome=true
 sub:∀ (c':Nat) (i':ClI),W.T.cls[c']?=some i'→i'.isexc=true→PySem.W.exmOne W.K (.ref (W.ca c)) (.ref (W.ca c'))=some (isSubc W.T c c')
def vC:D→Option V
 | .int i=>some (.int i)
 | .str s=>some (.str s)
 | _=>none
structure Txt (W:Wd):Prop where
 isi:∀ t k,tyIn W.T t=true→kdIn W.T k=true→PySem.W.kitOne W.K (tyV W t) (kdV W k)=some (isTy W.T t k)
 ccg:PySem.W.specialIn W.K (.builtin "object.__class__") "__get__" = some (some (.builtin "getset_descriptor.__get__"))
 cct:PySem.W.takesIn W.K (.builtin "object.__class__")=some true
 dun:∀ (j:Nat) (x:Str),DUN[j]?=some x→an W.T j=x
 cls:∀ (c:Nat) (i:ClI),W.T.cls[c]?=some i→i.isexc=false→ClsF W c i
 exc:∀ (c:Nat) (i:ClI),W.T.cls[c]?=some i→i.isexc=true→ExcF W c i
 inj:∀ (c c':Nat) (i i':ClI),W.T.cls[c]?=some i→W.T.cls[c']?=some i'→W.ca c=W.ca c'→c=c'
 glob:∀ (f:Nat) (i:FnI) (x:Str),W.T.fns[f]?=some i→i.loc=(x,none)→W.mg x=some (.ref (fadr W.K W.T i.loc))∧PySem.W.keepIn W.K (.ref (fadr W.K W.T i.loc))=true
 clsg:∀ (c:Nat) (i:ClI),W.T.cls[c]?=some i→W.mg i.name=some (.ref (W.ca c))∧PySem.W.keepIn W.K (.ref (W.ca c))=true
 blt:∀ x∈BLT,W.mg x=none
 seer:W.base.NoSeer
 tree:W.P.given.tree=none
 file:W.P.main.file=W.T.file
 nosup:(W.P.main.scope.names.lookup ("super" : Str)).isSome=false
 supg:W.mg "super" = none
 thirdp:PySem.W.nsIn W.K cStatics "thirdparty.any" = some none
 gls:∀ x d,(x,d)∈W.T.gls→∃ u v,W.mg x=some u∧vC d=some v∧RelV v u
 gds:∀ x kvs,(x,kvs)∈W.T.gds→∃ (A:Addr) (es:Array DictEntry) (n:Nat),W.mg x=some (.ref A)∧L2.KDict W.K W.w A es n∧(∀ k d,dGet kvs k=some d→∃ u v,PySem.W.nsIn W.K A k=some (some u)∧vC d=some v∧RelV v u)∧∀ k,dGet kvs k=none→PySem.W.nsIn W.K A k=some none
structure Hyp (W:Wd) (X:Cx) (n:Nat) (C:Cl) (Wx:WX):Prop where
 prog:X.prog=W.P
 w:X.w=W.w
 K:X.K=W.K
 mg:X.mg=W.mg
 base:X.base=W.base
 T:C.T=W.T
 txt:Txt W
 warm:X.calm=true∨C.hot=true∧L2H.HotC X
 room:L2H.RoomH (n+34) X.A
 guards:C.rep=true→X.A.guards=some []
 nd:X.N.Nodup
 top:∃ env l,X.stack=env::l∧env.scope.isGenerator=false∧env.scope.isCoroutine=false∧env.builtins=builtinsNs∧env.globals=mainGlobals
 takes:L2N.Takes X Wx
 own:PassesOwn (model X.prog X.w) X.A X.env X.xe
 call:FnPs W n C.hot C.rep C.call
 low:(∀ f ds μ,C.low f ds μ = .stuck)∨∃ k,k+1≤n∧FnPs W k C.hot C.rep C.low
 make:(∀ f ds μ,C.make f ds μ = .stuck)∨∃ k,k+1≤n∧InPs W k C.hot C.rep C.make
 hcall:FnPs W n true C.rep C.hcall
 hlow:(∀ f ds μ,C.hlow f ds μ = .stuck)∨∃ k,k+1≤n∧FnPs W k true C.rep C.hlow
 hmake:(∀ f ds μ,C.hmake f ds μ = .stuck)∨∃ k,k+1≤n∧InPs W k true C.rep C.hmake
 rlow:(∀ f ds μ,C.rlow f ds μ = .stuck)∨∃ k,k+3≤n∧FnPs W k C.hot false C.rlow
 hrlow:(∀ f ds μ,C.hrlow f ds μ = .stuck)∨∃ k,k+3≤n∧FnPs W k true false C.hrlow
structure Pn (W:Wd) (X:Cx) (C:Cl) (H0:En):Prop where
 cold:C.hot=false→H0.x=none
 pin:∀ a c dx,H0.x=some (a,c,dx)→∃ oe:Obj,(a,oe)∈X.pn∧oe.cls = .ref (W.ca c)∧oe.dict=some dx∧∃ vs,oe.data = .fields vs
section
variable {W:Wd} {X:Cx} {n:Nat} {C:Cl} {Wx:WX} {pins:List (Addr×Obj)} {σ:L2.St} {H:Hp} {s:Shared}
theorem Hyp.warmW (h:Hyp W X n C Wx):EvW.Warm X:=h.warm.imp id fun z=>z.2
theorem Hyp.lull (h:Hyp W X n C Wx) {A:Around} (hha:A.handled=X.A.handled) (I:Inv X pins σ H s):Lull C.hot A X.stack H s:=by
 rcases h.warm with c | ⟨hc,p,⟨hh,v⟩,hp⟩
 ·exact .inl (hha.trans (I.ok.hd c))
 ·have P1:=I.pin p (List.mem_append_left _ hp)
  exact .inr ⟨hc,p,⟨hha.trans hh,v⟩,P1.1,P1.2.1,fun hm=>(List.mem_cons.mp (I.stkSub p.1 hm)).elim P1.2.2.1 P1.2.2.2.1,P1.2.2.2.2⟩
theorem argsOf_full {i:FnI} {ds us:List D} (h:argsOf i ds=some us):ds.length≤i.np∧i.np≤ds.length+i.dfl.length∧us=ds++i.dfl.drop (ds.length+i.dfl.length - i.np)∧us.length=i.np:=by
 unfold argsOf at h
 split at h
 ·rename_i z
  cases h
  refine ⟨z.1,z.2,rfl,?_⟩
  rw [List.length_append,List.length_drop]
  omega
 ·cases h
def Got (W:Wd) (e:Em) (H:Hp) (r:Res D) (Q:VK) (E:XK):Prop:=Aft W e H r (fun d _ e' H'=>∀ v,Rep W e' d v→Q v H') E
abbrev xkA (Wx:WX) (σ:L2.St):XK:=fun cls d H'=>Wx cls d σ H'
theorem run_fnV {k:Nat} {i:FnI} {F:List D→Mu→Res D} (h:Hyp W X n C Wx) {A:Around} (hr:L2H.RoomH (k+34) A) (hA:A.frames=X.A.frames) {rp:Bool} (hgu:rp=true→A.guards=some []) (hha:A.handled=X.A.handled) (fp:FnP W k C.hot rp i F) {e:Em} {μ:Mu} {ds:List D} {vs:List V} {us:List Value} {Q:VK}
  (I:Inv X pins σ H s) (r:Vals vs us) (st:St0 W e μ H) (rd:RepVL W e ds vs) (q:Got W e H (F ds μ) Q (xkA Wx σ)) :
  codeAny (model X.prog X.w) A (.call (.ref (fadr W.K W.T i.loc)) ⟨us,[]⟩) (fun r s'=>match r with | .ok (.ret v)=>EP X pins σ Q v s' | .ok _=>False | .error x=>X.xe x s') s:=by
 have ha:∃ a,argsOf i ds=some a:=by
  cases z:argsOf i ds with
  | some a=>exact ⟨a,rfl⟩
  | none=>rw [fp.miss ds μ z] at q; exact q.elim
 obtain ⟨a,ha⟩:=ha
 obtain ⟨l1,l2,ea,la⟩:=argsOf_full ha
 obtain ⟨fd,ok,bi,_⟩:=fp.ok
 obtain ⟨dd,dvs,rv,rl,bd⟩:=bi (ds.length+i.dfl.length - i.np) (by omega)
 have hl:vs.length=ds.length:=rd.length
 have hdl:dvs.length=(i.dfl.drop (ds.length+i.dfl.length - i.np)).length:=(rl e).length
 have F':FnG C.hot rp X.prog X.w X.K X.mg X.base (L2N.CX X.prog X.w) (k+34) (fadr W.K W.T i.loc) fd (i.names.take i.np) (spF W i.np F):=by rw [h.prog,h.w,h.K,h.mg,h.base]; exact ok
 have bd':Binds X.K fd (i.names.take i.np) dd:=by rw [h.K]; exact bd
 have sp:spF W i.np F (vs++dvs) H Q (xkA Wx σ):=by
  refine ⟨e,μ,a,?_,st,?_,?_⟩
  ·rw [List.length_append,hl,hdl,List.length_drop]; omega
  ·rw [ea]; exact rd.append (RepVL.to (rl e))
  ·rw [fp.fill ds μ a ha] at q; exact q
 have r2:Vals (vs++dvs) (us++dd):=r.append rv
 have hl2:(us++dd).length=(i.names.take i.np).length:=by rw [← r2.length]; exact F'.len _ _ _ _ sp
 have e0:Env0 X.prog X.w X.K X.mg X.base A X.stack s H:=by
  have e:=I.env0
  exact ⟨by rw [hA]; exact e.frames,e.mod,e.bs,e.bsz,e.funs,e.frf,e.hok,e.bare⟩
 refine codeAny_mono (F'.run A X.stack s H ⟨us,[]⟩ (us++dd) (vs++dvs) Q _ hgu hr (h.lull hha I) e0 (bd' s us I.kIn hl2) r2 sp) fun r s' hq=>?_
 cases r with
 | error x=>exact h.takes _ _ (L2N.XE.of_call I (fun _ _ _ z=>z) hq)
 | ok fl =>
  cases fl with
  | ret u=>exact I.after hq
  | next=>exact False.elim hq
  | brk=>exact False.elim hq
  | cont=>exact False.elim hq
theorem run_fnR {k:Nat} {i:FnI} {F:List D→Mu→Res D} (h:Hyp W X n C Wx) {A:Around} (hr:L2H.RoomH (k+34) A) (hA:A.frames=X.A.frames) {rp:Bool} (hgu:rp=true→A.guards=some []) (hha:A.handled=X.A.handled) (fp:FnP W k C.hot rp i F) {e:Em} {μ:Mu} {ds:List D} {vs:List V} {us:List Value} {Q:VK}
  (I:Inv X pins σ H s) (r:Vals vs us) (st:St0 W e μ H) (rd:RepL W e ds vs) (q:Got W e H (F ds μ) Q (xkA Wx σ)) :
  codeAny (model X.prog X.w) A (.call (.ref (fadr W.K W.T i.loc)) ⟨us,[]⟩) (fun r s'=>match r with | .ok (.ret v)=>EP X pins σ Q v s' | .ok _=>False | .error x=>X.xe x s') s:=run_fnV h hr hA hgu hha fp I r st (RepVL.to rd) q
theorem run_fnC {k:Nat} {i:FnI} {F:List D→Mu→Res D} (h:Hyp W X n C Wx) {A:Around} (hr:L2H.RoomH (k+34) A) (hA:A.frames=X.A.frames) (hgu:A.guards=X.A.guards) (hha:A.handled=X.A.handled) (fp:FnP W k C.hot C.rep i F) {e:Em} {μ:Mu} {ds:List D} {vs:List V} {us:List Value} {Q:VK}
  (I:Inv X pins σ H s) (r:Vals vs us) (st:St0 W e μ H) (rd:RepL W e ds vs) (q:Got W e H (F ds μ) Q (xkA Wx σ)) :
  codeAny (model X.prog X.w) A (.call (.ref (fadr W.K W.T i.loc)) ⟨us,[]⟩) (fun r s'=>match r with | .ok (.ret v)=>EP X pins σ Q v s' | .ok _=>False | .error x=>X.xe x s') s:=
 run_fnR h hr hA (fun z=>by rw [hgu]; exact h.guards z) hha fp I r st rd q
theorem run_fnW {k:Nat} {i:FnI} {F:List D→Mu→Res D} (h:Hyp W X n C Wx) {A:Around} (hr:L2H.RoomH (k+34) A) (hA:A.frames=X.A.frames) (hgu:A.guards=X.A.guards) (hha:A.handled=X.A.handled) (fp:FnP W k C.hot C.rep i F) {e:Em} {μ:Mu} {ds:List D} {vs:List V} {us:List Value} {Q:VK}
  (I:Inv X pins σ H s) (r:Vals vs us) (st:St0 W e μ H) (rd:RepL W e ds vs) (q:Got W e H (F ds μ) Q (xkA Wx σ)) :
  wpAny (model X.prog X.w) A (call (.ref (fadr W.K W.T i.loc)) us) (EP X pins σ Q) X.xe s:=wpAny_call (run_fnC h hr hA hgu hha fp I r st rd q)
theorem run_fnWR {k:Nat} {i:FnI} {F:List D→Mu→Res D} (h:Hyp W X n C Wx) {A:Around} (hr:L2H.RoomH (k+34) A) (hA:A.frames=X.A.frames) {rp:Bool} (hgu:rp=true→A.guards=some []) (hha:A.handled=X.A.handled) (fp:FnP W k C.hot rp i F) {e:Em} {μ:Mu} {ds:List D} {vs:List V} {us:List Value} {Q:VK}
  (I:Inv X pins σ H s) (r:Vals vs us) (st:St0 W e μ H) (rd:RepL W e ds vs) (q:Got W e H (F ds μ) Q (xkA Wx σ)) :
  wpAny (model X.prog X.w) A (call (.ref (fadr W.K W.T i.loc)) us) (EP X pins σ Q) X.xe s:=wpAny_call (run_fnR h hr hA hgu hha fp I r st rd q)
end
end Ev
namespace Ev
open PySem PySem.Spec PyProof.Rows L2
section
variable {W:Wd} {X:Cx} {n:Nat} {C:Cl} {Wx:WX} {pins:List (Addr×Obj)} {σ:L2.St} {H:Hp} {s:Shared} {e:Em} {μ:Mu}
theorem inst_at (st:St0 W e μ H) {x:D} {v:V} {c:Nat} (hx:Rep W e x v) (hc:clsOf μ x=some c) :
  ∃ a dx gs i,v = .ref a∧H a=some (.ins (W.ca c) dx gs)∧W.T.cls[c]?=some i∧i.isexc=false∧∀ nm,(∀ k∈i.flds,an W.T k≠nm)→gs.lookup nm=none:=by
 cases x with
 | ins c' fs =>
  cases hc
  obtain ⟨a,dx,gs,vs,i,rfl,h1,h2,h3,h4,_⟩:=hx
  exact ⟨a,dx,gs,i,rfl,st.sub _ _ h1,h2,h3,h4.no⟩
 | obj o =>
  obtain ⟨a,rfl,ha⟩:=hx
  have hc:(match μ[o]? with | some (.ins c _)=>some c | _=>none)=some c:=hc
  cases q:μ[o]? with
  | none=>rw [q] at hc; cases hc
  | some so =>
   rw [q] at hc
   cases so with
   | lst xs=>cases hc
   | dct _=>cases hc
   | exn _ _=>cases hc
   | ins c' fs =>
    cases hc
    obtain ⟨b,hb,dx,gs,i,h1,h2,h3,h4,_⟩:=st.cell o _ q
    rw [ha] at hb; cases hb
    exact ⟨a,dx,gs,i,rfl,h1,h2,h3,fun nm hn=>h4.no nm fun k hk _=>hn k hk⟩
 | _=>cases hc
theorem dcallF_ok (h:Hyp W X n C Wx) {k:Nat} {F:Nat→List D→Mu→Res D} {A:Around} (hF:FnPs W k C.hot C.rep F) (hr:L2H.RoomH (k+34) A) (hA:A.frames=X.A.frames) (hgu:A.guards=X.A.guards) (hha:A.handled=X.A.handled) {m:Nat} {x:D} {ys:List D} {v:V} {vs:List V} {u:Value} {us:List Value} {Q:VK} (I:Inv X pins σ H s) (st:St0 W e μ H)
  (hx:Rep W e x v) (hy:RepL W e ys vs) (rv:RelV v u) (rs:Vals vs us) (q:Got W e H (dcallF C.T F m x ys μ) Q (xkA Wx σ)) :
  ∃ c a dx gs i fa,v = .ref a∧u = .ref a∧H a=some (.ins (W.ca c) dx gs)∧clsOf μ x=some c∧W.T.cls[c]?=some i∧ClsF W c i∧Meth X.K (W.ca c) (an W.T m) fa∧gs.lookup (an W.T m)=none ∧
   wpAny (model X.prog X.w) A (call (.ref fa) (.ref a::us)) (EP X pins σ Q) X.xe s:=by
 unfold dcallF at q
 cases hc:clsOf μ x with
 | none=>rw [hc] at q; exact q.elim
 | some c =>
  rw [hc] at q
  have q:Got W e H (match mthd C.T c m with | some f=>F f (x::ys) μ | none => .stuck) Q (xkA Wx σ):=q
  cases hm:mthd C.T c m with
  | none=>rw [hm] at q; exact q.elim
  | some f =>
   rw [hm] at q
   have q:Got W e H (F f (x::ys) μ) Q (xkA Wx σ):=q
   obtain ⟨a,dx,gs,i,rfl,hH,hi,hx2,hno⟩:=inst_at st hx hc
   cases rv
   have cf:=h.txt.cls c i hi hx2
   have hm:i.meths.lookup m=some f:=by
    unfold mthd at hm
    rw [h.T,hi] at hm
    exact hm
   obtain ⟨j,hj,hM,hne⟩:=cf.meth m f hm
   rcases hF f (x::ys) μ with z | ⟨j',hj',ho,fp⟩
   ·rw [z] at q; exact q.elim
   ·rw [hj] at hj'; cases hj'
    refine ⟨c,a,dx,gs,i,_,rfl,rfl,hH,rfl,hi,cf,by rw [h.K]; exact hM,hno _ hne,?_⟩
    exact run_fnW h hr hA hgu hha fp I (Paired.cons (show RelV (V.ref a) (Value.ref a) from rfl) rs) st (.cons hx hy) q
theorem dcallFR_ok (h:Hyp W X n C Wx) {k:Nat} {rp:Bool} {F:Nat→List D→Mu→Res D} {A:Around} (hF:FnPs W k C.hot rp F) (hr:L2H.RoomH (k+34) A) (hA:A.frames=X.A.frames) (hgu:rp=true→A.guards=some []) (hha:A.handled=X.A.handled) {m:Nat} {x:D} {ys:List D} {v:V} {vs:List V} {u:Value} {us:List Value} {Q:VK} (I:Inv X pins σ H s) (st:St0 W e μ H)
  (hx:Rep W e x v) (hy:RepL W e ys vs) (rv:RelV v u) (rs:Vals vs us) (q:Got W e H (dcallF C.T F m x ys μ) Q (xkA Wx σ)) :
  ∃ c a dx gs i fa,v = .ref a∧u = .ref a∧H a=some (.ins (W.ca c) dx gs)∧clsOf μ x=some c∧W.T.cls[c]?=some i∧ClsF W c i∧Meth X.K (W.ca c) (an W.T m) fa∧gs.lookup (an W.T m)=none ∧
   wpAny (model X.prog X.w) A (call (.ref fa) (.ref a::us)) (EP X pins σ Q) X.xe s:=by
 unfold dcallF at q
 cases hc:clsOf μ x with
 | none=>rw [hc] at q; exact q.elim
 | some c =>
  rw [hc] at q
  have q:Got W e H (match mthd C.T c m with | some f=>F f (x::ys) μ | none => .stuck) Q (xkA Wx σ):=q
  cases hm:mthd C.T c m with
  | none=>rw [hm] at q; exact q.elim
  | some f =>
   rw [hm] at q
   have q:Got W e H (F f (x::ys) μ) Q (xkA Wx σ):=q
   obtain ⟨a,dx,gs,i,rfl,hH,hi,hx2,hno⟩:=inst_at st hx hc
   cases rv
   have cf:=h.txt.cls c i hi hx2
   have hm:i.meths.lookup m=some f:=by
    unfold mthd at hm
    rw [h.T,hi] at hm
    exact hm
   obtain ⟨j,hj,hM,hne⟩:=cf.meth m f hm
   rcases hF f (x::ys) μ with z | ⟨j',hj',ho,fp⟩
   ·rw [z] at q; exact q.elim
   ·rw [hj] at hj'; cases hj'
    refine ⟨c,a,dx,gs,i,_,rfl,rfl,hH,rfl,hi,cf,by rw [h.K]; exact hM,hno _ hne,?_⟩
    exact run_fnWR h hr hA hgu hha fp I (Paired.cons (show RelV (V.ref a) (Value.ref a) from rfl) rs) st (.cons hx hy) q
theorem dcall_ok (h:Hyp W X n C Wx) {m:Nat} {x:D} {ys:List D} {v:V} {vs:List V} {u:Value} {us:List Value} {Q:VK} (I:Inv X pins σ H s) (st:St0 W e μ H)
  (hx:Rep W e x v) (hy:RepL W e ys vs) (rv:RelV v u) (rs:Vals vs us) (q:Got W e H (dcall C m x ys μ) Q (xkA Wx σ)) :
  ∃ c a dx gs i fa,v = .ref a∧u = .ref a∧H a=some (.ins (W.ca c) dx gs)∧clsOf μ x=some c∧W.T.cls[c]?=some i∧ClsF W c i∧Meth X.K (W.ca c) (an W.T m) fa∧gs.lookup (an W.T m)=none ∧
   wpAny (model X.prog X.w) X.A (call (.ref fa) (.ref a::us)) (EP X pins σ Q) X.xe s:=dcallF_ok h h.call h.room rfl rfl rfl I st hx hy rv rs q
theorem inst_rule (I:Inv X pins σ H s) {c:Nat} {a dx:Addr} {gs:List (Str×V)} (hH:H a=some (.ins (W.ca c) dx gs)) :
  ∃ m od,PyProof.Rows.Fr X.base X.env.locals s.heap m∧X.K.In X.base∧PySem.W.InstAt s.heap a (PySem.W.instObj (W.ca c) dx) (W.ca c) od:=by
 obtain ⟨mA,O,_⟩:=ins_get I.hok hH
 obtain ⟨od,J,_⟩:=O.look
 obtain ⟨m,F⟩:=I.fr
 exact ⟨m,_,F,I.ok.mod.kin,J⟩
end
end Ev
set_option maxRecDepth 100000
set_option maxHeartbeats 2000000
namespace Ev
open PySem PySem.Spec PyProof.Rows L2
def IsCx (hot:Bool) (cX:CXT) (P:Program) (w:World) (K:PySem.W.Frag) (mg:Str→Option Value) (base:Heap) (N:List Str) (qual:Str) (scope:Scope) (f:Addr) (cd:Value) (A:Around) (outer:List Env) (s:Shared) (H:Hp) (E:XK) (X:Cx):Prop:=
 X=cxOf cX P w K mg base N qual scope f cd A outer s H E∨hot=true∧∃ p,L2H.Hot1 A p∧X=L2H.cxH cX P w K mg base N qual scope f cd A outer s H E p
theorem fnG_of {P:Program} {w:World} {K:PySem.W.Frag} {mg:Str→Option Value} {base:Heap} {cX:CXT} {x qual:Str} {params:Arguments} {body:List Stmt} {scope:Scope} {dvs:List V} {kws:List (Str×V)} {f:Addr} {fd:FuncData} {N ps:List Str} {k:Nat} {sp:Sp} {hot rep:Bool}
  (F:FunD K x qual params body scope dvs kws f fd) (S:FnScope N ps scope) (len:∀ vs H Q E,sp vs H Q E→vs.length=ps.length)
  (hb:∀ (cdv:Value) (A:Around) (outer:List Env) (s:Shared) (H:Hp) (vs:List V) (Q:VK) (E:XK) (X:Cx),IsCx hot cX P w K mg base N qual scope f cdv A outer s H E X→(rep=true→A.guards=some [])→L2H.RoomH k (A.deeper (envOfC qual scope s.heap.objs.size f cdv))→sp vs H Q E →
   ∃ t,PSs X body t∧t { nx:=fun _ H'=>Q .non H',rt:=Q } (L2.start N vs) H):FnG hot rep P w K mg base cX (k+1) f fd ps sp:=by
 obtain ⟨oc,od,dV,kV,doc,pm,an,cdv,ct,osl,rfl,lk,hcd,_,_⟩:=F.ex
 constructor
 ·exact len
 intro A outer s H args us vs Q E hgu room lull env bnd rel hsp
 have grown:∀ b o,base.get? b=some o→s.heap.get? b=some o:=fun b o e=>(env.bs b o e).1
 have kin:=env.mod.kin.keeps grown
 have kinds:∀ z∈ps.zip us,scope.names.lookup z.1=some .local∨(scope.names.lookup z.1=some .cell∧((cellsFrom (s.heap.objs.size+1) scope.names []).lookup z.1).isSome=true):=by
  rintro ⟨nm,u⟩ hz
  exact (S.par nm (List.of_mem_zip hz).1).imp id fun q=>⟨q,PySem.W.cellsFrom_some _ _ _ (.inl q)⟩
 refine codeAny_call_function room.depth (kin _ _ lk) rfl S.co S.gen rfl (PySem.W.codeRec_of kin hcd) (bnd _ _ _ _ ?_)
 refine wpAny_newFunctionEnv_cells S.kind kinds ?_
 rintro _ rfl s1 inC
 refine ⟨(env.mod.nolimit.keeps grown).keeps inC.toInCall.keep,codeAny_func ?_⟩
 rcases lull with hd | ⟨hc,p,hot,pin⟩
 ·obtain ⟨t,ht,hq⟩:=hb cdv A outer s H vs Q E _ (.inl rfl) hgu (room.deeper _) hsp
  have J:=inv_start (CX:=cX) (P:=P) (w:=w) (mg:=mg) (E:=E) S hd env (len _ _ _ _ hsp) rel inC
  refine wpAny_mono (ht.run [] s1 (L2.start N vs) H _ J hq) ?_ fun _ _ z=>z
  intro fl s' hs
  match fl,hs with
  | .ret u,⟨v,σ',H',J',rv,q⟩=>exact ⟨v,H',J'.os,J'.bare,J'.base,J'.hok,rv,q⟩
  | .next,⟨σ',H',J',q⟩=>exact ⟨.non,H',J'.os,J'.bare,J'.base,J'.hok,rfl,q⟩
  | .brk,⟨_,_,_,q⟩=>exact q.elim
  | .cont,⟨_,_,_,q⟩=>exact q.elim
 ·obtain ⟨t,ht,hq⟩:=hb cdv A outer s H vs Q E _ (.inr ⟨hc,p,hot,rfl⟩) hgu (room.deeper _) hsp
  have J:=L2H.inv_startH (CX:=cX) (P:=P) (w:=w) (mg:=mg) (E:=E) S pin env (len _ _ _ _ hsp) rel inC
  refine wpAny_mono (ht.run [] s1 (L2.start N vs) H _ J hq) ?_ fun _ _ z=>z
  intro fl s' hs
  match fl,hs with
  | .ret u,⟨v,σ',H',J',rv,q⟩=>exact ⟨v,H',J'.os,J'.bare,J'.base,J'.hok,rv,q⟩
  | .next,⟨σ',H',J',q⟩=>exact ⟨.non,H',J'.os,J'.bare,J'.base,J'.hok,rfl,q⟩
  | .brk,⟨_,_,_,q⟩=>exact q.elim
  | .cont,⟨_,_,_,q⟩=>exact q.elim
end Ev
set_option maxRecDepth 100000
set_option maxHeartbeats 2000000
namespace EvO
open PySem PySem.Spec PySem.Calls PyProof.Rows PySem.W
section
variable {prog:Program} {w:World} {A:Around} {E:Value→Shared→Prop} {s:Shared} {K:Frag} {x C C' L f f':Addr} {h₀:Heap} {m:Str→Option Value} {ox:Obj} {od:Option Obj}
theorem binop_two {op:Operator} {b:Value} {Q:Value→Shared→Prop} (X:K.In s.heap) (I:InstAt s.heap x ox C od) (hb:Looks (model prog w) s.heap (typeOf b) (.ref C')) (hc:selfFirst K C=true) (hc':selfFirst K C'=true) (hne:C≠C')
  (hs:findIn K (.ref C) (PySem.dunder op.info.2)=some (some (.ref f))) (hf:isFn K (.ref f)=true) (hr:findIn K (.ref C) (dunderR op.info.2)=some none)
  (hs':findIn K (.ref C') (PySem.dunder op.info.2)=some (some (.ref f'))) (hr':findIn K (.ref C') (dunderR op.info.2)=some none) (hsub:subIn K (.ref C') (.ref C)=some false)
  (h:wpAny (model prog w) A (call (.ref f) [.ref x,b]) (PySem.W.CmpBack Q) E s):wpAny (model prog w) A (binaryOp op (.ref x) b) Q E s:=by
 obtain ⟨cd,rest,hcd,hm⟩:=ksp_first hc
 obtain ⟨cd',rest',hcd',hm'⟩:=ksp_first hc'
 rcases hi:op.info with ⟨sym,nm'⟩
 rw [hi] at hs hr hs' hr'
 dsimp only at hs hr hs' hr'
 have one:=ksp_try X I hs hf h
 obtain ⟨hh,g,d,tt,os⟩:=s
 have L1:Looks (model prog w) hh (typeOf (.ref x)) (.ref C):=I.type
 have L2:Looks (model prog w) hh (typeOf b) (.ref C'):=hb
 have L3:Looks (model prog w) hh (fillsNumberSlot (.ref C) nm') true:=fills_K X hcd hm hs
 have L4:Looks (model prog w) hh (fillsNumberSlot (.ref C') nm') true:=fills_K X hcd' hm' hs'
 have L5:Looks (model prog w) hh (isSubtype (.ref C') (.ref C)) false:=looks_subIn X hsub
 have L6:Looks (model prog w) hh (numberSlotInPython (.ref C) nm') true:=ksp_inPy X hs hr (.inl rfl)
 have L7:Looks (model prog w) hh (numberSlotInPython (.ref C') nm') true:=ksp_inPy X hs' hr' (.inl rfl)
 have hne2:(Value.ref C == Value.ref C')=false:=Bool.eq_false_iff.mpr fun q=>by have:=beq_iff_eq.mp q; injection this with z; exact hne z
 simp only [binaryOp,hi]
 refine wpAny_holding (wpAny_bind ?_)
 unfold binaryOp1
 refine wpAny_bind (L1.at (wpAny_bind (L2.at (wpAny_bind (L3.at ?_)))))
 simp only [hne2,Bool.false_eq_true,if_false]
 ksp_lk
 refine wpAny_mono one (fun r s' hr'=>?_) fun _ _ e=>e
 obtain ⟨v,rfl,hq⟩:=hr'
 ksp_lk
 exact hq
end
section
open L2
variable {prog:Program} {w:World} {A:Around} {E:Value→Shared→Prop} {s:Shared} {Q:Value→Shared→Prop}
theorem mul_list {l:Addr} {its:List Value} {n:Nat} {k:Int} {t:Tok} (e:s.heap.get? l=some { cls:=.type "list",data:=.seq its.toArray n }) (h1 : -(2^63)≤k) (h2:k < 2^63) (hz:its.length * k.toNat≤sizeLine)
  (h:Q (.ref s.heap.objs.size) { s with heap:=s.heap.push { cls:=.type "list",data:=.seq (List.replicate k.toNat its).flatten.toArray } }):wpAny (model prog w) A (binaryOp .Mult (.ref l) (.int k t)) Q E s:=by
 have hlen:its.toArray.size * k.toNat≤sizeLine:=by rw [List.size_toArray]; exact hz
 have hcap:¬ its.toArray.size * k.toNat > (2^63 - 1) / 8:=by
  have:(sizeLine:Nat)≤(2^63 - 1) / 8:=by decide
  omega
 have hfit:¬ (!Builtin.List.listFitsIndex k)=true:=by
  rw [fitsIndex_both h1 h2]
  exact Bool.false_ne_true
 have hlong:¬ Builtin.List.listTooLong (its.toArray.size * k.toNat)=true:=by
  rw [notLongL hlen]
  exact Bool.false_ne_true
 have hnew:List.foldl (fun x1 x2=>x1++x2) #[] (List.replicate (if its.toArray.isEmpty=true then 0 else k.toNat) its.toArray)=(List.replicate k.toNat its).flatten.toArray:=by
  have f0:∀ m:Nat,List.foldl (fun x1 x2=>x1++x2) #[] (List.replicate m its.toArray)=(List.replicate m its).flatten.toArray:=fun m=>by
   have:=foldl_rep its m []
   rw [List.nil_append] at this
   exact this
  rw [f0]
  cases its with
  | nil=>simp
  | cons a r'=>rw [if_neg (by simp)]
 refine wpAny_binaryOp_repeat_ref (T:= "list") (U:= "int") (by decide) ⟨_,e,rfl⟩ (fun s'=>typeIs_int s' k t) noFill_list_mul F.fills_int_mul F.slot_int_rmul repeat_list F.slot_int_index.lookup
  (call_meets F.slot_int_rmul (typeIs_int s k t) F.entry_int_rmul (F.args_int_rmul_2 _ _) (int___rmul___int_list k t l its.toArray n)
   ⟨e,rfl,⟨_,e,rfl⟩,call_meets F.slot_list_mul ⟨_,e,rfl⟩ F.entry_list_mul (F.args_list_mul_2 _ _) (AutoListH.list___mul___list_int_3 l its.toArray n k t hfit hcap hlong) ⟨e,?_⟩⟩)
 rw [hnew]
 exact h
end
end EvO
set_option maxRecDepth 100000
set_option maxHeartbeats 2000000
namespace Ev
open PySem PySem.Spec PyProof.Rows L2
section
variable {W:Wd} {X:Cx} {n:Nat} {C:Cl} {Wx:WX} {pins:List (Addr×Obj)} {σ:L2.St} {H:Hp} {s:Shared} {e:Em} {μ:Mu}
theorem sq_exact (h:Hyp W X n C Wx) (I:Inv X pins σ H s) (st:St0 W e μ H) {a:Addr} {vs:List V} (q:SqX W.K e.G a vs) :
  ∃ (its:List Value) (m:Nat),s.heap.get? a=some { cls:=.type "list",data:=.seq its.toArray m }∧Vals vs its∧vs.length≤sizeLine:=by
 rcases q with q | ⟨its,m,h1,h2,h3⟩
 ·have q:Rd H a (.lst vs):=by
   rcases q with q | ⟨o,q⟩
   ·exact .inl (st.sub _ _ q)
   ·exact .inr ⟨o,st.sub _ _ q⟩
  obtain ⟨z,its,m,r,g⟩:=q.ok I.hok
  exact ⟨its,m,g,r,z⟩
 ·refine ⟨its.toList,m,?_,h3,?_⟩
  ·rw [← h.K] at h1
   have:=I.kIn _ _ h1
   simpa using this
  ·have:=h3.length
   simp at this
   omega
theorem Got.newL {Q:VK} {E:XK} {ds:List D} {vs:List V} (q:Got W e H (.ok (.lst ds) μ) Q E) (st:St0 W e μ H) (r:RepL W e ds vs):∀ p,H p=none→Q (.ref p) (upd H p (.lst vs)):=fun p hp=>by
 obtain ⟨x,s'⟩:=st.frozen (.lst vs) hp
 exact q _ _ x s' _ ⟨p,vs,rfl,.inl (.inl upd_same),r.ex x⟩
theorem Got.newT {Q:VK} {E:XK} {ds:List D} {vs:List V} (q:Got W e H (.ok (.tup ds) μ) Q E) (st:St0 W e μ H) (r:RepL W e ds vs):∀ p,H p=none→Q (.ref p) (upd H p (.tup vs)):=fun p hp=>by
 obtain ⟨x,s'⟩:=st.frozen (.tup vs) hp
 exact q _ _ x s' _ ⟨p,vs,rfl,.inl (.inl upd_same),r.ex x⟩
theorem Got.val {Q:VK} {E:XK} {d:D} {v:V} (q:Got W e H (.ok d μ) Q E) (st:St0 W e μ H) (r:Rep W e d v):Q v H:=Aft.now q st v r
theorem ib_eq (i:Int):Builtin.Int.intBits i=ib i:=by
 unfold Builtin.Int.intBits ib
 by_cases h:i=0
 ·subst h; rfl
 ·rw [if_neg h]
  split <;> simp_all
theorem mulOk_ok {i j:Int} (h:mulOk i j=true):IntMulOk i j:=by
 unfold mulOk at h
 rw [Bool.or_eq_true,Bool.or_eq_true] at h
 rcases h with (h | h) | h
 ·exact .of_left (by rw [ib_eq]; exact of_decide_eq_true h)
 ·exact .of_right (by rw [ib_eq]; exact of_decide_eq_true h)
 ·have h:=of_decide_eq_true h
  unfold IntMulOk
  intro z
  rw [Bool.and_eq_true] at z
  have z2:=z.2
  unfold Builtin.Int.intTooBig at z2
  have z3:=of_decide_eq_true z2
  rw [ib_eq,ib_eq,show bitsLine=134217728 by decide] at z3
  have h:ib i+ib j≤134217728:=h
  omega
theorem dun_info (h:Txt W) (k:B2):an W.T k.m=PySem.dunder (opB2 k).info.2:=by
 cases k <;> (rw [h.dun _ _ (by rfl)] <;> decide +kernel)
theorem op_inst (h:Hyp W X n C Wx) (k:B2) {x y:D} {v w:V} {u t:Value} {Q:VK} (I:Inv X pins σ H s) (st:St0 W e μ H) (hx:Rep W e x v) (hy:Rep W e y w) (rv:RelV v u) (rw_:RelV w t)
  (hc:clsOf μ y=clsOf μ x) (q:Got W e H (dcall C k.m x [y] μ) Q (xkA Wx σ)):wpAny (model X.prog X.w) X.A (binaryOp (opB2 k) u t) (EP X pins σ Q) X.xe s:=by
 obtain ⟨c,a,dx,gs,i,fa,rfl,rfl,hH,hcx,hi,cf,M,_,run⟩:=dcall_ok h I st hx (.cons hy .nil) rv (.cons rw_ .nil) q
 obtain ⟨m,od,F,KX,J⟩:=inst_rule I hH
 rw [hcx] at hc
 obtain ⟨b,dy,gs',i',rfl,hH',_⟩:=inst_at st hy hc
 cases rw_
 obtain ⟨m',od',F',KX',J'⟩:=inst_rule I hH'
 refine PySem.W.binop_K F KX J J'.type (by rw [h.K]; exact cf.first) (by rw [← dun_info h.txt k]; exact M.at_) M.fn ?_
 refine wpAny_mono run (fun r s' z=>?_) fun _ _ z=>z
 obtain ⟨v',H',I',r',q'⟩:=z
 have fin:EP X pins σ Q r s':=⟨v',H',I',r',q'⟩
 cases v' with
 | non=>cases r'; exact fin
 | bl b=>cases r'; exact fin
 | int i=>obtain ⟨t,rfl⟩:=r'; exact fin
 | str i=>obtain ⟨t,rfl⟩:=r'; exact fin
 | byt i=>obtain ⟨t,rfl⟩:=r'; exact fin
 | flt i=>obtain ⟨t,rfl⟩:=r'; exact fin
 | ref a=>cases r'; exact fin
 | ty a=>cases r'; exact fin
theorem pylong (h:Hyp W X n C Wx) (I:Inv X pins σ H s):PylongRoom (model X.prog X.w) X.A s:=by
 obtain ⟨env,l,h1,h2,h3,h4,h5⟩:=h.top
 have ns:s.heap.NoSeer:=by
  have:=h.txt.seer
  rw [← h.base] at this
  exact this.keeps I.bk
 have ht:(model X.prog X.w).prog.given.tree=none:=by
  show X.prog.given.tree=none
  rw [h.prog]; exact h.txt.tree
 refine PylongRoom.of I.nolimit ?_ (SeerAt.of (env:=env) (l:=l) ns ht ?_ h2 h3 h4 h5)
 ·have:=h.room.dp
  show X.A.depth+100 < _
  omega
 ·rw [I.ok.frames,h1]
theorem cls_obj {o c:Nat} {fs:List (Nat×D)} (hc:μ[o]?=some (.ins c fs)):clsOf μ (.obj o)=some c:=by
 show (match μ[o]? with
  | some (.ins c _)=>some c
  | _=>none)=some c
 rw [hc]
theorem dcall_meth (h:Hyp W X n C Wx) {x:D} {ys:List D} {m c:Nat} {i:ClI} {Q:VK} (hi:W.T.cls[c]?=some i) (hc:clsOf μ x=some c) (q:Got W e H (dcall C m x ys μ) Q (xkA Wx σ)):(i.meths.lookup m).isSome=true:=by
 unfold dcall dcallF at q
 rw [hc] at q
 have e1:mthd C.T c m=i.meths.lookup m:=by unfold mthd; rw [h.T,hi]; rfl
 cases z:i.meths.lookup m with
 | some f=>rfl
 | none =>
  rw [z] at e1
  have q:Got W e H (match mthd C.T c m with
   | some f=>C.call f (x::ys) μ
   | none => .stuck) Q (xkA Wx σ):=q
  rw [e1] at q
  exact q.elim
theorem foldl_app:∀ (n:Nat) (x acc:Array Nat),(List.replicate n x).foldl (· ++ ·) acc=acc++(List.replicate n x.toList).flatten.toArray
 | 0,x,acc=>by simp
 | n+1,x,acc=>by
  rw [List.replicate_succ,List.foldl_cons,foldl_app n,List.replicate_succ,List.flatten_cons]
  apply Array.toList_inj.mp
  simp
theorem flat_nil:∀ n:Nat,(List.replicate n ([]:List Nat)).flatten=[]
 | 0=>rfl
 | n+1=>by rw [List.replicate_succ,List.flatten_cons,flat_nil n]; rfl
theorem strRep_at (x:Str) (n:Nat):strRep x n=if n=0 then Str.empty else if n=1∨x.length=0 then x else ⟨(List.replicate n x.cps).foldl (· ++ ·) #[]⟩:=by
 unfold strRep
 split
 ·rename_i h; subst h; rfl
 ·split
  ·rename_i h
   rcases h with h | h
   ·subst h
    cases x
    simp
   ·obtain ⟨c⟩:=x
    have hc:c = #[]:=Array.eq_empty_of_size_eq_zero h
    subst hc
    show (⟨(List.replicate n ([]:List Nat)).flatten.toArray⟩:Str)=_
    rw [flat_nil]
  ·rw [foldl_app]; simp
theorem op_ok (h:Hyp W X n C Wx) (k:B2) {dx dy:D} {x y:V} {u t:Value} {Q:VK} (I:Inv X pins σ H s) (st:St0 W e μ H) (hx:RepH W e H dx x) (hy:RepH W e H dy y) (rx:RelV x u) (ry:RelV y t)
  (q:Got W e H (evB2 C k dx dy μ) Q (xkA Wx σ)):wpAny (model X.prog X.w) X.A (binaryOp (opB2 k) u t) (EP X pins σ Q) X.xe s:=by
 have ii:∀ {i j:Int},dx = .int i→dy = .int j→(∃ a b,x = .int i∧y = .int j∧u = .int i a∧t = .int j b):=by
  rintro i j rfl rfl
  have hx:x = .int i:=hx
  have hy:y = .int j:=hy
  subst hx hy
  obtain ⟨a,rfl⟩:=rx
  obtain ⟨b,rfl⟩:=ry
  exact ⟨a,b,rfl,rfl,rfl,rfl⟩
 have inst:∀ {c:Nat} {xs ys:List D},dx = .ins c xs→dy = .ins c ys→Got W e H (dcall C k.m dx [dy] μ) Q (xkA Wx σ)→wpAny (model X.prog X.w) X.A (binaryOp (opB2 k) u t) (EP X pins σ Q) X.xe s:=by
  rintro c xs ys rfl rfl q
  exact op_inst h k I st (RepH.of rfl hx) (RepH.of rfl hy) rx ry rfl q
 cases dx with
 | int i =>
  cases dy with
  | int j =>
   obtain ⟨a,b,rfl,rfl,rfl,rfl⟩:=ii rfl rfl
   cases k with
   | add=>exact op_add pins s σ H _ _ _ _ Q I rx ry ⟨i,j,rfl,rfl,q.val st rfl⟩
   | sub=>exact op_sub pins s σ H _ _ _ _ Q I rx ry ⟨i,j,rfl,rfl,q.val st rfl⟩
   | mul =>
    have q:Got W e H (if mulOk i j then .ok (.int (i * j)) μ else .stuck) Q (xkA Wx σ):=q
    cases z:mulOk i j with
    | false=>rw [z] at q; exact q.elim
    | true =>
     rw [z] at q
     exact mul_int ⟨.int _,H,I.tok _,⟨_,rfl⟩,Got.val q st rfl⟩ (mulOk_ok z)
   | fdiv =>
    have q:Got W e H (if j≠0 then .ok (.int (i.fdiv j)) μ else .stuck) Q (xkA Wx σ):=q
    by_cases z:j≠0
    ·rw [if_pos z] at q
     exact floordiv_int z ⟨.int _,H,I.tok _,⟨_,rfl⟩,Got.val q st rfl⟩ (.inr (pylong h I))
    ·rw [if_neg z] at q; exact q.elim
   | mod =>
    have q:Got W e H (if j≠0 then .ok (.int (i.fmod j)) μ else .stuck) Q (xkA Wx σ):=q
    by_cases z:j≠0
    ·rw [if_pos z] at q
     exact mod_int' z ⟨.int _,H,I.tok _,⟨_,rfl⟩,Got.val q st rfl⟩
    ·rw [if_neg z] at q; exact q.elim
   | pow =>
    have q:Got W e H (if 0≤j∧j≤1000000∧i.natAbs < 2^64 then .ok (.int (i^j.toNat)) μ else .stuck) Q (xkA Wx σ):=q
    by_cases z:0≤j∧j≤1000000∧i.natAbs < 2^64
    ·rw [if_pos z] at q
     exact op_pow pins s σ H _ _ _ _ Q I rx ry ⟨i,j,rfl,rfl,z,Got.val q st rfl⟩
    ·rw [if_neg z] at q; exact q.elim
   | bor=>exact q.elim
  | _=>cases k <;> exact q.elim
 | str a =>
  cases dy with
  | str b =>
   cases k with
   | add =>
    have q:Got W e H (if a.length+b.length≤LINE then .ok (.str (a++b)) μ else .stuck) Q (xkA Wx σ):=q
    by_cases z:a.length+b.length≤LINE
    ·rw [if_pos z] at q
     exact op_add_str pins s σ H _ _ _ _ Q I rx ry ⟨a,b,hx,hy,by rw [sizeLine_eq]; exact z,Got.val q st rfl⟩
    ·rw [if_neg z] at q; exact q.elim
   | _=>exact q.elim
  | int i =>
   cases k with
   | mul =>
    have q:Got W e H (if 0≤i∧i≤10000∧a.length * i.toNat≤LINE then .ok (.str (strRep a i.toNat)) μ else .stuck) Q (xkA Wx σ):=q
    by_cases z:0≤i∧i≤10000∧a.length * i.toNat≤LINE
    ·rw [if_pos z] at q
     cases (show x = .str a from hx)
     cases (show y = .int i from hy)
     obtain ⟨tk,rfl⟩:=rx
     obtain ⟨tk2,rfl⟩:=ry
     obtain ⟨z0,z1,z2⟩:=z
     refine PySem.P.mul_str ?_ (fun h1 h2=>?_) (fun h1 h2=>?_) ?_
     ·rw [decide_eq_false (show ¬ i < -(2^63:Int) by omega),decide_eq_false (show ¬ i ≥ 2^63 by omega)]; rfl
     ·have h3:(a.length:Int)≤16777216:=by
       have:a.length≤a.length * i.toNat:=Nat.le_mul_of_pos_right _ (by omega)
       have z2:a.length * i.toNat≤16777216:=z2
       omega
      have h4:(10000:Int) * 16777216≤2^63 - 1:=by decide
      have:(a.length:Int)≤(2^63 - 1) / i:=by
       rw [Int.le_ediv_iff_mul_le (by omega)]
       have h5:(a.length:Int) * i≤16777216 * 10000:=Int.mul_le_mul h3 z1 z0 (by omega)
       omega
      omega
     ·unfold Builtin.Str.tooLong
      rw [sizeLine_eq]
      have z2:a.length * i.toNat≤16777216:=z2
      simp; omega
     ·have v:=Got.val q st rfl
      rw [strRep_at] at v
      split
      ·rename_i h1
       have:i.toNat=0:=by omega
       rw [if_pos this] at v
       exact ⟨by rw [sizeLine_eq]; decide,.str _,H,I.tok _,⟨_,rfl⟩,v⟩
      ·rename_i h1
       rw [if_neg (by omega)] at v
       split
       ·rename_i h2
        rw [if_pos (by
         rcases (Bool.or_eq_true _ _).mp h2 with h2 | h2
         ·left; have:=beq_iff_eq.mp h2; omega
         ·right; exact beq_iff_eq.mp h2)] at v
        exact ⟨.str _,H,I,⟨_,rfl⟩,v⟩
       ·rename_i h2
        rw [if_neg (fun z=>h2 (by
         rw [Bool.or_eq_true]
         rcases z with z | z
         ·left; exact beq_iff_eq.mpr (by omega)
         ·right; exact beq_iff_eq.mpr z))] at v
        refine ⟨?_,.str _,H,I.tok _,⟨_,rfl⟩,v⟩
        rw [foldl_app,sizeLine_eq]
        show ((#[]:Array Nat)++(List.replicate i.toNat a.cps.toList).flatten.toArray).size≤16777216
        simp only [Array.size_append,List.size_toArray,PyProof.Rows.lm_len_rep_flat,Array.length_toList]
        have z2:a.cps.size * i.toNat≤16777216:=z2
        rw [Nat.mul_comm] at z2
        simpa using z2
    ·rw [if_neg z] at q; exact q.elim
   | _=>exact q.elim
  | _=>cases k <;> exact q.elim
 | lst xs =>
  cases dy with
  | lst ys =>
   cases k with
   | add =>
    have q:Got W e H (if xs.length+ys.length≤LINE then .ok (.lst (xs++ys)) μ else .stuck) Q (xkA Wx σ):=q
    by_cases z:xs.length+ys.length≤LINE
    ·rw [if_pos z] at q
     obtain ⟨a,vs,rfl,sa,ra⟩:=hx
     obtain ⟨b,ws,rfl,sb,rb⟩:=hy
     cases rx
     cases ry
     obtain ⟨its,m1,g1,r1,_⟩:=sq_exact h I st sa
     obtain ⟨its2,m2,g2,r2,_⟩:=sq_exact h I st sb
     have z:xs.length+ys.length≤16777216:=z
     have l1:=ra.length
     have l2:=rb.length
     have k1:=r1.length
     have k2:=r2.length
     refine PySem.P.add_list g1 g2 ?_ (by rw [List.size_toArray,List.size_toArray,sizeLine_eq]; omega)
     have hf:H s.heap.objs.size=none:=I.hok.fresh (Nat.le_refl _)
     have ea:its.toArray++its2.toArray=(its++its2).toArray:=by simp
     rw [ea]
     refine ⟨.ref _,_,I.laid (t':=s.toks) (o:=.lst (vs++ws)) (fun b u z=>Heap.get?_push_of_some _ z) (Nat.le_refl _) ?_,rfl,q.newL st (ra.append rb) _ hf⟩
     exact ⟨by rw [List.length_append,sizeLine_eq]; omega,_,0,r1.append r2,Heap.get?_push_size _ rfl⟩
    ·rw [if_neg z] at q; exact q.elim
   | _=>exact q.elim
  | int i =>
   cases k with
   | mul =>
    have q:Got W e H (if xs.length * i.toNat≤LINE ∧ -(2^63)≤i∧i < 2^63 then .ok (.lst (rep xs i.toNat)) μ else .stuck) Q (xkA Wx σ):=q
    by_cases z:xs.length * i.toNat≤LINE ∧ -(2^63)≤i∧i < 2^63
    ·rw [if_pos z] at q
     obtain ⟨a,vs,rfl,sa,ra⟩:=hx
     cases (show y = .int i from hy)
     cases rx
     obtain ⟨tk,rfl⟩:=ry
     obtain ⟨its,m1,g1,r1,_⟩:=sq_exact h I st sa
     have z1:xs.length * i.toNat≤16777216:=z.1
     have l1:=ra.length
     have k1:=r1.length
     have hf:H s.heap.objs.size=none:=I.hok.fresh (Nat.le_refl _)
     have rr:∀ m:Nat,RepL W e (List.replicate m xs).flatten (List.replicate m vs).flatten∧Vals (List.replicate m vs).flatten (List.replicate m its).flatten:=by
      intro m
      induction m with
      | zero=>exact ⟨rfl,.nil⟩
      | succ m ih =>
       simp only [List.replicate_succ,List.flatten_cons]
       exact ⟨ra.append ih.1,r1.append ih.2⟩
     obtain ⟨q1,q2⟩:=rr i.toNat
     have hl:(List.replicate i.toNat vs).flatten.length≤sizeLine:=by
      rw [PyProof.Rows.lm_len_rep_flat,Nat.mul_comm,l1,sizeLine_eq]; exact z1
     refine EvO.mul_list g1 z.2.1 z.2.2 (by rw [sizeLine_eq,← k1,l1]; exact z1) ?_
     refine ⟨.ref _,_,I.laid (t':=s.toks) (o:=.lst (List.replicate i.toNat vs).flatten) (fun b u z=>Heap.get?_push_of_some _ z) (Nat.le_refl _) ?_,rfl,q.newL st q1 _ hf⟩
     exact ⟨hl,_,0,q2,Heap.get?_push_size _ rfl⟩
    ·rw [if_neg z] at q; exact q.elim
   | _=>exact q.elim
  | _=>cases k <;> exact q.elim
 | tup xs =>
  cases dy with
  | tup ys =>
   cases k with
   | add =>
    have q:Got W e H (if xs.length+ys.length≤LINE then .ok (.tup (xs++ys)) μ else .stuck) Q (xkA Wx σ):=q
    by_cases z:xs.length+ys.length≤LINE
    ·rw [if_pos z] at q
     obtain ⟨a,vs,rfl,sa,ra⟩:=hx
     obtain ⟨b,ws,rfl,sb,rb⟩:=hy
     have z:xs.length+ys.length≤16777216:=z
     have l1:=ra.length
     have l2:=rb.length
     refine op_catA pins s σ H _ _ _ _ Q I rx ry ⟨a,b,vs,ws,rfl,rfl,by rw [h.K]; exact sqT_sub sa st.sub,by rw [h.K]; exact sqT_sub sb st.sub,by rw [sizeLine_eq]; omega,fun e0=>?_,fun _ e0=>?_,fun _ _=>q.newT st (ra.append rb)⟩
     ·subst e0
      cases xs with
      | nil=>exact Got.val q st ⟨b,ws,rfl,sb,rb⟩
      | cons x xs=>obtain ⟨_,_,z0,_⟩:=ra; cases z0
     ·subst e0
      cases ys with
      | nil =>
       rw [List.append_nil] at q
       exact Got.val q st ⟨a,vs,rfl,sa,ra⟩
      | cons y ys=>obtain ⟨_,_,z0,_⟩:=rb; cases z0
    ·rw [if_neg z] at q; exact q.elim
   | _=>exact q.elim
  | _=>cases k <;> exact q.elim
 | ins c xs =>
  cases dy with
  | ins c' ys =>
   by_cases z:c'=c
   ·subst z
    cases k <;> exact inst rfl rfl (by have q:Got W e H (if c'=c' then _ else _) Q (xkA Wx σ):=q; rw [if_pos rfl] at q; exact q)
   ·cases k <;> (have q:Got W e H (if c'=c then _ else _) Q (xkA Wx σ):=q; rw [if_neg z] at q; exact q.elim)
  | _=>cases k <;> exact q.elim
 | obj o =>
  cases dy with
  | lst ys =>
   cases k with
   | add =>
    have q:Got W e H (catL μ o ys) Q (xkA Wx σ):=q
    cases hm:μ[o]? with
    | none=>unfold catL at q; rw [hm] at q; exact q.elim
    | some so =>
     cases so with
     | ins _ _=>unfold catL at q; rw [hm] at q; exact q.elim
     | dct _=>unfold catL at q; rw [hm] at q; exact q.elim
     | exn _ _=>unfold catL at q; rw [hm] at q; exact q.elim
     | lst xs =>
      have q:Got W e H (if xs.length+ys.length≤LINE then .ok (.lst (xs++ys)) μ else .stuck) Q (xkA Wx σ):=by
       unfold catL at q
       rw [hm] at q
       exact q
      by_cases z:xs.length+ys.length≤LINE
      ·rw [if_pos z] at q
       obtain ⟨a,rfl,hra⟩:=hx
       obtain ⟨b,ws,rfl,sb,rb⟩:=hy
       cases rx
       cases ry
       obtain ⟨a',ha',vs,j1,ra⟩:=st.cell o _ hm
       rw [hra] at ha'
       cases ha'
       obtain ⟨_,its,m1,r1,g1⟩:=(show Rd H a (.lst vs) from .inl j1).ok I.hok
       obtain ⟨its2,m2,g2,r2,_⟩:=sq_exact h I st sb
       have z:xs.length+ys.length≤16777216:=z
       have l1:=ra.length
       have l2:=rb.length
       have k1:=r1.length
       have k2:=r2.length
       refine PySem.P.add_list g1 g2 ?_ (by rw [List.size_toArray,List.size_toArray,sizeLine_eq]; omega)
       have hf:H s.heap.objs.size=none:=I.hok.fresh (Nat.le_refl _)
       have ea:its.toArray++its2.toArray=(its++its2).toArray:=by simp
       rw [ea]
       refine ⟨.ref _,_,I.laid (t':=s.toks) (o:=.lst (vs++ws)) (fun b u z=>Heap.get?_push_of_some _ z) (Nat.le_refl _) ?_,rfl,q.newL st (ra.append rb) _ hf⟩
       exact ⟨by rw [List.length_append,sizeLine_eq]; omega,_,0,r1.append r2,Heap.get?_push_size _ rfl⟩
      ·rw [if_neg z] at q; exact q.elim
   | _=>exact q.elim
  | obj o2 =>
   have q:Got W e H (if objOk C.T μ k o o2 then dcall C k.m (.obj o) [.obj o2] μ else .stuck) Q (xkA Wx σ):=by cases k <;> exact q
   cases z:objOk C.T μ k o o2 with
   | false=>rw [z] at q; exact q.elim
   | true =>
    rw [z] at q
    have q:Got W e H (dcall C k.m (.obj o) [.obj o2] μ) Q (xkA Wx σ):=q
    have hx:Rep W e (.obj o) x:=hx
    have hy:Rep W e (.obj o2) y:=hy
    unfold objOk at z
    split at z
    ·rename_i c fs c' fs' hc hc'
     simp only [Bool.and_eq_true,Bool.or_eq_true,beq_iff_eq,Bool.not_eq_true'] at z
     obtain ⟨⟨zk,zs⟩,zm⟩:=z
     have ho:clsOf μ (.obj o)=some c:=cls_obj hc
     have ho':clsOf μ (.obj o2)=some c':=cls_obj hc'
     by_cases hcc:c'=c
     ·subst hcc
      exact op_inst h k I st hx hy rx ry (by rw [ho,ho']) q
     ·obtain ⟨c2,a,dx,gs,i,fa,rfl,rfl,hH,hcx,hi,cf,M,_,run⟩:=dcall_ok h I st hx (.cons hy .nil) rx (.cons ry .nil) q
      rw [ho] at hcx; cases hcx
      have hms:=dcall_meth h hi ho q
      obtain ⟨m,od,F,KX,J⟩:=inst_rule I hH
      obtain ⟨b,dy,gs',i',rfl,hH',hi',hx',_⟩:=inst_at st hy ho'
      cases ry
      obtain ⟨m',od',F',KX',J'⟩:=inst_rule I hH'
      have cf':=h.txt.cls c' i' hi' hx'
      have zm':(i'.meths.lookup k.m).isSome=true:=by
       unfold mthd at zm
       rw [h.T,hi'] at zm
       exact zm
      obtain ⟨fm,hfm⟩:=Option.isSome_iff_exists.mp zm'
      obtain ⟨j',hj',hM',_⟩:=cf'.meth k.m fm hfm
      have hk:k∈OPS:=by cases k <;> first | (simp; done) | exact absurd zk (by simp)
      have hne:W.ca c≠W.ca c':=fun z=>hcc (h.txt.inj c' c i' i hi' hi z.symm)
      have hs:isSubc W.T c' c=false:=by
       rcases zs with zs | zs
       ·exact absurd zs hcc
       ·rw [← h.T]; exact zs
      have hsub:PySem.W.subIn X.K (.ref (W.ca c')) (.ref (W.ca c))=some false:=by
       rw [h.K]
       unfold isSubc at hs
       rw [hi'] at hs
       have hs2:i'.mro.contains c=false:=hs
       have zz:=cf'.subs c i hi (by
        obtain ⟨_,_,_,i3,q1,q2,q3,q4,_⟩:=inst_at st hx ho
        rw [hi] at q3; cases q3; exact q4)
       rw [hs2] at zz
       exact zz
      refine EvO.binop_two I.kIn J J'.type (by rw [h.K]; exact cf.first) (by rw [h.K]; exact cf'.first) hne (by rw [← dun_info h.txt k]; exact M.at_) M.fn (by rw [h.K]; exact cf.nor k hk hms)
       (by rw [h.K,← dun_info h.txt k]; exact hM'.at_) (by rw [h.K]; exact cf'.nor k hk zm') hsub ?_
      refine wpAny_mono run (fun r s' z=>?_) fun _ _ z=>z
      obtain ⟨v',H',I',r',q'⟩:=z
      have fin:EP X pins σ Q r s':=⟨v',H',I',r',q'⟩
      cases v' with
      | non=>cases r'; exact fin
      | bl b=>cases r'; exact fin
      | int i=>obtain ⟨t,rfl⟩:=r'; exact fin
      | str i=>obtain ⟨t,rfl⟩:=r'; exact fin
      | byt i=>obtain ⟨t,rfl⟩:=r'; exact fin
      | flt i=>obtain ⟨t,rfl⟩:=r'; exact fin
      | ref a=>cases r'; exact fin
      | ty a=>cases r'; exact fin
    ·cases z
  | int j =>
   cases k with
   | mul =>
    have q:Got W e H (dcall C 2 (.obj o) [.int j] μ) Q (xkA Wx σ):=q
    have hx:Rep W e (.obj o) x:=hx
    cases (show y = .int j from hy)
    obtain ⟨c2,a,dx,gs,i,fa,rfl,rfl,hH,hcx,hi,cf,M,_,run⟩:=dcall_ok h I st hx (.cons (show Rep W e (.int j) (.int j) from rfl) .nil) rx (.cons ry .nil) q
    have hms:=dcall_meth h hi hcx q
    obtain ⟨m,od,F,KX,J⟩:=inst_rule I hH
    obtain ⟨tk,rfl⟩:=ry
    refine PySem.W.ksp_binT (T:= "int") F KX J rfl (by rw [h.K]; exact cf.first) (by rw [show (2:Nat)=(B2.mul).m from rfl,dun_info h.txt .mul] at M; exact M.at_) M.fn (by rw [h.K]; exact cf.nor .mul (by simp) hms) (.inl rfl) (fo:=some (.builtin "int.__mul__")) (ro:=some (.builtin "int.__rmul__")) (by kernel_rfl) (by kernel_rfl) (by kernel_rfl) ?_
    refine wpAny_mono run (fun r s' z=>?_) fun _ _ z=>z
    obtain ⟨v',H',I',r',q'⟩:=z
    have fin:EP X pins σ Q r s':=⟨v',H',I',r',q'⟩
    cases v' with
    | non=>cases r'; exact fin
    | bl b=>cases r'; exact fin
    | int i=>obtain ⟨t,rfl⟩:=r'; exact fin
    | str i=>obtain ⟨t,rfl⟩:=r'; exact fin
    | byt i=>obtain ⟨t,rfl⟩:=r'; exact fin
    | flt i=>obtain ⟨t,rfl⟩:=r'; exact fin
    | ref a=>cases r'; exact fin
    | ty a=>cases r'; exact fin
   | _=>exact q.elim
  | _=>cases k <;> exact q.elim
 | _=>cases k <;> cases dy <;> exact q.elim
end
end Ev
set_option maxRecDepth 100000
set_option maxHeartbeats 2000000
namespace Ev4
open PySem PySem.SeqAt
open AutoSeq1 (wpAny_loadPart')
open MeetsSeq MeetsSeq2 MeetsSeq3 SeqRoads2
abbrev FinOf (prog:Program) (w:World) (A:Around) (R:Result→Shared→Prop):Fin→Shared→Prop:=fun fin s'=>match fin with
 | .done f=>R (.ok f) s'
 | .again c'=>c'.quiet=true∧codeAny (model prog w) A c' R s'
section
variable {prog:Program} {w:World} {A:Around} {R:Result→Shared→Prop}
def LS (l b:Addr) (N:Nat) (s:Shared):Prop:=∃ (items items2:Array Value) (n n2:Nat),s.heap.get? l=some { cls:=.type "list",data:=.seq items n }∧s.heap.get? b=some { cls:=.type "list",data:=.seq items2 n2 }∧items.size=N∧items2.size=N
structure ListI (prog:Program) (w:World) (A:Around) (E:Value→Shared→Prop) (l b:Addr) (N:Nat) (I:Nat→Shared→Prop) (Z:Shared→Prop):Prop where
 ls:∀ i s,I i s→LS l b N s
 zs:∀ s,Z s→LS l b N s
 turn:∀ i s items items2 n n2,I i s→s.heap.get? l=some { cls:=.type "list",data:=.seq items n }→s.heap.get? b=some { cls:=.type "list",data:=.seq items2 n2 }→∀ (h1:i < items.size) (h2:i < items2.size),
  wpAny (model prog w) A.in1 (eqBool items[i] items2[i]) (fun r s'=>if r=true then I (i+1) s' else i < N∧Z s') E s
def codeN (ne:Bool):Int:=if ne then 3 else 2
def opN (ne:Bool):CmpOp:=if ne then .NotEq else .Eq
theorem loopG (ne:Bool) (l b:Addr) (N:Nat) (I:Nat→Shared→Prop) (Z:Shared→Prop) (hl:ListI prog w A (fun e s'=>R (.error e) s') l b N I Z)
  (fin:∀ s,I N s→R (.ok (.ret (.bool (!ne)))) s) (finZ:∀ s,Z s→R (.ok (.ret (.bool ne))) s) (k:Nat) :
  ∀ i:Nat,N - i=k→i≤N→∀ s,I i s →
   wpAny (model prog w) A.in1 (Builtin.«list.__eq__.loop» ⟨[.ref l,.ref b,rawInt i,rawInt (codeN ne)],[]⟩) (FinOf prog w A R) (fun e s'=>R (.error e) s') s:=by
 induction k with
 | zero =>
  intro i hk hi s h
  obtain ⟨items,items2,n,n2,hl1,hb1,hs1,hs2⟩:=hl.ls _ _ h
  have hi':i=N:=by omega
  have hR:=fin s (hi'▸h)
  obtain ⟨hp,g,d,tk,os⟩:=s
  have hi1:items[((i:Nat):Int).toNat]?=none:=by simp; omega
  have hi2:items2[((i:Nat):Int).toNat]?=none:=by simp; omega
  cases ne
  case' false=>(have hc:codeN false=2:=rfl)
  case' true=>(have hc:codeN true=3:=rfl)
  all_goals
   rw [hc]
   wp_walk using wpAny_loadPart' hl1,wpAny_loadPart' hb1
   rw [hi1,hi2]
   wp_walk using wpAny_loadPart' hl1,wpAny_loadPart' hb1
  ·show R (.ok (.ret (.bool (items.size != items2.size)))) _
   rw [hs1,hs2]
   simpa using hR
  ·show R (.ok (.ret (.bool (items.size == items2.size)))) _
   rw [hs1,hs2]
   simpa using hR
 | succ k ih =>
  intro i hk hi s h
  obtain ⟨items,items2,n,n2,hl1,hb1,hs1,hs2⟩:=hl.ls _ _ h
  have hlt:i < items.size:=by omega
  have hlt2:i < items2.size:=by omega
  have ht:=hl.turn i s items items2 n n2 h hl1 hb1 hlt hlt2
  have hi1:items[((i:Nat):Int).toNat]?=some items[i]:=by simp [hlt]
  have hi2:items2[((i:Nat):Int).toNat]?=some items2[i]:=by simp [hlt2]
  have hc1:((i:Int)+1)=((i+1:Nat):Int):=by omega
  cases ne
  case' false=>(have hc:codeN false=2:=rfl)
  case' true=>(have hc:codeN true=3:=rfl)
  all_goals
   rw [hc]
   obtain ⟨hp,g,d,tk,os⟩:=s
   wp_walk using wpAny_loadPart' hl1,wpAny_loadPart' hb1
   rw [hi1,hi2]
   refine wpAny_bind (wpAny_mono ht (fun r s2 h2=>?_) fun _ _ x=>x)
   cases r with
   | true =>
    have hrec:=ih (i+1) (by omega) (by omega) s2 (by simpa using h2)
    obtain ⟨hp2,g2,d2,tk2,os2⟩:=s2
    wp_walk
    rw [hc1]
    exact ⟨plainId_quiet plain_eq_loop _,codeAny_builtin entry_eq_loop (by
     rw [Around.under_plainId plain_eq_loop _]
     rw [hc] at hrec
     exact hrec)⟩
   | false =>
    have h2:i < N∧Z s2:=by simpa using h2
    obtain ⟨hiN,h2⟩:=h2
    obtain ⟨jt,jt2,m,m2,e1,e2,z1,z2⟩:=hl.zs _ h2
    have hR:=finZ s2 h2
    have hj1:jt[((i:Nat):Int).toNat]?=some (jt[i]'(by omega)):=by first | (simp; done) | (simp; omega)
    have hj2:jt2[((i:Nat):Int).toNat]?=some (jt2[i]'(by omega)):=by first | (simp; done) | (simp; omega)
    obtain ⟨hp2,g2,d2,tk2,os2⟩:=s2
    wp_walk using wpAny_loadPart' e1,wpAny_loadPart' e2
    rw [hj1,hj2]
    wp_walk
    exact hR
theorem list_cmpG (ne:Bool) (l b:Addr) (N:Nat) (I:Nat→Shared→Prop) (Z:Shared→Prop) (hl:ListI prog w A (fun e s'=>R (.error e) s') l b N I Z)
  (fin:∀ s,I N s→R (.ok (.ret (.bool (!ne)))) s) (finZ:∀ s,Z s→R (.ok (.ret (.bool ne))) s) {s:Shared} (h:I 0 s) :
  wpAny (model prog w) A.in1 ((if ne then Builtin.«list.__ne__» else Builtin.«list.__eq__») ⟨[.ref l,.ref b],[]⟩) (FinOf prog w A R) (fun e s'=>R (.error e) s') s:=by
 obtain ⟨items,items2,n,n2,hl1,hb1,hs1,hs2⟩:=hl.ls _ _ h
 have hrec:=loopG (A:=A) (R:=R) ne l b N I Z hl fin finZ _ 0 rfl (Nat.zero_le _) s h
 obtain ⟨hp,g,d,tk,os⟩:=s
 have f3:=AutoSeq1.sub_list_list
 have hne:¬ (items.size != items2.size)=true:=by simp [hs1,hs2]
 cases ne
 all_goals
  simp only [Bool.false_eq_true,if_false,if_true]
  wp_walk using wpAny_loadPart' hl1,wpAny_loadPart' hb1
  exact ⟨plainId_quiet plain_eq_loop _,codeAny_builtin entry_eq_loop (by
   rw [Around.under_plainId plain_eq_loop _]
   exact hrec)⟩
theorem list_cmpL (ne:Bool) (l b:Addr) {items items2:Array Value} {n n2:Nat} {s:Shared} (hl1:s.heap.get? l=some { cls:=.type "list",data:=.seq items n }) (hb1:s.heap.get? b=some { cls:=.type "list",data:=.seq items2 n2 }) (hs:items.size≠items2.size)
  (h:R (.ok (.ret (.bool ne))) s):wpAny (model prog w) A.in1 ((if ne then Builtin.«list.__ne__» else Builtin.«list.__eq__») ⟨[.ref l,.ref b],[]⟩) (FinOf prog w A R) (fun e s'=>R (.error e) s') s:=by
 obtain ⟨hp,g,d,tk,os⟩:=s
 have f3:=AutoSeq1.sub_list_list
 have hne:(items.size != items2.size)=true:=by simpa using hs
 cases ne
 all_goals
  simp only [Bool.false_eq_true,if_false,if_true]
  wp_walk using wpAny_loadPart' hl1,wpAny_loadPart' hb1
  exact h
theorem tuple_cmpG (ne:Bool) (l b:Addr) (items items2:Array Value) (n n2:Nat) (dd dd2:Option Addr) (sl sl2:Array (Option Value)) (I:Nat→Shared→Prop) (Z:Shared→Prop)
  (turn:∀ i (h1:i < items.size) (h2:i < items2.size) s,I i s→wpAny (model prog w) A.in1 (eqBool items[i] items2[i]) (fun r s'=>if r=true then I (i+1) s' else Z s') (fun e s'=>R (.error e) s') s)
  (fin:∀ s,I (min items.size items2.size) s→R (.ok (.ret (.bool ((items.size == items2.size) != ne)))) s) (finZ:∀ s,Z s→R (.ok (.ret (.bool ne))) s)
  {s:Shared} (hl1:s.heap.get? l=some { cls:=.type "tuple",dict:=dd,data:=.seq items n,slots:=sl }) (hb1:s.heap.get? b=some { cls:=.type "tuple",dict:=dd2,data:=.seq items2 n2,slots:=sl2 }) (h:I 0 s) :
  wpAny (model prog w) A.in1 ((if ne then Builtin.«tuple.__ne__» else Builtin.«tuple.__eq__») ⟨[.ref l,.ref b],[]⟩) (FinOf prog w A R) (fun e s'=>R (.error e) s') s:=by
 have f2:=AutoSeq1.sub_tuple_tuple
 have hZ:(items.toList.zip items2.toList).length=min items.size items2.size:=by simp
 have h0:=h
 obtain ⟨hp,g,d,tk,os⟩:=s
 cases ne
 all_goals
  simp only [Bool.false_eq_true,if_false,if_true]
  wp_walk using wpAny_loadPart' hl1,wpAny_loadPart' hb1,wpAny_forIn_list _ (fun rest b s'=>b.1=none∧∃ i,rest=(items.toList.zip items2.toList).drop i∧i≤min items.size items2.size∧I i s') _
  case turn =>
   rintro ⟨y,x⟩ rest b s' ⟨hb',i,hz,hi,hI⟩
   have hlt:i < (items.toList.zip items2.toList).length:=by
    rcases Nat.lt_or_ge i (items.toList.zip items2.toList).length with h' | h'
    ·exact h'
    ·rw [List.drop_of_length_le h'] at hz; cases hz
   have hm:i < min items.size items2.size:=hZ▸hlt
   have h1:i < items.size:=Nat.lt_of_lt_of_le hm (Nat.min_le_left _ _)
   have h2:i < items2.size:=Nat.lt_of_lt_of_le hm (Nat.min_le_right _ _)
   rw [List.drop_eq_getElem_cons hlt] at hz
   injection hz with hyx hrest
   have hy:y=items[i]:=by have:=congrArg Prod.fst hyx; simpa using this
   have hx:x=items2[i]:=by have:=congrArg Prod.snd hyx; simpa using this
   subst hy hx
   refine wpAny_bind (wpAny_mono (turn i h1 h2 s' hI) (fun r s2 q2=>?_) fun _ _ x=>x)
   cases r with
   | true =>
    wp_walk
    exact ⟨rfl,i+1,hrest,hm,by simpa using q2⟩
   | false =>
    have q2:Z s2:=by simpa using q2
    have hR:=finZ s2 q2
    wp_walk
    first
    | exact hR
    | exact ⟨_,rfl,hR⟩
  case fin =>
   rintro ⟨b1,b2⟩ s' ⟨hb',i,hz,hi,hI⟩
   simp only at hb'
   subst hb'
   have hge:min items.size items2.size≤i:=by
    rcases Nat.lt_or_ge i (items.toList.zip items2.toList).length with h' | h'
    ·rw [List.drop_eq_getElem_cons h'] at hz; cases hz
    ·exact hZ▸h'
   have hi':i=min items.size items2.size:=by omega
   have hR:=fin s' (hi'▸hI)
   wp_walk
   simpa [Builtin.Tuple.tupleCompareSizes,bne] using hR
  case h =>
   exact ⟨rfl,0,rfl,Nat.zero_le _,h0⟩
end
section
variable {prog:Program} {w:World} {A:Around} {E:Value→Shared→Prop} {s:Shared}
theorem call_here {T:String} {name:Str} {id:String} {B:Builtin} {self:Value} {rest:List Value} {Q:Value→Shared→Prop} (slot:Slot T name id) (hT:s.TypeIs self T)
  (entry:entryFor table id=some B) (args:argsOk id ⟨self::rest,[]⟩)
  (h:wpAny (model prog w) A.in1 (B ⟨self::rest,[]⟩) (FinOf prog w A (wants Q E)) (fun e s'=>wants Q E (.error e) s') s) :
  wpAny (model prog w) A (call (.builtin id) (self::rest)) Q E s:=
 wpAny_call (codeAny_call_builtin slot.plain entry (slot.check _ _ _ _ _ _ _ _ hT args h))
theorem rc_list {ne:Bool} {l b:Addr} {N:Nat} {Q:Value→Shared→Prop} (hu:A.units < cLine) (I:Nat→Shared→Prop) (Z:Shared→Prop) (hl:ListI prog w A E l b N I Z)
  (fin:∀ s,I N s→Q (.bool (!ne)) s) (finZ:∀ s,Z s→Q (.bool ne) s) (h:I 0 s):wpAny (model prog w) A (richCompare (opN ne) (.ref l) (.ref b)) Q E s:=by
 obtain ⟨items,items2,n,n2,hl1,hb1,_,_⟩:=hl.ls _ _ h
 have c:=list_cmpG (A:=A) (R:=wants (fun v s'=>v ≠ .notImplemented∧Q v s') E) ne l b N I Z hl (fun s' q=>⟨(fun x=>nomatch x),fin s' q⟩) (fun s' q=>⟨(fun x=>nomatch x),finZ s' q⟩) h
 cases ne with
 | false=>exact wpAny_richCompare_same_room (op:=.Eq) ⟨_,hl1,rfl⟩ ⟨_,hb1,rfl⟩ F.slot_list_eq (call_here F.slot_list_eq ⟨_,hl1,rfl⟩ F.entry_list_eq (F.args_list_eq_2 _ _) c) hu
 | true=>exact wpAny_richCompare_same_room (op:=.NotEq) ⟨_,hl1,rfl⟩ ⟨_,hb1,rfl⟩ F.slot_list_ne (call_here F.slot_list_ne ⟨_,hl1,rfl⟩ F.entry_list_ne (F.args_list_ne_2 _ _) c) hu
theorem rc_listL {ne:Bool} {l b:Addr} {items items2:Array Value} {n n2:Nat} {Q:Value→Shared→Prop} (hu:A.units < cLine) (hl1:s.heap.get? l=some { cls:=.type "list",data:=.seq items n }) (hb1:s.heap.get? b=some { cls:=.type "list",data:=.seq items2 n2 }) (hs:items.size≠items2.size)
  (h:Q (.bool ne) s):wpAny (model prog w) A (richCompare (opN ne) (.ref l) (.ref b)) Q E s:=by
 have c:=list_cmpL (prog:=prog) (w:=w) (A:=A) (R:=wants (fun v s'=>v ≠ .notImplemented∧Q v s') E) ne l b hl1 hb1 hs ⟨(fun x=>nomatch x),h⟩
 cases ne with
 | false=>exact wpAny_richCompare_same_room (op:=.Eq) ⟨_,hl1,rfl⟩ ⟨_,hb1,rfl⟩ F.slot_list_eq (call_here F.slot_list_eq ⟨_,hl1,rfl⟩ F.entry_list_eq (F.args_list_eq_2 _ _) c) hu
 | true=>exact wpAny_richCompare_same_room (op:=.NotEq) ⟨_,hl1,rfl⟩ ⟨_,hb1,rfl⟩ F.slot_list_ne (call_here F.slot_list_ne ⟨_,hl1,rfl⟩ F.entry_list_ne (F.args_list_ne_2 _ _) c) hu
theorem rc_tup {ne:Bool} {l b:Addr} {items items2:Array Value} {Q:Value→Shared→Prop} (hu:A.units < cLine) (I:Nat→Shared→Prop) (Z:Shared→Prop) (hl:s.heap.IsTuple l items) (hb:s.heap.IsTuple b items2)
  (turn:∀ i (h1:i < items.size) (h2:i < items2.size) s,I i s→wpAny (model prog w) A.in1 (eqBool items[i] items2[i]) (fun r s'=>if r=true then I (i+1) s' else Z s') E s)
  (fin:∀ s,I (min items.size items2.size) s→Q (.bool ((items.size == items2.size) != ne)) s) (finZ:∀ s,Z s→Q (.bool ne) s) (h:I 0 s):wpAny (model prog w) A (richCompare (opN ne) (.ref l) (.ref b)) Q E s:=by
 obtain ⟨⟨cls,dd,data,sl⟩,ho,hc,n,hd⟩:=id hl
 obtain ⟨⟨cls2,dd2,data2,sl2⟩,ho2,hc2,n2,hd2⟩:=id hb
 simp only at hc hd hc2 hd2
 subst hc hd hc2 hd2
 have c:=tuple_cmpG (prog:=prog) (w:=w) (A:=A) (R:=wants (fun v s'=>v ≠ .notImplemented∧Q v s') E) ne l b items items2 n n2 dd dd2 sl sl2 I Z turn (fun s' q=>⟨(fun x=>nomatch x),fin s' q⟩) (fun s' q=>⟨(fun x=>nomatch x),finZ s' q⟩) ho ho2 h
 cases ne with
 | false=>exact wpAny_richCompare_same_room (op:=.Eq) ⟨_,ho,rfl⟩ ⟨_,ho2,rfl⟩ F.slot_tuple_eq (call_here F.slot_tuple_eq ⟨_,ho,rfl⟩ F.entry_tuple_eq (F.args_tuple_eq_2 _ _) c) hu
 | true=>exact wpAny_richCompare_same_room (op:=.NotEq) ⟨_,ho,rfl⟩ ⟨_,ho2,rfl⟩ F.slot_tuple_ne (call_here F.slot_tuple_ne ⟨_,ho,rfl⟩ F.entry_tuple_ne (F.args_tuple_ne_2 _ _) c) hu
end
end Ev4
set_option maxRecDepth 100000
set_option maxHeartbeats 2000000
namespace Ev
open PySem PySem.Spec PyProof.Rows L2 PySem.W
section
variable {prog:Program} {w:World} {A:Around} {E:Value→Shared→Prop} {s:Shared} {K:Frag} {x C L f:Addr} {h₀:Heap} {m:Str→Option Value} {ox:Obj} {od:Option Obj} {b tb:Value}
theorem one_bind (self:Value):bindSpecial (.builtin "object.__ne__") self=pure (.builtin "object.__ne__",[self]):=
 (Slot.of (T:= "object") (name:= "__ne__") (owner:= "object") (n:= "__ne__") (by rw [typeLookup_type,builtinLookup_eq_fast]; kernel_rfl) (by decide +kernel) (by decide +kernel) (by decide +kernel)
  (.inl (by decide +kernel)) (by rw [isSubtype_type]; kernel_rfl)).bind self
theorem one_plain:plainId "object.__ne__" = true:=by decide +kernel
end
section
variable {W:Wd} {X:Cx} {n:Nat} {C:Cl} {Wx:WX} {pins:List (Addr×Obj)} {σ:L2.St} {H:Hp} {s:Shared} {e:Em} {μ:Mu}
theorem FldsAt.fun_ {T:Tb} {ks:List Nat} {gs:List (Str×V)} {vs us:List V} (f:FldsAt T ks gs vs) (g:FldsAt T ks gs us):vs=us:=by
 apply List.ext_getElem?
 intro j
 by_cases hj:j < ks.length
 ·obtain ⟨v,a,b⟩:=f.at_ j ks[j] (by simp [hj])
  obtain ⟨u,a',b'⟩:=g.at_ j ks[j] (by simp [hj])
  rw [a,a',← b,← b']
 ·rw [List.getElem?_eq_none (by rw [f.len]; omega),List.getElem?_eq_none (by rw [g.len]; omega)]
theorem store_sqx (I:Inv X pins σ H s) (h:Hyp W X n C Wx) (st:St0 W e μ H) {o:Nat} {a:Addr} {vs:List V} (g:e.r o=some a) (q:SqX W.K e.G a vs):False:=by
 rcases q with (q | ⟨_,q⟩) | ⟨its,m,h1,_⟩
 ·rw [st.free o a g] at q; cases q
 ·rw [st.free o a g] at q; cases q
 ·rw [← h.K] at h1
  have z:=(I.bs a _ (I.mod.kin _ _ h1)).2
  obtain ⟨u,hu⟩:=st.rH g
  rw [z] at hu; cases hu
theorem store_sqt (I:Inv X pins σ H s) (h:Hyp W X n C Wx) (st:St0 W e μ H) {o:Nat} {a:Addr} {vs:List V} (g:e.r o=some a) (q:SqT W.K e.G a vs):False:=by
 rcases q with (q | ⟨_,q⟩) | ⟨ob,its,m,h1,_⟩
 ·rw [st.free o a g] at q; cases q
 ·rw [st.free o a g] at q; cases q
 ·rw [← h.K] at h1
  have z:=(I.bs a _ (I.mod.kin _ _ h1)).2
  obtain ⟨u,hu⟩:=st.rH g
  rw [z] at hu; cases hu
mutual
theorem Rep.inj (h:Hyp W X n C Wx) (I:Inv X pins σ H s) (st:St0 W e μ H):∀ (x y:D) (v:V),Rep W e x v→Rep W e y v→x=y
 | .non,y,v,hx,hy=>by
  have hx:v = .non:=hx
  subst hx
  cases y with
  | non=>rfl
  | bl b=>cases (show V.non = .bl b from hy)
  | int b=>cases (show V.non = .int b from hy)
  | str b=>cases (show V.non = .str b from hy)
  | tup b=>obtain ⟨a,vs,z,_⟩:=hy; cases z
  | lst b=>obtain ⟨a,vs,z,_⟩:=hy; cases z
  | ins c b=>obtain ⟨a,dx,gs,vs,i,z,_⟩:=hy; cases z
  | obj o=>obtain ⟨a,z,_⟩:=hy; cases z
  | bor _ _=>exact hy.elim
  | opq=>exact hy.elim
 | .bl k,y,v,hx,hy=>by
  have hx:v = .bl k:=hx
  subst hx
  cases y with
  | non=>cases (show V.bl k = .non from hy)
  | bl b=>cases (show V.bl k = .bl b from hy); rfl
  | int b=>cases (show V.bl k = .int b from hy)
  | str b=>cases (show V.bl k = .str b from hy)
  | tup b=>obtain ⟨a,vs,z,_⟩:=hy; cases z
  | lst b=>obtain ⟨a,vs,z,_⟩:=hy; cases z
  | ins c b=>obtain ⟨a,dx,gs,vs,i,z,_⟩:=hy; cases z
  | obj o=>obtain ⟨a,z,_⟩:=hy; cases z
  | bor _ _=>exact hy.elim
  | opq=>exact hy.elim
 | .int k,y,v,hx,hy=>by
  have hx:v = .int k:=hx
  subst hx
  cases y with
  | non=>cases (show V.int k = .non from hy)
  | bl b=>cases (show V.int k = .bl b from hy)
  | int b=>cases (show V.int k = .int b from hy); rfl
  | str b=>cases (show V.int k = .str b from hy)
  | tup b=>obtain ⟨a,vs,z,_⟩:=hy; cases z
  | lst b=>obtain ⟨a,vs,z,_⟩:=hy; cases z
  | ins c b=>obtain ⟨a,dx,gs,vs,i,z,_⟩:=hy; cases z
  | obj o=>obtain ⟨a,z,_⟩:=hy; cases z
  | bor _ _=>exact hy.elim
  | opq=>exact hy.elim
 | .str k,y,v,hx,hy=>by
  have hx:v = .str k:=hx
  subst hx
  cases y with
  | non=>cases (show V.str k = .non from hy)
  | bl b=>cases (show V.str k = .bl b from hy)
  | int b=>cases (show V.str k = .int b from hy)
  | str b=>cases (show V.str k = .str b from hy); rfl
  | tup b=>obtain ⟨a,vs,z,_⟩:=hy; cases z
  | lst b=>obtain ⟨a,vs,z,_⟩:=hy; cases z
  | ins c b=>obtain ⟨a,dx,gs,vs,i,z,_⟩:=hy; cases z
  | obj o=>obtain ⟨a,z,_⟩:=hy; cases z
  | bor _ _=>exact hy.elim
  | opq=>exact hy.elim
 | .tup xs,y,v,hx,hy=>by
  obtain ⟨a,vs,rfl,h1,h2⟩:=hx
  have t1:SqT X.K H a vs:=by rw [h.K]; exact sqT_sub h1 st.sub
  cases y with
  | non=>cases (show V.ref a = .non from hy)
  | bl b=>cases (show V.ref a = .bl b from hy)
  | int b=>cases (show V.ref a = .int b from hy)
  | str b=>cases (show V.ref a = .str b from hy)
  | tup b =>
   obtain ⟨a',us,z,g1,g2⟩:=hy
   cases z
   have t2:SqT X.K H a us:=by rw [h.K]; exact sqT_sub g1 st.sub
   have e1:=I.tuple_inj t1 t2
   subst e1
   rw [RepL.inj h I st xs b vs h2 g2]
  | lst b =>
   obtain ⟨a',us,z,g1,g2⟩:=hy
   cases z
   obtain ⟨its,m,q,_⟩:=sq_exact h I st g1
   obtain ⟨_,_,⟨o,q',hc,_⟩,_⟩:=I.tuple t1
   rw [q] at q'; cases q'
   exact absurd hc (by simp)
  | ins c b =>
   obtain ⟨a',dx,gs,us,i,z,g1,_⟩:=hy
   cases z
   obtain ⟨_,_,_,q,_⟩:=I.hok a _ (st.sub _ _ g1)
   obtain ⟨_,_,⟨o,q',hc,_⟩,_⟩:=I.tuple t1
   rw [q] at q'; cases q'
   exact absurd hc (by simp [PySem.W.instObj])
  | obj o =>
   obtain ⟨a',z,g1⟩:=hy
   cases z
   exact (store_sqt I h st g1 h1).elim
  | bor _ _=>exact hy.elim
  | opq=>exact hy.elim
 | .lst xs,y,v,hx,hy=>by
  obtain ⟨a,vs,rfl,h1,h2⟩:=hx
  obtain ⟨its,m,q1,r1,_⟩:=sq_exact h I st h1
  have t1:SqL X.K H a vs:=by rw [h.K]; exact h1.sq st.sub
  cases y with
  | non=>cases (show V.ref a = .non from hy)
  | bl b=>cases (show V.ref a = .bl b from hy)
  | int b=>cases (show V.ref a = .int b from hy)
  | str b=>cases (show V.ref a = .str b from hy)
  | tup b =>
   obtain ⟨a',us,z,g1,g2⟩:=hy
   cases z
   have t2:SqT X.K H a us:=by rw [h.K]; exact sqT_sub g1 st.sub
   obtain ⟨_,_,⟨o,q',hc,_⟩,_⟩:=I.tuple t2
   rw [q1] at q'; cases q'
   exact absurd hc (by simp)
  | lst b =>
   obtain ⟨a',us,z,g1,g2⟩:=hy
   cases z
   have t2:SqL X.K H a us:=by rw [h.K]; exact g1.sq st.sub
   have e1:=I.list_inj t1 t2
   subst e1
   rw [RepL.inj h I st xs b vs h2 g2]
  | ins c b =>
   obtain ⟨a',dx,gs,us,i,z,g1,_⟩:=hy
   cases z
   obtain ⟨_,_,_,q,_⟩:=I.hok a _ (st.sub _ _ g1)
   rw [q1] at q; simp [PySem.W.instObj] at q
  | obj o =>
   obtain ⟨a',z,g1⟩:=hy
   cases z
   exact (store_sqx I h st g1 h1).elim
  | bor _ _=>exact hy.elim
  | opq=>exact hy.elim
 | .ins c fs,y,v,hx,hy=>by
  obtain ⟨a,dx,gs,vs,i,rfl,h1,h2,h3,h4,h5⟩:=hx
  cases y with
  | non=>cases (show V.ref a = .non from hy)
  | bl b=>cases (show V.ref a = .bl b from hy)
  | int b=>cases (show V.ref a = .int b from hy)
  | str b=>cases (show V.ref a = .str b from hy)
  | tup b =>
   obtain ⟨a',us,z,g1,g2⟩:=hy
   cases z
   have t2:SqT X.K H a us:=by rw [h.K]; exact sqT_sub g1 st.sub
   obtain ⟨_,_,⟨o,q',hc,_⟩,_⟩:=I.tuple t2
   obtain ⟨_,_,_,q,_⟩:=I.hok a _ (st.sub _ _ h1)
   rw [q] at q'; cases q'
   exact absurd hc (by simp [PySem.W.instObj])
  | lst b =>
   obtain ⟨a',us,z,g1,g2⟩:=hy
   cases z
   obtain ⟨its,m,q1,r1,_⟩:=sq_exact h I st g1
   obtain ⟨_,_,_,q,_⟩:=I.hok a _ (st.sub _ _ h1)
   rw [q1] at q; simp [PySem.W.instObj] at q
  | ins c' b =>
   obtain ⟨a',dx',gs',us,i',z,g1,g2,g3,g4,g5⟩:=hy
   cases z
   rw [h1] at g1
   injection g1 with g1
   injection g1 with k1 k2 k3
   have ec:=h.txt.inj c c' i i' h2 g2 k1
   subst ec k3
   rw [h2] at g2; cases g2
   have ev:=h4.fun_ g4
   subst ev
   rw [RepL.inj h I st fs b vs h5 g5]
  | obj o =>
   obtain ⟨a',z,g1⟩:=hy
   cases z
   rw [st.free o a g1] at h1; cases h1
  | bor _ _=>exact hy.elim
  | opq=>exact hy.elim
 | .obj o,y,v,hx,hy=>by
  obtain ⟨a,rfl,g1⟩:=hx
  cases y with
  | non=>cases (show V.ref a = .non from hy)
  | bl b=>cases (show V.ref a = .bl b from hy)
  | int b=>cases (show V.ref a = .int b from hy)
  | str b=>cases (show V.ref a = .str b from hy)
  | tup b =>
   obtain ⟨a',us,z,h1,_⟩:=hy
   cases z
   exact (store_sqt I h st g1 h1).elim
  | lst b =>
   obtain ⟨a',us,z,h1,_⟩:=hy
   cases z
   exact (store_sqx I h st g1 h1).elim
  | ins c' b =>
   obtain ⟨a',dx',gs',us,i',z,h1,_⟩:=hy
   cases z
   rw [st.free o a g1] at h1; cases h1
  | obj o' =>
   obtain ⟨a',z,g2⟩:=hy
   cases z
   rw [st.inj o o' a g1 g2]
  | bor _ _=>exact hy.elim
  | opq=>exact hy.elim
 | .bor _ _,_,_,hx,_=>hx.elim
 | .opq,_,_,hx,_=>hx.elim
theorem RepL.inj (h:Hyp W X n C Wx) (I:Inv X pins σ H s) (st:St0 W e μ H):∀ (xs ys:List D) (vs:List V),RepL W e xs vs→RepL W e ys vs→xs=ys
 | [],ys,vs,hx,hy=>by
  have hx:vs=[]:=hx
  subst hx
  cases ys with
  | nil=>rfl
  | cons y ys=>obtain ⟨v,r,z,_⟩:=hy; cases z
 | x::xs,ys,vs,hx,hy=>by
  obtain ⟨v,r,rfl,h1,h2⟩:=hx
  cases ys with
  | nil=>cases (show v::r=[] from hy)
  | cons y ys =>
   obtain ⟨v',r',z,g1,g2⟩:=hy
   cases z
   rw [Rep.inj h I st x y v h1 g1,RepL.inj h I st xs ys r h2 g2]
end
end
end Ev
set_option maxRecDepth 100000
set_option maxHeartbeats 2000000
namespace EvE
open PySem PySem.Spec PyProof.Rows PySem.W Ev
section
variable {prog:Program} {w:World} {A:Around} {E:Value→Shared→Prop} {s:Shared} {K:Frag}
def nmN (ne:Bool):Str:=if ne then "__ne__" else "__eq__"
abbrev Then2 (prog:Program) (w:World) (A:Around) (E:Value→Shared→Prop) (ne:Bool) (a b:Value) (Q:Value→Shared→Prop):Option Value→Shared→Prop:=fun r s1=>match r with
 | some v=>Q v s1
 | none=>wpAny (model prog w) A (tryCompare b (nmN ne) a) (fun r s2=>match r with
  | some v=>Q v s2
  | none=>wpAny (model prog w) A (isSame a b) (fun k s3=>Q (.bool (k != ne)) s3) E s2) E s1
theorem rc_any {ne:Bool} {a b ta tb:Value} {Q:Value→Shared→Prop} (h1:oneThing? (Ev4.opN ne) a b=none) (hu:A.units < cLine) (ha:Looks (model prog w) s.heap (typeOf a) ta) (hb:Looks (model prog w) s.heap (typeOf b) tb)
  (hs:(ta != tb)=true→Looks (model prog w) s.heap (isSubtype tb ta) false) (h:wpAny (model prog w) A (tryCompare a (nmN ne) b) (Then2 prog w A E ne a b Q) E s):wpAny (model prog w) A (richCompare (Ev4.opN ne) a b) Q E s:=by
 cases ne
 all_goals
  unfold richCompare
  simp only [Ev4.opN,Bool.false_eq_true,if_false,if_true] at h1 ⊢
  rw [h1]
  refine wpAny_holding (wpAny_bind (wpAny_cRoomFor hu ?_))
  refine wpAny_bind (ha.here (wpAny_bind (hb.here ?_)))
  split
  ·rename_i q
   refine wpAny_bind ((hs q).here ?_)
   simp only [Bool.false_eq_true,if_false,Bool.not_false,if_true]
   refine wpAny_bind (wpAny_mono h (fun r s1 q=>?_) fun _ _ z=>z)
   cases r with
   | some v=>exact wpAny_pure q
   | none =>
    refine wpAny_bind (wpAny_mono q (fun r s2 q=>?_) fun _ _ z=>z)
    cases r with
    | some v=>exact wpAny_pure q
    | none=>exact wpAny_bind (wpAny_rule (wpAny_bind (wpAny_mono q (fun k s3 q=>wpAny_pure (by cases k <;> exact q)) fun _ _ z=>z)))
  ·refine wpAny_bind (wpAny_pure ?_)
   simp only [Bool.false_eq_true,if_false,Bool.not_false,if_true]
   refine wpAny_bind (wpAny_mono h (fun r s1 q=>?_) fun _ _ z=>z)
   cases r with
   | some v=>exact wpAny_pure q
   | none =>
    refine wpAny_bind (wpAny_mono q (fun r s2 q=>?_) fun _ _ z=>z)
    cases r with
    | some v=>exact wpAny_pure q
    | none=>exact wpAny_bind (wpAny_rule (wpAny_bind (wpAny_mono q (fun k s3 q=>wpAny_pure (by cases k <;> exact q)) fun _ _ z=>z)))
variable {ne:Bool} {b:Value} {Q:Option Value→Shared→Prop}
theorem gives_none (hb:(b == Value.none)=false):Gives ((if ne then Builtin.«NoneType.__ne__» else Builtin.«NoneType.__eq__») ⟨[.none,b],[]⟩) (.val (Value.notImplemented)):=
 .of_wp fun M A E s Q h=>by
  obtain ⟨hp,g,d,tk,os⟩:=s
  have e:(([b]:List Value).headD .none == Value.none)=false:=hb
  cases ne
  all_goals
   simp only [Bool.false_eq_true,if_false,if_true]
   wp_walk
   simp only [hb,e,Bool.false_eq_true,if_false]
   exact ⟨_,rfl,h⟩
theorem dec_none (hb:(b == Value.none)=false) (h:Q none s):wpAny (model prog w) A (tryCompare .none (nmN ne) b) Q E s:=by
 have g:=gives_none (ne:=ne) hb
 cases ne
 ·exact wpAny_tryCompare_declines (T:= "NoneType") rfl F.slot_NoneType_eq (call_gives F.slot_NoneType_eq rfl F.entry_NoneType_eq (F.args_NoneType_eq_2 _ _) g ⟨rfl,h⟩)
 ·exact wpAny_tryCompare_declines (T:= "NoneType") rfl F.slot_NoneType_ne (call_gives F.slot_NoneType_ne rfl F.entry_NoneType_ne (F.args_NoneType_ne_2 _ _) g ⟨rfl,h⟩)
theorem dec_tup {a:Addr} (ha:s.TypeIs (.ref a) "tuple") (hb:Looks (model prog w) s.heap (isInstance b (.type "tuple")) false) (h:Q none s):wpAny (model prog w) A (tryCompare (.ref a) (nmN ne) b) Q E s:=by
 have g:wpAny (model prog w) A.in1 ((if ne then Builtin.«tuple.__ne__» else Builtin.«tuple.__eq__») ⟨[.ref a,b],[]⟩) (Ev4.FinOf prog w A (wants (fun v s'=>v = .notImplemented∧Q none s') E)) (fun e s'=>wants (fun v s'=>v = .notImplemented∧Q none s') E (.error e) s') s:=by
  cases ne
  all_goals
   obtain ⟨hp,g,d,tk,os⟩:=s
   simp only [Bool.false_eq_true,if_false,if_true]
   wp_walk using hb.here
   exact ⟨rfl,h⟩
 cases ne
 ·exact wpAny_tryCompare_declines ha F.slot_tuple_eq (Ev4.call_here F.slot_tuple_eq ha F.entry_tuple_eq (F.args_tuple_eq_2 _ _) g)
 ·exact wpAny_tryCompare_declines ha F.slot_tuple_ne (Ev4.call_here F.slot_tuple_ne ha F.entry_tuple_ne (F.args_tuple_ne_2 _ _) g)
theorem dec_lst {a:Addr} (ha:s.TypeIs (.ref a) "list") (hb:Looks (model prog w) s.heap (isInstance b (.type "list")) false) (h:Q none s):wpAny (model prog w) A (tryCompare (.ref a) (nmN ne) b) Q E s:=by
 have g:wpAny (model prog w) A.in1 ((if ne then Builtin.«list.__ne__» else Builtin.«list.__eq__») ⟨[.ref a,b],[]⟩) (Ev4.FinOf prog w A (wants (fun v s'=>v = .notImplemented∧Q none s') E)) (fun e s'=>wants (fun v s'=>v = .notImplemented∧Q none s') E (.error e) s') s:=by
  cases ne
  all_goals
   obtain ⟨hp,g,d,tk,os⟩:=s
   simp only [Bool.false_eq_true,if_false,if_true]
   wp_walk using hb.here
   exact ⟨rfl,h⟩
 cases ne
 ·exact wpAny_tryCompare_declines ha F.slot_list_eq (Ev4.call_here F.slot_list_eq ha F.entry_list_eq (F.args_list_eq_2 _ _) g)
 ·exact wpAny_tryCompare_declines ha F.slot_list_ne (Ev4.call_here F.slot_list_ne ha F.entry_list_ne (F.args_list_ne_2 _ _) g)
end
section
variable {prog:Program} {w:World} {A:Around} {E:Value→Shared→Prop} {s:Shared} {K:Frag} {x C L f:Addr} {h₀:Heap} {m:Str→Option Value} {ox:Obj} {od:Option Obj} {b tb:Value} {ne:Bool} {Q:Option Value→Shared→Prop}
theorem eq_bind (self:Value):bindSpecial (.builtin "object.__eq__") self=pure (.builtin "object.__eq__",[self]):=
 (Slot.of (T:= "object") (name:= "__eq__") (owner:= "object") (n:= "__eq__") (by rw [typeLookup_type,builtinLookup_eq_fast]; kernel_rfl) (by decide +kernel) (by decide +kernel) (by decide +kernel)
  (.inl (by decide +kernel)) (by rw [isSubtype_type]; kernel_rfl)).bind self
theorem eq_plain:plainId "object.__eq__" = true:=by decide +kernel
theorem bound_blt {id:String} {name:Str} {Q:Option Value→Shared→Prop} (X:K.In s.heap) (I:InstAt s.heap x ox C od) (hs:findIn K (.ref C) name=some (some (.builtin id))) (hb:bindSpecial (.builtin id) (.ref x)=pure (.builtin id,[.ref x]))
  (h:wpAny (model prog w) A (call (.builtin id) [.ref x,b]) (fun v s'=>Q (some v) s') E s):wpAny (model prog w) A (callSpecialIfBound? (.ref x) name [b]) Q E s:=by
 simp only [callSpecialIfBound?,bindSpecialIfBound?]
 refine wpAny_holding (wpAny_bind (wpAny_bind (wpAny_bind (I.type.here ((looks_findIn X hs).here ?_)))))
 refine wpAny_bind (wpAny_askSetting (wpAny_ite ?_))
 have fin:wpAny (model prog w) A (call (.builtin id) ([.ref x]++[b]) >>= fun v=>pure (some v)) Q E s:=wpAny_bind (wpAny_mono h (fun v s' h'=>wpAny_pure h') fun _ _ h'=>h')
 split
 ·exact wpAny_bind ((Looks.of_pure hb).here (wpAny_pure (by exact fin)))
 ·exact wpAny_tryCatch (wpAny_bind ((Looks.of_pure hb).here (wpAny_pure (by exact fin))))
theorem obj_eq (X:K.In s.heap) (I:InstAt s.heap x ox C od) (ht:subIn K (.ref C) (.type "object")=some true) (hsame:Looks (model prog w) s.heap (isSame (.ref x) b) false) {Q:Value→Shared→Prop} (h:Q .notImplemented s) :
  wpAny (model prog w) A (call (.builtin "object.__eq__") [.ref x,b]) Q E s:=by
 have t2:Looks (model prog w) s.heap (isInstance (.ref x) (.type "object")) true:=I.type.andThen (looks_subIn X ht)
 refine wpAny_call (codeAny_call_builtin eq_plain F.cmpEntry_eq (@check_slot (model prog w) _ _ _ "object.__eq__" "object" "__eq__" (.ref x) [b] [] _ F.cmpKind_eq F.cmpSplit_eq t2 (F.cmpArgs_eq _ _) ?_))
 unfold Builtin.«object.__eq__»
 obtain ⟨hp,g,d,tk,os⟩:=s
 wp_walk using hsame.here
 exact h
theorem dec_obj (hu:A.units+1 < cLine) (X:K.In s.heap) (I:InstAt s.heap x ox C od) (he:findIn K (.ref C) "__eq__" = some (some (.builtin "object.__eq__"))) (hn:findIn K (.ref C) "__ne__" = some (some (.builtin "object.__ne__"))) (ht:subIn K (.ref C) (.type "object")=some true)
  (hsame:Looks (model prog w) s.heap (isSame (.ref x) b) false) (h:Q none s):wpAny (model prog w) A (tryCompare (.ref x) (nmN ne) b) Q E s:=by
 have t2:Looks (model prog w) s.heap (isInstance (.ref x) (.type "object")) true:=I.type.andThen (looks_subIn X ht)
 cases ne with
 | false =>
  unfold tryCompare
  exact wpAny_bind (bound_blt X I he (eq_bind _) (obj_eq X I ht hsame (wpAny_pure h)))
 | true =>
  unfold tryCompare
  refine wpAny_bind (bound_blt X I hn (one_bind _) ?_)
  refine wpAny_call (codeAny_call_builtin one_plain F.cmpEntry_ne (@check_slot (model prog w) _ _ _ "object.__ne__" "object" "__ne__" (.ref x) [b] [] _ F.cmpKind_ne F.cmpSplit_ne t2 (F.cmpArgs_ne _ _) ?_))
  unfold Builtin.«object.__ne__»
  have k:=bound_blt (A:=A.in1) (E:=E) (Q:=fun r s'=>r=some .notImplemented∧s'=s) X I he (eq_bind _) (obj_eq X I ht hsame ⟨rfl,rfl⟩)
  obtain ⟨hp,g,d,tk,os⟩:=s
  repeat (first
   | with_reducible refine wpAny_cRoomFor (A:=A.in1) hu ?_
   | (refine wpAny_bind (m:=callSpecialIfBound? (.ref x) (Str.ofString "__eq__") [b]) (wpAny_mono k (fun r s' hr=>by
      obtain ⟨rfl,rfl⟩:=hr
      exact wpAny_pure (wpAny_pure h)) fun _ _ e=>e))
   | wp_step)
theorem obj_same (X:K.In s.heap) (I:InstAt s.heap x ox C od) (ht:subIn K (.ref C) (.type "object")=some true) {Q:Value→Shared→Prop} (h:Q (.bool true) s) :
  wpAny (model prog w) A (call (.builtin "object.__eq__") [.ref x,.ref x]) Q E s:=by
 have t2:Looks (model prog w) s.heap (isInstance (.ref x) (.type "object")) true:=I.type.andThen (looks_subIn X ht)
 refine wpAny_call (codeAny_call_builtin eq_plain F.cmpEntry_eq (@check_slot (model prog w) _ _ _ "object.__eq__" "object" "__eq__" (.ref x) [.ref x] [] _ F.cmpKind_eq F.cmpSplit_eq t2 (F.cmpArgs_eq _ _) ?_))
 unfold Builtin.«object.__eq__»
 obtain ⟨hp,g,d,tk,os⟩:=s
 wp_walk using wpAny_isSame_ref_self
 exact h
theorem same_obj {Q:Value→Shared→Prop} (hu:A.units+1 < cLine) (X:K.In s.heap) (I:InstAt s.heap x ox C od) (he:findIn K (.ref C) "__eq__" = some (some (.builtin "object.__eq__"))) (hn:findIn K (.ref C) "__ne__" = some (some (.builtin "object.__ne__"))) (ht:subIn K (.ref C) (.type "object")=some true)
  (h:Q (.bool (true != ne)) s):wpAny (model prog w) A (tryCompare (.ref x) (nmN ne) (.ref x)) (Then2 prog w A E ne (.ref x) (.ref x) Q) E s:=by
 have t2:Looks (model prog w) s.heap (isInstance (.ref x) (.type "object")) true:=I.type.andThen (looks_subIn X ht)
 cases ne with
 | false =>
  unfold tryCompare
  exact wpAny_bind (bound_blt X I he (eq_bind _) (obj_same X I ht (wpAny_pure h)))
 | true =>
  unfold tryCompare
  refine wpAny_bind (bound_blt X I hn (one_bind _) ?_)
  refine wpAny_call (codeAny_call_builtin one_plain F.cmpEntry_ne (@check_slot (model prog w) _ _ _ "object.__ne__" "object" "__ne__" (.ref x) [.ref x] [] _ F.cmpKind_ne F.cmpSplit_ne t2 (F.cmpArgs_ne _ _) ?_))
  unfold Builtin.«object.__ne__»
  have k:=bound_blt (prog:=prog) (w:=w) (A:=A.in1) (E:=E) (b:=.ref x) (Q:=fun r s'=>r=some (.bool true)∧s'=s) X I he (eq_bind _) (obj_same X I ht ⟨rfl,rfl⟩)
  obtain ⟨hp,g,d,tk,os⟩:=s
  repeat (first
   | with_reducible refine wpAny_cRoomFor (A:=A.in1) hu ?_
   | (refine wpAny_bind (m:=callSpecialIfBound? (.ref x) (Str.ofString "__eq__") [.ref x]) (wpAny_mono k (fun r s' hr=>by
      obtain ⟨rfl,rfl⟩:=hr
      repeat (first | exact h | exact wpAny_pure h | (refine wpAny_bind (m:=truthy (.bool _)) (wpAny_truthy_bool ?_)) | wp_step)) fun _ _ e=>e))
   | wp_step)
theorem try_own (hu:A.units+1 < cLine) (X:K.In s.heap) (I:InstAt s.heap x ox C od) (he:findIn K (.ref C) "__eq__" = some (some (.ref f))) (hn:findIn K (.ref C) "__ne__" = some (some (.builtin "object.__ne__"))) (hf:isFn K (.ref f)=true) (ht:subIn K (.ref C) (.type "object")=some true)
  (h:∀ {A':Around},A'=A∨A'=A.in1→wpAny (model prog w) A' (call (.ref f) [.ref x,b]) (fun v s'=>∃ r,v = .bool r∧Q (some (.bool (r != ne))) s') E s):wpAny (model prog w) A (tryCompare (.ref x) (nmN ne) b) Q E s:=by
 have t2:Looks (model prog w) s.heap (isInstance (.ref x) (.type "object")) true:=I.type.andThen (looks_subIn X ht)
 cases ne with
 | false =>
  unfold tryCompare
  refine wpAny_bind (ifBound_K X I he hf (wpAny_mono (h (.inl rfl)) (fun v s' hv=>?_) fun _ _ e=>e))
  obtain ⟨r,rfl,q⟩:=hv
  exact wpAny_pure (by simpa using q)
 | true =>
  unfold tryCompare
  refine wpAny_bind (bound_blt X I hn (one_bind _) ?_)
  refine wpAny_call (codeAny_call_builtin one_plain F.cmpEntry_ne (@check_slot (model prog w) _ _ _ "object.__ne__" "object" "__ne__" (.ref x) [b] [] _ F.cmpKind_ne F.cmpSplit_ne t2 (F.cmpArgs_ne _ _) ?_))
  unfold Builtin.«object.__ne__»
  have h':=h (A':=A.in1) (.inr rfl)
  obtain ⟨hp,g,d,tk,os⟩:=s
  repeat (first
   | with_reducible refine wpAny_cRoomFor (A:=A.in1) hu ?_
   | (refine wpAny_bind (m:=callSpecialIfBound? (.ref x) (Str.ofString "__eq__") [b]) (ifBound_K X I he hf (wpAny_mono h' (fun r s' hr=>by
      obtain ⟨b,rfl,hq'⟩:=hr
      have hq':Q (some (.bool (!b))) s':=by simpa using hq'
      repeat (first | exact hq' | exact wpAny_pure hq' | (refine wpAny_bind (m:=truthy (.bool _)) (wpAny_truthy_bool ?_)) | wp_step)) fun _ _ e=>e)))
   | wp_step)
end
end EvE
set_option maxRecDepth 100000
set_option maxHeartbeats 2000000
namespace Ev
open PySem PySem.Spec PyProof.Rows L2
structure SubU (X:Cx) (m j:Nat) (A:Around):Prop where
 fr:A.frames=X.A.frames
 hd:A.handled=X.A.handled
 dp:A.depth+3 * m+5 < recursionLimit
 un:A.units+16 * m+200+j < cLine
 gu:A.guards=X.A.guards
theorem SubU.in1 {X:Cx} {m j:Nat} {A:Around} (b:SubU X m (j+1) A):SubU X m j A.in1:=⟨b.fr,b.hd,b.dp,by have:=b.un; show A.units+1+16 * m+200+j < cLine; omega,b.gu⟩
theorem SubU.mono {X:Cx} {m j k:Nat} {A:Around} (b:SubU X m j A) (h:k≤j):SubU X m k A:=⟨b.fr,b.hd,b.dp,by have:=b.un; omega,b.gu⟩
theorem SubU.room {X:Cx} {m j:Nat} {A:Around} (b:SubU X m j A):L2H.RoomH m A:=⟨b.dp,by have:=b.un; omega⟩
theorem SubU.hu {X:Cx} {m j:Nat} {A:Around} (b:SubU X m j A):A.units+1 < cLine:=by have:=b.un; omega
theorem SubU.hu0 {X:Cx} {m j:Nat} {A:Around} (b:SubU X m j A):A.units < cLine:=by have:=b.un; omega
def Back (X:Cx) (pins:List (Addr×Obj)) (σ:L2.St) (W:Wd) (e:Em) (H:Hp) (μ:Mu) (s':Shared):Prop:=∃ e' H',Inv X pins σ H' s'∧Ex e H e' H'∧St0 W e' μ H'
theorem Back.trans {X:Cx} {pins:List (Addr×Obj)} {σ:L2.St} {W:Wd} {e e1:Em} {H H1:Hp} {μ:Mu} {s':Shared} (x:Ex e H e1 H1) (b:Back X pins σ W e1 H1 μ s'):Back X pins σ W e H μ s':=
 let ⟨e',H',a,y,c⟩:=b; ⟨e',H',a,x.trans y,c⟩
section
variable {W:Wd} {X:Cx} {n:Nat} {C:Cl} {Wx:WX} {pins:List (Addr×Obj)} {σ:L2.St} {H:Hp} {s:Shared} {e:Em} {μ:Mu}
theorem flat_V {x:D} {v:V} (f:flat x=true) (r:Rep W e x v):flatV v=true:=by
 cases x with
 | non=>cases (show v = .non from r); rfl
 | bl b=>cases (show v = .bl b from r); rfl
 | int b=>cases (show v = .int b from r); rfl
 | str b=>cases (show v = .str b from r); rfl
 | _=>cases f
theorem flat_eqV {x y:D} {v w:V} (f:flat x=true) (g:flat y=true) (m:mix x y=false) (r:Rep W e x v) (q:Rep W e y w):eqV v w=true↔x=y:=by
 cases x with
 | non =>
  cases (show v = .non from r)
  cases y with
  | non=>cases (show w = .non from q); simp [eqV]
  | bl b=>cases (show w = .bl b from q); simp [eqV]
  | int b=>cases (show w = .int b from q); simp [eqV]
  | str b=>cases (show w = .str b from q); simp [eqV]
  | _=>cases g
 | bl a =>
  cases (show v = .bl a from r)
  cases y with
  | non=>cases (show w = .non from q); simp [eqV]
  | bl b=>cases (show w = .bl b from q); simp [eqV]
  | int b=>cases m
  | str b=>cases (show w = .str b from q); simp [eqV]
  | _=>cases g
 | int a =>
  cases (show v = .int a from r)
  cases y with
  | non=>cases (show w = .non from q); simp [eqV]
  | bl b=>cases m
  | int b=>cases (show w = .int b from q); simp [eqV]
  | str b=>cases (show w = .str b from q); simp [eqV]
  | _=>cases g
 | str a =>
  cases (show v = .str a from r)
  cases y with
  | non=>cases (show w = .non from q); simp [eqV]
  | bl b=>cases (show w = .bl b from q); simp [eqV]
  | int b=>cases (show w = .int b from q); simp [eqV]
  | str b=>cases (show w = .str b from q); simp [eqV]
  | _=>cases g
 | _=>cases f
theorem item_turn {m j k:Nat} {xs ys:List D} (I0:Ex e H e H)
  (ih:∀ (A:Around) (s:Shared) (H:Hp) (e:Em) (x y:D) (v w:V) (u t:Value),SubU X m j A→Inv X pins σ H s→St0 W e μ H→Rep W e x v→Rep W e y w→RelV v u→RelV w t→eqOk C μ k x y →
   wpAny (model X.prog X.w) A (eqBool u t) (fun r s'=>(r=true↔x=y)∧Back X pins σ W e H μ s') X.xe s)
  (ok:∀ (i:Nat) (a b:D),xs[i]?=some a→ys[i]?=some b→eqOk C μ k a b) {A:Around} (sb:SubU X m j A) {e1:Em} {H1:Hp} {s1:Shared} (I:Inv X pins σ H1 s1) (x1:Ex e H e1 H1) (st:St0 W e1 μ H1)
  {vs ws:List V} (rx:RepL W e xs vs) (ry:RepL W e ys ws) {its its2:List Value} (v1:Vals vs its) (v2:Vals ws its2) {i:Nat} {u t:Value} (h1:its[i]?=some u) (h2:its2[i]?=some t) :
  wpAny (model X.prog X.w) A (eqBool u t) (fun r s'=>(r=true↔xs[i]?=ys[i]?)∧Back X pins σ W e H μ s') X.xe s1:=by
 have k1:i < vs.length:=by rw [v1.length]; exact (List.getElem?_eq_some_iff.mp h1).1
 have k2:i < ws.length:=by rw [v2.length]; exact (List.getElem?_eq_some_iff.mp h2).1
 obtain ⟨u',hu,ru⟩:=v1.get (List.getElem?_eq_getElem k1)
 obtain ⟨t',ht,rt⟩:=v2.get (List.getElem?_eq_getElem k2)
 rw [h1] at hu; cases hu
 rw [h2] at ht; cases ht
 obtain ⟨a,ha,ra⟩:=rx.getV (List.getElem?_eq_getElem k1)
 obtain ⟨b,hb,rb⟩:=ry.getV (List.getElem?_eq_getElem k2)
 refine wpAny_mono (ih A s1 H1 e1 a b _ _ u t sb I st (ra.ex x1) (rb.ex x1) ru rt (ok i a b ha hb)) (fun r s' q=>?_) fun _ _ z=>z
 rw [ha,hb]
 exact ⟨by rw [q.1]; simp,q.2.trans x1⟩
theorem own_asks (h:Hyp W X n C Wx) {m:Nat} (hl:(∀ f ds μ,C.low f ds μ = .stuck)∨∃ k,k+34≤m∧FnPs W k C.hot C.rep C.low) {A:Around} {j:Nat} (sb:SubU X m (j+1) A) (I:Inv X pins σ H s) (st:St0 W e μ H) {c:Nat} {fs:List D} {y:D} {v w:V} {u t:Value} (hx:Rep W e (.ins c fs) v) (hy:Rep W e y w) (rv:RelV v u) (rw_:RelV w t)
  {f:Nat} {r:Bool} (hm:mthd C.T c 6=some f) (ho:C.low f [D.ins c fs,y] μ = .ok (.bl r) μ) (ne:Bool):wpAny (model X.prog X.w) A (tryCompare u (EvE.nmN ne) t) (fun o s'=>o=some (.bool (r != ne))∧Back X pins σ W e H μ s') X.xe s:=by
 rcases hl with hl | ⟨k0,hk0,hl⟩
 ·rw [hl] at ho; cases ho
 rcases hl f [D.ins c fs,y] μ with hl | ⟨i2,hj,hok,fp⟩
 ·rw [hl] at ho; cases ho
 obtain ⟨a,dx,fs',vs,i,rfl,h1,h2,h3,h4,h5⟩:=id hx
 have cf:=h.txt.cls c i h2 h3
 have hm':i.meths.lookup 6=some f:=by
  unfold mthd at hm
  rw [h.T,h2] at hm
  exact hm
 obtain ⟨j',hj',hM,hne⟩:=cf.meth 6 f hm'
 rw [hj] at hj'; cases hj'
 rw [h.txt.dun 6 "__eq__" rfl] at hM
 obtain ⟨mm,od,F,KX,J⟩:=inst_rule I (st.sub _ _ h1)
 have hM':Meth X.K (W.ca c) "__eq__" (fadr W.K W.T i2.loc):=by rw [h.K]; exact hM
 cases rv
 refine EvE.try_own sb.hu (KX.keeps F.keep) J hM'.at_ (by rw [h.K]; exact cf.ne (by rw [hm']; simp)) hM'.fn (by rw [h.K]; exact cf.top) fun {A'} hA=>?_
 have sb':SubU X m 0 A':=by
  rcases hA with rfl | rfl
  ·exact sb.mono (Nat.zero_le _)
  ·exact sb.in1.mono (Nat.zero_le _)
 refine wpAny_mono (run_fnW h (sb'.room.mono hk0) sb'.fr sb'.gu sb'.hd fp I (Paired.cons (show RelV (V.ref a) (Value.ref a) from rfl) (Paired.cons rw_ .nil)) st (.cons hx (.cons hy .nil)) (Q:=fun z H'=>z = .bl r∧∃ e',Ex e H e' H'∧St0 W e' μ H') ?_) (fun z s' q=>?_) fun _ _ z=>z
 ·rw [ho]
  intro e' H' x' st' z hz
  exact ⟨hz,e',x',st'⟩
 ·obtain ⟨v',H',I',r',e',e'',x',st'⟩:=q
  subst e'
  cases r'
  exact ⟨r,rfl,rfl,e'',H',I',x',st'⟩
theorem kind_at (h:Hyp W X n C Wx) (I:Inv X pins σ H s) (st:St0 W e μ H) {x:D} {v:V} {u:Value} {i:Nat} (hx:Rep W e x v) (rv:RelV v u) (hk:eqK C.T μ x=some i) :
  (i=0∧x = .non∧u = .none)∨(i=1∧(∃ xs,x = .tup xs)∧∃ a,u = .ref a∧s.TypeIs (.ref a) "tuple")∨(i=2∧(∃ xs,x = .lst xs)∧∃ a,u = .ref a∧s.TypeIs (.ref a) "list") ∨
  (i=3∧∃ o a c ci ox od,x = .obj o∧u = .ref a∧W.T.cls[c]?=some ci∧ci.isexc=false∧ci.meths.lookup 6=none∧PySem.W.InstAt s.heap a ox (W.ca c) od∧ox.cls = .ref (W.ca c)∧e.r o=some a∧∃ fs,μ[o]?=some (.ins c fs)):=by
 cases x with
 | non=>cases (show v = .non from hx); cases rv; cases hk; exact .inl ⟨rfl,rfl,rfl⟩
 | tup xs =>
  obtain ⟨a,vs,rfl,h1,h2⟩:=hx
  cases rv
  cases hk
  obtain ⟨_,_,⟨o,q,hc,_⟩,_⟩:=I.tuple (show SqT X.K H a vs by rw [h.K]; exact sqT_sub h1 st.sub)
  exact .inr (.inl ⟨rfl,⟨xs,rfl⟩,a,rfl,o,q,hc⟩)
 | lst xs =>
  obtain ⟨a,vs,rfl,h1,h2⟩:=hx
  cases rv
  cases hk
  obtain ⟨its,m,q,_⟩:=sq_exact h I st h1
  exact .inr (.inr (.inl ⟨rfl,⟨xs,rfl⟩,a,rfl,_,q,rfl⟩))
 | obj o =>
  obtain ⟨a,rfl,h1⟩:=hx
  cases rv
  have hk:(match μ[o]? with
   | some (.ins c _)=>if (mthd C.T c 6).isSome then none else some 3
   | _=>none)=some i:=hk
  split at hk
  ·rename_i c fs hc
   split at hk
   ·cases hk
   ·rename_i hn
    cases hk
    obtain ⟨b,hb,hr⟩:=st.cell o _ hc
    rw [h1] at hb; cases hb
    obtain ⟨dx,gs,ci,hH,hci,hex,_⟩:=hr
    obtain ⟨mm,od,F,KX,J⟩:=inst_rule I hH
    refine .inr (.inr (.inr ⟨rfl,o,a,c,ci,_,_,rfl,rfl,hci,hex,?_,J,rfl,h1,fs,hc⟩))
    unfold mthd at hn
    rw [h.T,hci] at hn
    have hn:¬ (ci.meths.lookup 6).isSome=true:=hn
    cases z:ci.meths.lookup 6 with
    | none=>rfl
    | some q=>rw [z] at hn; exact absurd rfl hn
  ·cases hk
 | _=>cases hk
theorem type_look {M:Model} {h:Heap} {a:Addr} {T:String} {s:Shared} (t:s.TypeIs (.ref a) T) (hs:s.heap=h):PySem.W.Looks M h (typeOf (.ref a)) (.type T):=by
 subst hs
 intro A Q E s' k q
 obtain ⟨o,ho,hc⟩:=t
 exact wpAny_typeOf ⟨o,k _ _ ho,hc⟩ q
def TyD (W:Wd) (μ:Mu):D→Value→Prop
 | .non,tb=>tb = .type "NoneType"
 | .bl _,tb=>tb = .type "bool"
 | .int _,tb=>tb = .type "int"
 | .str _,tb=>tb = .type "str"
 | .tup _,tb=>tb = .type "tuple"
 | .lst _,tb=>tb = .type "list"
 | .ins c _,tb=>tb = .ref (W.ca c)∧∃ i,W.T.cls[c]?=some i∧i.isexc=false
 | .obj o,tb=>(∃ xs,μ[o]?=some (.lst xs))∧tb = .type "list" ∨ (∃ c fs i,μ[o]?=some (.ins c fs)∧tb = .ref (W.ca c)∧W.T.cls[c]?=some i∧i.isexc=false)∨(∃ kvs,μ[o]?=some (.dct kvs))∧tb = .type "dict"
 | .bor _ _,_=>False
 | .opq,_=>False
def NoX (μ:Mu) (x:D):Prop:=∀ o c fs,x = .obj o→μ[o]?≠some (.exn c fs)
theorem NoX.ofK {T:Tb} {μ:Mu} {x:D} {i:Nat} (h:eqK T μ x=some i):NoX μ x:=fun o c fs ho z=>by
 subst ho
 have h:(match μ[o]? with
  | some (.ins c _)=>if (mthd T c 6).isSome then none else some 3
  | _=>none)=some i:=h
 rw [z] at h; cases h
theorem NoX.ofR {T:Tb} {μ:Mu} {c:Nat} {x:D} (h:eqR T μ c x):NoX μ x:=fun o c' fs ho z=>by
 subst ho
 obtain ⟨c2,fs2,h,_⟩:=h
 rw [z] at h; cases h
theorem typ_at (h:Hyp W X n C Wx) (I:Inv X pins σ H s) (st:St0 W e μ H) {x:D} {v:V} {u:Value} (nx:NoX μ x) (hx:Rep W e x v) (rv:RelV v u):∃ tb,PySem.W.Looks (model X.prog X.w) s.heap (typeOf u) tb∧TyD W μ x tb:=by
 cases x with
 | non=>cases (show v = .non from hx); cases rv; exact ⟨_,.of_pure rfl,rfl⟩
 | bl b=>cases (show v = .bl b from hx); cases rv; exact ⟨_,.of_pure rfl,rfl⟩
 | int b=>cases (show v = .int b from hx); obtain ⟨t,rfl⟩:=rv; exact ⟨_,.of_pure rfl,rfl⟩
 | str b=>cases (show v = .str b from hx); obtain ⟨t,rfl⟩:=rv; exact ⟨_,.of_pure rfl,rfl⟩
 | tup xs =>
  obtain ⟨a,vs,rfl,h1,h2⟩:=hx
  cases rv
  obtain ⟨_,_,⟨o,q,hc,_⟩,_⟩:=I.tuple (show SqT X.K H a vs by rw [h.K]; exact sqT_sub h1 st.sub)
  exact ⟨_,type_look ⟨o,q,hc⟩ rfl,rfl⟩
 | lst xs =>
  obtain ⟨a,vs,rfl,h1,h2⟩:=hx
  cases rv
  obtain ⟨its,m,q,_⟩:=sq_exact h I st h1
  exact ⟨_,type_look ⟨_,q,rfl⟩ rfl,rfl⟩
 | ins c fs =>
  obtain ⟨a,dx,gs,vs,i,rfl,h1,h2,h3,_⟩:=hx
  cases rv
  obtain ⟨m,od,F,KX,J⟩:=inst_rule I (st.sub _ _ h1)
  exact ⟨_,J.type,rfl,i,h2,h3⟩
 | obj o =>
  obtain ⟨a,rfl,h1⟩:=hx
  cases rv
  obtain ⟨b,hb,hr⟩:=st.cell o (μ[o]'(st.rn h1)) (by rw [List.getElem?_eq_getElem (st.rn h1)])
  rw [h1] at hb; cases hb
  cases q:μ[o]'(st.rn h1) with
  | lst zs =>
   rw [q] at hr
   obtain ⟨us,k1,_⟩:=hr
   obtain ⟨_,its,_,m,q2⟩:=I.hok a _ k1
   exact ⟨_,type_look ⟨_,q2,rfl⟩ rfl,.inl ⟨⟨zs,by rw [List.getElem?_eq_getElem (st.rn h1),q]⟩,rfl⟩⟩
  | ins c zs =>
   rw [q] at hr
   obtain ⟨dx,gs,i,k1,k2,k3,_⟩:=hr
   obtain ⟨m,od,F,KX,J⟩:=inst_rule I k1
   exact ⟨_,J.type,.inr (.inl ⟨c,zs,i,by rw [List.getElem?_eq_getElem (st.rn h1),q],rfl,k2,k3⟩)⟩
  | dct kvs =>
   rw [q] at hr
   obtain ⟨ks,hr,_⟩:=hr
   obtain ⟨_,_,_,_,ob,_,_,q2,q3,_⟩:=(show ObjOk X.prog X.w H s.heap a (.dK ks) from I.hok a _ hr)
   exact ⟨_,type_look ⟨_,q2,q3.1⟩ rfl,.inr (.inr ⟨⟨kvs,by rw [List.getElem?_eq_getElem (st.rn h1),q]⟩,rfl⟩)⟩
  | exn c zs=>exact absurd (by rw [List.getElem?_eq_getElem (st.rn h1),q]) (nx o c zs rfl)
 | bor _ _=>exact hx.elim
 | opq=>exact hx.elim
theorem sub_tc (K:PySem.W.Frag) (a:Addr):∀ T∈FLATT,PySem.W.subIn K (.type T) (.ref a)=some false:=by
 intro T h
 simp only [List.mem_cons,List.not_mem_nil,or_false] at h
 rcases h with rfl | rfl | rfl | rfl | rfl | rfl | rfl <;> kernel_rfl
theorem sub_tt (K:PySem.W.Frag):∀ T∈(["NoneType", "tuple", "list"]:List String),∀ T'∈FLATT,T≠T'→PySem.W.subIn K (.type T') (.type T)=some false:=by
 intro T h T' h' hn
 simp only [List.mem_cons,List.not_mem_nil,or_false] at h h'
 rcases h with rfl | rfl | rfl <;> rcases h' with rfl | rfl | rfl | rfl | rfl | rfl | rfl <;> first | exact absurd rfl hn | kernel_rfl
theorem ty_cases {x:D} {tb:Value} (t:TyD W μ x tb):(∃ T∈FLATT,tb = .type T)∨∃ c i,tb = .ref (W.ca c)∧W.T.cls[c]?=some i∧i.isexc=false:=by
 cases x with
 | non=>exact .inl ⟨_,by simp,t⟩
 | bl b=>exact .inl ⟨_,by simp,t⟩
 | int b=>exact .inl ⟨_,by simp,t⟩
 | str b=>exact .inl ⟨_,by simp,t⟩
 | tup b=>exact .inl ⟨_,by simp,t⟩
 | lst b=>exact .inl ⟨_,by simp,t⟩
 | ins c b=>obtain ⟨rfl,i,h1,h2⟩:=t; exact .inr ⟨c,i,rfl,h1,h2⟩
 | obj o =>
  rcases t with ⟨_,rfl⟩ | ⟨c,fs,i,_,rfl,h1,h2⟩ | ⟨_,rfl⟩
  ·exact .inl ⟨_,by simp,rfl⟩
  ·exact .inr ⟨c,i,rfl,h1,h2⟩
  ·exact .inl ⟨_,by simp,rfl⟩
 | bor _ _=>exact t.elim
 | opq=>exact t.elim
theorem sub_cc (h:Hyp W X n C Wx) {c c':Nat} {i i':ClI} (hi:W.T.cls[c]?=some i) (hx:i.isexc=false) (hi':W.T.cls[c']?=some i') (hx':i'.isexc=false) (hs:c'=c∨isSubc W.T c' c=false) (hne:(Value.ref (W.ca c) != Value.ref (W.ca c'))=true) :
  PySem.W.subIn W.K (.ref (W.ca c')) (.ref (W.ca c))=some false:=by
 rcases hs with rfl | hs
 ·simp at hne
 ·unfold isSubc at hs
  rw [hi'] at hs
  have hs2:i'.mro.contains c=false:=hs
  have z:=(h.txt.cls c' i' hi' hx').subs c i hi hx
  rw [hs2] at z
  exact z
theorem sub_look (h:Hyp W X n C Wx) (I:Inv X pins σ H s) {ta tb:Value} (hs:PySem.W.subIn W.K tb ta=some false):PySem.W.Looks (model X.prog X.w) s.heap (isSubtype tb ta) false:=PySem.W.looks_subIn I.kIn (by rw [h.K]; exact hs)
theorem sub_ins (h:Hyp W X n C Wx) {c:Nat} {i:ClI} {y:D} {tb:Value} (hi:W.T.cls[c]?=some i) (hx:i.isexc=false) (t:TyD W μ y tb) (r:eqR W.T μ c y) (hne:(Value.ref (W.ca c) != tb)=true):PySem.W.subIn W.K tb (.ref (W.ca c))=some false:=by
 rcases ty_cases t with ⟨T,hT,rfl⟩ | ⟨c',i',rfl,h1,h2⟩
 ·exact sub_tc _ _ T hT
 ·cases y with
  | ins c2 b =>
   obtain ⟨z,_⟩:=t
   have r:c2=c:=r
   subst r
   rw [z] at hne
   simp at hne
  | obj o =>
   obtain ⟨c2,fs,r1,r2⟩:=r
   rcases t with ⟨⟨xs,z⟩,_⟩ | ⟨c3,fs3,i3,z,z2,z3,z4⟩ | ⟨⟨kvs,z⟩,_⟩
   rotate_right
   ·rw [r1] at z; cases z
   ·rw [r1] at z; cases z
   ·rw [r1] at z; cases z
    rw [z2] at hne ⊢
    exact sub_cc h hi hx z3 z4 (.inr r2) hne
  | non=>cases t
  | bl _=>cases t
  | int _=>cases t
  | str _=>cases t
  | tup _=>cases t
  | lst _=>cases t
  | bor _ _=>exact t.elim
  | opq=>exact t.elim
theorem sub_kind (h:Hyp W X n C Wx) {x y:D} {ta tb:Value} {i:Nat} (hk:eqK W.T μ x=some i) (tx:TyD W μ x ta) (ty:TyD W μ y tb) (hs:eqS W.T μ x y) (hins:∀ c fs,y = .ins c fs→∀ o c' fs',x = .obj o→μ[o]?=some (.ins c' fs')→isSubc W.T c c'=false) (hne:(ta != tb)=true):PySem.W.subIn W.K tb ta=some false:=by
 have flatC:∀ T∈(["NoneType", "tuple", "list"]:List String),ta = .type T→PySem.W.subIn W.K tb ta=some false:=by
  rintro T hT rfl
  rcases ty_cases ty with ⟨T',hT',rfl⟩ | ⟨c',i',rfl,h1,h2⟩
  ·exact sub_tt _ T hT T' hT' (fun z=>by subst z; simp at hne)
  ·have z:=(h.txt.cls c' i' h1 h2).mroT T (by simp at hT ⊢; rcases hT with rfl | rfl | rfl <;> simp)
   exact z
 cases x with
 | non=>exact flatC "NoneType" (by simp) tx
 | tup _=>exact flatC "tuple" (by simp) tx
 | lst _=>exact flatC "list" (by simp) tx
 | obj o =>
  rcases tx with ⟨_,rfl⟩ | ⟨c,fs,i,z,rfl,z3,z4⟩ | ⟨⟨kvs,z⟩,_⟩
  rotate_right
  ·have hk:(match μ[o]? with
    | some (.ins c _)=>if (mthd W.T c 6).isSome then none else some 3
    | _=>none)=some _:=hk
   rw [z] at hk; cases hk
  ·exact flatC "list" (by simp) rfl
  ·rcases ty_cases ty with ⟨T',hT',rfl⟩ | ⟨c',i',rfl,h1,h2⟩
   ·exact sub_tc _ _ T' hT'
   ·refine sub_cc h z3 z4 h1 h2 ?_ hne
    cases y with
    | ins c2 b =>
     obtain ⟨q,_⟩:=ty
     have e1:=hins c2 b rfl o c fs rfl z
     obtain ⟨i2,q3,q4⟩:=‹∃ i,W.T.cls[c2]?=some i∧i.isexc=false›
     have e2:c'=c2:=h.txt.inj c' c2 i' i2 h1 q3 (by injection q)
     rw [e2]; exact .inr e1
    | obj o2 =>
     rcases ty with ⟨_,q⟩ | ⟨c3,fs3,i3,w,w2,w3,w4⟩ | ⟨_,q⟩
     rotate_right
     ·cases q
     ·cases q
     ·have e2:c'=c3:=h.txt.inj c' c3 i' i3 h1 w3 (by injection w2)
      rw [e2]; exact hs c fs c3 fs3 z w
    | non=>cases ty
    | bl _=>cases ty
    | int _=>cases ty
    | str _=>cases ty
    | tup _=>cases ty
    | lst _=>cases ty
    | bor _ _=>exact ty.elim
    | opq=>exact ty.elim
 | _=>cases hk
abbrev Two (X:Cx) (pins:List (Addr×Obj)) (σ:L2.St) (W:Wd) (e:Em) (H:Hp) (μ:Mu) (x y:D) (ne:Bool) (r:Value) (s':Shared):Prop:=∃ b,r = .bool (b != ne)∧(b=true↔x=y)∧Back X pins σ W e H μ s'
theorem mix_ins (h:Hyp W X n C Wx) {m:Nat} (hl:(∀ f ds μ,C.low f ds μ = .stuck)∨∃ k,k+34≤m∧FnPs W k C.hot C.rep C.low) {A:Around} {j:Nat} (sb:SubU X m (j+1) A) (I:Inv X pins σ H s) (st:St0 W e μ H) {c:Nat} {fs:List D} {y:D} {v w:V} {u t:Value} (hx:Rep W e (.ins c fs) v) (hy:Rep W e y w) (rv:RelV v u) (rw_:RelV w t)
  {f:Nat} {r:Bool} (hr:eqR C.T μ c y) (hm:mthd C.T c 6=some f) (he:r=true↔D.ins c fs=y) (ho:C.low f [D.ins c fs,y] μ = .ok (.bl r) μ) (ne:Bool):wpAny (model X.prog X.w) A (richCompare (Ev4.opN ne) u t) (Two X pins σ W e H μ (.ins c fs) y ne) X.xe s:=by
 obtain ⟨ta,la,tx⟩:=typ_at h I st (by intro o c fs z; cases z) hx rv
 obtain ⟨tb,lb,ty⟩:=typ_at h I st (.ofR hr) hy rw_
 obtain ⟨a,dx,gs,vs,i,rfl,h1,h2,h3,_⟩:=id hx
 cases rv
 rw [h.T] at hr
 obtain ⟨rfl,_⟩:=tx
 refine EvE.rc_any (oneThing_ref ..) sb.hu0 la lb (fun hne=>sub_look h I (sub_ins h h2 h3 ty hr hne)) ?_
 refine wpAny_mono (own_asks h hl sb I st hx hy rfl rw_ hm ho ne) (fun o s' q=>?_) fun _ _ z=>z
 obtain ⟨rfl,q⟩:=q
 exact ⟨r,rfl,he,q⟩
theorem kind_dec (h:Hyp W X n C Wx) {A:Around} (hu:A.units+1 < cLine) (I:Inv X pins σ H s) (st:St0 W e μ H) {x y:D} {v w:V} {u t:Value} (hx:Rep W e x v) (hy:Rep W e y w) (rv:RelV v u) (rw_:RelV w t) {i:Nat} (hk:eqK C.T μ x=some i)
  {tb:Value} (lb:PySem.W.Looks (model X.prog X.w) s.heap (typeOf t) tb) (ty:TyD W μ y tb) (hd:(∃ c fs,y = .ins c fs)∨∃ j,eqK C.T μ y=some j∧(i≠j∨i=3∧x≠y)) (ne:Bool):wpAny (model X.prog X.w) A (tryCompare u (EvE.nmN ne) t) (fun o s'=>o=none∧s'=s) X.xe s:=by
 have inst:∀ T∈(["NoneType", "tuple", "list"]:List String),tb ≠ .type T→PySem.W.Looks (model X.prog X.w) s.heap (isInstance t (.type T)) false:=fun T hT hn=>by
  refine lb.andThen (PySem.W.looks_subIn I.kIn ?_)
  rw [h.K]
  rcases ty_cases ty with ⟨T',hT',rfl⟩ | ⟨c',i',rfl,h1,h2⟩
  ·exact sub_tt _ T hT T' hT' (fun z=>hn (by rw [z]))
  ·exact (h.txt.cls c' i' h1 h2).mroT T (by simp at hT ⊢; rcases hT with rfl | rfl | rfl <;> simp)
 have kt:∀ j,eqK C.T μ y=some j→(j=0→tb = .type "NoneType")∧(j=1→tb = .type "tuple")∧(j=2→tb = .type "list")∧(j=3→∃ c,tb = .ref (W.ca c)):=fun j hj=>by
  cases y with
  | non=>cases hj; exact ⟨fun _=>ty,nofun,nofun,nofun⟩
  | tup _=>cases hj; exact ⟨nofun,fun _=>ty,nofun,nofun⟩
  | lst _=>cases hj; exact ⟨nofun,nofun,fun _=>ty,nofun⟩
  | obj o =>
   have hj:(match μ[o]? with
    | some (.ins c _)=>if (mthd C.T c 6).isSome then none else some 3
    | _=>none)=some j:=hj
   split at hj
   ·rename_i c fs hc
    split at hj
    ·cases hj
    ·cases hj
     refine ⟨nofun,nofun,nofun,fun _=>?_⟩
     rcases ty with ⟨⟨xs,z⟩,_⟩ | ⟨c',fs',i',_,z,_⟩ | ⟨⟨kvs,z⟩,_⟩
     rotate_right
     ·rw [hc] at z; cases z
     ·rw [hc] at z; cases z
     ·exact ⟨c',z⟩
   ·cases hj
  | _=>cases hj
 have tbne:∀ T,(i=0∧T = "NoneType" ∨ i=1∧T = "tuple" ∨ i=2∧T = "list")→tb ≠ .type T:=by
  intro T hi z
  rcases hd with ⟨c,fs,rfl⟩ | ⟨j,hj,hne⟩
  ·obtain ⟨q,_⟩:=ty
   rw [q] at z; cases z
  ·obtain ⟨k0,k1,k2,k3⟩:=kt j hj
   have hj4:j=0∨j=1∨j=2∨j=3:=by
    rcases kind_at h I st hy rw_ hj with ⟨q,_⟩ | ⟨q,_⟩ | ⟨q,_⟩ | ⟨q,_⟩ <;> omega
   rcases hi with ⟨q,rfl⟩ | ⟨q,rfl⟩ | ⟨q,rfl⟩ <;> rcases hj4 with rfl | rfl | rfl | rfl
   all_goals first
    | (exfalso; omega)
    | (rw [k0 rfl] at z; exact absurd z (by decide))
    | (rw [k1 rfl] at z; exact absurd z (by decide))
    | (rw [k2 rfl] at z; exact absurd z (by decide))
    | (obtain ⟨c,z'⟩:=k3 rfl; rw [z'] at z; cases z)
 rcases kind_at h I st hx rv hk with ⟨rfl,rfl,rfl⟩ | ⟨rfl,_,a,rfl,ht⟩ | ⟨rfl,_,a,rfl,ht⟩ | ⟨rfl,o,a,c,ci,ox,od,rfl,rfl,hci,hex,hno,J,hoc,hr,_⟩
 ·refine EvE.dec_none ?_ ⟨rfl,rfl⟩
  cases t with
  | none =>
   exfalso
   have z:=tbne "NoneType" (.inl ⟨rfl,rfl⟩)
   cases y with
   | non=>exact z ty
   | bl b=>cases (show w = .bl b from hy); cases rw_
   | int b=>cases (show w = .int b from hy); obtain ⟨_,q⟩:=rw_; cases q
   | str b=>cases (show w = .str b from hy); obtain ⟨_,q⟩:=rw_; cases q
   | tup b=>obtain ⟨_,_,q,_⟩:=hy; subst q; cases rw_
   | lst b=>obtain ⟨_,_,q,_⟩:=hy; subst q; cases rw_
   | ins c b=>obtain ⟨_,_,_,_,_,q,_⟩:=hy; subst q; cases rw_
   | obj b=>obtain ⟨_,q,_⟩:=hy; subst q; cases rw_
   | bor _ _=>exact hy.elim
   | opq=>exact hy.elim
  | _=>rfl
 ·exact EvE.dec_tup ht (inst "tuple" (by simp) (tbne _ (.inr (.inl ⟨rfl,rfl⟩)))) ⟨rfl,rfl⟩
 ·exact EvE.dec_lst ht (inst "list" (by simp) (tbne _ (.inr (.inr ⟨rfl,rfl⟩)))) ⟨rfl,rfl⟩
 ·have cf:=h.txt.cls c ci hci hex
  obtain ⟨e1,e2⟩:=cf.eqo hno
  refine EvE.dec_obj hu I.kIn J (by rw [h.K]; exact e1) (by rw [h.K]; exact e2) (by rw [h.K]; exact cf.top) ?_ ⟨rfl,rfl⟩
  have nt:ox.cls ≠ .type "tuple":=by rw [hoc]; exact nofun
  have nref:(∀ b,t ≠ .ref b)→PySem.W.Looks (model X.prog X.w) s.heap (isSame (.ref a) t) false:=fun hb=>by
   cases y with
   | non=>cases (show w = .non from hy); cases rw_; exact .of_pure rfl
   | tup b=>obtain ⟨b,_,q,_⟩:=hy; subst q; cases rw_; exact absurd rfl (hb b)
   | lst b=>obtain ⟨b,_,q,_⟩:=hy; subst q; cases rw_; exact absurd rfl (hb b)
   | ins c b=>obtain ⟨b,_,_,_,_,q,_⟩:=hy; subst q; cases rw_; exact absurd rfl (hb b)
   | obj b=>obtain ⟨b,q,_⟩:=hy; subst q; cases rw_; exact absurd rfl (hb b)
   | bl _=>rcases hd with ⟨_,_,q⟩ | ⟨_,q,_⟩ <;> cases q
   | int _=>rcases hd with ⟨_,_,q⟩ | ⟨_,q,_⟩ <;> cases q
   | str _=>rcases hd with ⟨_,_,q⟩ | ⟨_,q,_⟩ <;> cases q
   | bor _ _=>exact hy.elim
   | opq=>exact hy.elim
  cases t with
  | ref b =>
   have hab:a≠b:=fun z=>by
    subst z
    cases w with
    | ref b' =>
     cases rw_
     have q:=Rep.inj h I st (.obj o) y (.ref a) ⟨a,rfl,hr⟩ hy
     rcases hd with ⟨c2,fs2,q2⟩ | ⟨j,hj,hne⟩
     ·rw [q2] at q; cases q
     ·rcases hne with hne | hne
      ·rw [← q,hk] at hj; cases hj; exact hne rfl
      ·exact hne.2 q
    | int _=>obtain ⟨_,q⟩:=rw_; cases q
    | str _=>obtain ⟨_,q⟩:=rw_; cases q
    | byt _=>obtain ⟨_,q⟩:=rw_; cases q
    | flt _=>obtain ⟨_,q⟩:=rw_; cases q
    | _=>cases rw_
   obtain ⟨ob,hob⟩:∃ ob,s.heap.get? b=some ob:=by
    cases y with
    | non=>cases (show w = .non from hy); cases rw_
    | bl _=>cases (show w = .bl _ from hy); cases rw_
    | int _=>cases (show w = .int _ from hy); obtain ⟨_,q⟩:=rw_; cases q
    | str _=>cases (show w = .str _ from hy); obtain ⟨_,q⟩:=rw_; cases q
    | tup xs =>
     obtain ⟨b',vs,q,q1,_⟩:=hy
     subst q; cases rw_
     obtain ⟨_,_,⟨o,q,_⟩,_⟩:=I.tuple (show SqT X.K H b vs by rw [h.K]; exact sqT_sub q1 st.sub)
     exact ⟨_,q⟩
    | lst xs =>
     obtain ⟨b',vs,q,q1,_⟩:=hy
     subst q; cases rw_
     obtain ⟨its,m,q,_⟩:=sq_exact h I st q1
     exact ⟨_,q⟩
    | ins c xs =>
     obtain ⟨b',dx,gs,vs,i,q,q1,_⟩:=hy
     subst q; cases rw_
     obtain ⟨_,od,_,_,J2⟩:=inst_rule I (st.sub _ _ q1)
     obtain ⟨_,_,_,q,_⟩:=I.hok b _ (st.sub _ _ q1)
     exact ⟨_,q⟩
    | obj o2 =>
     obtain ⟨b',q,q1⟩:=hy
     subst q; cases rw_
     rcases hd with ⟨_,_,q⟩ | ⟨j,hj,_⟩
     ·cases q
     ·have kk:=kind_at h I st (x:=.obj o2) ⟨b,rfl,q1⟩ rfl hj
      rcases kk with ⟨_,q,_⟩ | ⟨_,⟨_,q⟩,_⟩ | ⟨_,⟨_,q⟩,_⟩ | ⟨_,o3,b3,c3,ci3,ox3,od3,q,q2,_,_,_,J3,_⟩
      ·cases q
      ·cases q
      ·cases q
      ·cases q2
       exact ⟨_,J3.at_⟩
    | bor _ _=>exact hy.elim
    | opq=>exact hy.elim
   exact fun A Q E s' k q=>wpAny_isSame_ref_other hab (k _ _ J.at_) (k _ _ hob) nt q
  | none=>exact nref nofun
  | bool _=>exact nref nofun
  | int _ _=>exact nref nofun
  | _=>exact nref nofun
theorem eq_run (h:Hyp W X n C Wx) {m:Nat} (hl:(∀ f ds μ,C.low f ds μ = .stuck)∨∃ k,k+34≤m∧FnPs W k C.hot C.rep C.low):∀ (k:Nat) (A:Around) (s:Shared) (H:Hp) (e:Em) (x y:D) (v w:V) (u t:Value),
  SubU X m k A→Inv X pins σ H s→St0 W e μ H→Rep W e x v→Rep W e y w→RelV v u→RelV w t→eqOk C μ k x y →
  wpAny (model X.prog X.w) A (eqBool u t) (fun r s'=>(r=true↔x=y)∧Back X pins σ W e H μ s') X.xe s ∧
  (¬ (flat x=true∧flat y=true)→∀ ne,wpAny (model X.prog X.w) A (richCompare (Ev4.opN ne) u t) (Two X pins σ W e H μ x y ne) X.xe s):=by
 intro k
 induction k with
 | zero=>intro A s H e x y v w u t _ _ _ _ _ _ _ ok; exact ok.elim
 | succ k ih =>
  intro A s H e x y v w u t sb I st hx hy rv rw_ ok
  have up:∀ {a b:Addr},v = .ref a→w = .ref b→(∀ ne,wpAny (model X.prog X.w) A (richCompare (Ev4.opN ne) u t) (fun r s'=>∃ b,r = .bool (b != ne)∧(b=true↔x=y)∧Back X pins σ W e H μ s') X.xe s) →
    wpAny (model X.prog X.w) A (eqBool u t) (fun r s'=>(r=true↔x=y)∧Back X pins σ W e H μ s') X.xe s:=by
   rintro a b rfl rfl rc
   cases rv
   cases rw_
   by_cases hab:a=b
   ·subst hab
    exact SeqAt.EqAt.same (A:=A) (s:=s) (.ref a) X.prog X.w X.xe _ ⟨by simp [Rep.inj h I st x y _ hx hy],e,H,I,Ex.refl e H,st⟩
   ·refine GQ.eqBool_refG hab (wpAny_mono (rc false) (fun r s' q=>?_) fun _ _ z=>z)
    obtain ⟨b,hb,q1,q2⟩:=q
    exact ⟨b,by rw [hb]; simp,q1,q2⟩
  have flatC:flat x=true→flat y=true→mix x y=false→wpAny (model X.prog X.w) A (eqBool u t) (fun r s'=>(r=true↔x=y)∧Back X pins σ W e H μ s') X.xe s:=fun f g mx =>
   eqAt_V (A:=A) (s:=s) rv rw_ (flat_V f hx) (flat_V g hy) X.prog X.w X.xe _ ⟨flat_eqV f g mx hx hy,e,H,I,Ex.refl e H,st⟩
  have upN:(u == t)=false→(∀ ne,wpAny (model X.prog X.w) A (richCompare (Ev4.opN ne) u t) (Two X pins σ W e H μ x y ne) X.xe s)→(∀ a b c d,(u,t)≠(Value.float a b,Value.float c d)) →
    wpAny (model X.prog X.w) A (eqBool u t) (fun r s'=>(r=true↔x=y)∧Back X pins σ W e H μ s') X.xe s:=by
   intro hut rc hf
   unfold eqBool
   refine wpAny_holding ?_
   refine wpAny_ite_split (fun hab=>by rw [hut] at hab; cases hab) (fun _=>?_)
   have fin:wpAny (model X.prog X.w) A (richCompare .Eq u t >>= fun v=>truthOfDropped v) (fun r s'=>(r=true↔x=y)∧Back X pins σ W e H μ s') X.xe s:=by
    refine wpAny_bind (wpAny_mono (rc false) (fun v s' hv=>?_) fun _ _ x=>x)
    obtain ⟨r,rfl,q1,q2⟩:=hv
    exact wpAny_truthy_bool ⟨by simpa using q1,q2⟩
   split
   ·rename_i a b c d hh
    exact absurd hh (hf a b c d)
   ·exact fin
  have ih':∀ (A:Around) (s:Shared) (H:Hp) (e:Em) (x y:D) (v w:V) (u t:Value),SubU X m k A→Inv X pins σ H s→St0 W e μ H→Rep W e x v→Rep W e y w→RelV v u→RelV w t→eqOk C μ k x y →
   wpAny (model X.prog X.w) A (eqBool u t) (fun r s'=>(r=true↔x=y)∧Back X pins σ W e H μ s') X.xe s:=fun A s H e x y v w u t a b c d f g i j=>(ih A s H e x y v w u t a b c d f g i j).1
  have both:∀ {i j:Nat},eqK C.T μ x=some i→eqK C.T μ y=some j→(i≠j∨i=3)→eqS C.T μ x y→x≠y→∀ ne,wpAny (model X.prog X.w) A (richCompare (Ev4.opN ne) u t) (Two X pins σ W e H μ x y ne) X.xe s:=by
   intro i j hi hj hij hs hxy ne
   obtain ⟨ta,la,tx⟩:=typ_at h I st (.ofK hi) hx rv
   obtain ⟨tb,lb,ty⟩:=typ_at h I st (.ofK hj) hy rw_
   have kx:=kind_at h I st hx rv hi
   have ky:=kind_at h I st hy rw_ hj
   have hij2:i≠j∨(i=3∧j=3):=by
    rcases hij with q | q
    ·exact .inl q
    ·by_cases z:i=j
     ·exact .inr ⟨q,by omega⟩
     ·exact .inl z
   have one:oneThing? (Ev4.opN ne) u t=none:=by
    rcases kx with ⟨_,_,rfl⟩ | ⟨_,_,a,rfl,_⟩ | ⟨_,_,a,rfl,_⟩ | ⟨_,o,a,_,_,_,_,_,rfl,_⟩ <;> rfl
   have hsame:PySem.W.Looks (model X.prog X.w) s.heap (isSame u t) false:=by
    have refs:∀ (a b:Addr) (oa ob:Obj),u = .ref a→t = .ref b→s.heap.get? a=some oa→s.heap.get? b=some ob→oa.cls ≠ .type "tuple" ∨ ob.cls ≠ .type "tuple" → a≠b→PySem.W.Looks (model X.prog X.w) s.heap (isSame u t) false:=by
     rintro a b oa ob rfl rfl ha hb hn hab A Q E s' k q
     rcases hn with hn | hn
     ·exact wpAny_isSame_ref_other hab (k _ _ ha) (k _ _ hb) hn q
     ·exact SeqAt.wpAny_isSame_ref_other' hab (k _ _ ha) (k _ _ hb) hn q
    rcases kx with ⟨i0,rfl,rfl⟩ | ⟨i0,⟨xs,rfl⟩,a,rfl,oa,ha,ca⟩ | ⟨i0,⟨xs,rfl⟩,a,rfl,oa,ha,ca⟩ | ⟨i0,o,a,c,ci,ox,od,rfl,rfl,_,_,_,J,hoc,hr,_⟩
    ·rcases ky with ⟨j0,rfl,rfl⟩ | ⟨j0,_,b,rfl,_⟩ | ⟨j0,_,b,rfl,_⟩ | ⟨j0,o2,b,c2,ci2,ox2,od2,rfl,rfl,_⟩
     ·exact absurd rfl hxy
     ·exact .of_pure rfl
     ·exact .of_pure rfl
     ·exact .of_pure rfl
    all_goals
     rcases ky with ⟨j0,rfl,rfl⟩ | ⟨j0,⟨ys,rfl⟩,b,rfl,ob,hb,cb⟩ | ⟨j0,⟨ys,rfl⟩,b,rfl,ob,hb,cb⟩ | ⟨j0,o2,b,c2,ci2,ox2,od2,rfl,rfl,_,_,_,J2,hoc2,hr2,_⟩
    ·exact .of_pure rfl
    ·exfalso; omega
    ·refine refs a b oa ob rfl rfl ha hb (.inr (by rw [cb]; decide)) fun z=>?_
     subst z; rw [ha] at hb; cases hb; rw [ca] at cb; exact absurd cb (by decide)
    ·refine refs a b oa ox2 rfl rfl ha J2.at_ (.inr (by rw [hoc2]; exact nofun)) fun z=>?_
     subst z; have q:=J2.at_; cases Option.some.inj (ha.symm.trans q); rw [ca] at hoc2; cases hoc2
    ·exact .of_pure rfl
    ·refine refs a b oa ob rfl rfl ha hb (.inl (by rw [ca]; decide)) fun z=>?_
     subst z; rw [ha] at hb; cases hb; rw [ca] at cb; exact absurd cb (by decide)
    ·exfalso; omega
    ·refine refs a b oa ox2 rfl rfl ha J2.at_ (.inr (by rw [hoc2]; exact nofun)) fun z=>?_
     subst z; have q:=J2.at_; cases Option.some.inj (ha.symm.trans q); rw [ca] at hoc2; cases hoc2
    ·exact .of_pure rfl
    ·refine refs a b ox ob rfl rfl J.at_ hb (.inl (by rw [hoc]; exact nofun)) fun z=>?_
     subst z; have q:=J.at_; cases Option.some.inj (hb.symm.trans q); rw [cb] at hoc; cases hoc
    ·refine refs a b ox ob rfl rfl J.at_ hb (.inl (by rw [hoc]; exact nofun)) fun z=>?_
     subst z; have q:=J.at_; cases Option.some.inj (hb.symm.trans q); rw [cb] at hoc; cases hoc
    ·refine refs a b ox ox2 rfl rfl J.at_ J2.at_ (.inl (by rw [hoc]; exact nofun)) fun z=>?_
     subst z; exact hxy (by rw [st.inj o o2 a hr hr2])
   refine EvE.rc_any one sb.hu0 la lb (fun hne=>sub_look h I (sub_kind h (by rw [← h.T]; exact hi) tx ty (by rw [← h.T]; exact hs) (fun c fs z=>by subst z; cases hj) hne)) ?_
   refine wpAny_mono (kind_dec h sb.hu I st hx hy rv rw_ hi lb ty (.inr ⟨j,hj,hij2.imp id fun z=>⟨z.1,hxy⟩⟩) ne) (fun o s' q=>?_) fun _ _ z=>z
   obtain ⟨rfl,rfl⟩:=q
   refine wpAny_mono (kind_dec h sb.hu I st hy hx rw_ rv hj la tx (.inr ⟨i,hi,hij2.imp (fun z=>Ne.symm z) fun z=>⟨z.2,Ne.symm hxy⟩⟩) ne) (fun o s' q=>?_) fun _ _ z=>z
   obtain ⟨rfl,rfl⟩:=q
   exact hsame.here ⟨false,rfl,by simp [hxy],e,H,I,Ex.refl e H,st⟩
  have refOf:∀ {x:D} {v:V} {u:Value},flat x=false→Rep W e x v→RelV v u→∃ a,v = .ref a∧u = .ref a:=by
   intro x v u hf hx rv
   cases x with
   | tup b=>obtain ⟨b,_,q,_⟩:=hx; subst q; cases rv; exact ⟨b,rfl,rfl⟩
   | lst b=>obtain ⟨b,_,q,_⟩:=hx; subst q; cases rv; exact ⟨b,rfl,rfl⟩
   | ins c b=>obtain ⟨b,_,_,_,_,q,_⟩:=hx; subst q; cases rv; exact ⟨b,rfl,rfl⟩
   | obj b=>obtain ⟨b,q,_⟩:=hx; subst q; cases rv; exact ⟨b,rfl,rfl⟩
   | bor _ _=>exact hx.elim
   | opq=>exact hx.elim
   | _=>cases hf
  have flatOf:∀ {x:D} {v:V} {u:Value},flat x=true→Rep W e x v→RelV v u→(∀ a,(Value.ref a == u)=false∧(u == Value.ref a)=false):=by
   intro x v u hf hx rv a
   cases x with
   | non=>cases (show v = .non from hx); cases rv; exact ⟨rfl,rfl⟩
   | bl b=>cases (show v = .bl b from hx); cases rv; exact ⟨rfl,rfl⟩
   | int b=>cases (show v = .int b from hx); obtain ⟨_,rfl⟩:=rv; exact ⟨rfl,rfl⟩
   | str b=>cases (show v = .str b from hx); obtain ⟨_,rfl⟩:=rv; exact ⟨rfl,rfl⟩
   | _=>cases hf
  have eqb:¬ (flat x=true∧flat y=true)→(∀ ne,wpAny (model X.prog X.w) A (richCompare (Ev4.opN ne) u t) (Two X pins σ W e H μ x y ne) X.xe s)→wpAny (model X.prog X.w) A (eqBool u t) (fun r s'=>(r=true↔x=y)∧Back X pins σ W e H μ s') X.xe s:=by
   intro hnf rc
   cases fx:flat x with
   | true =>
    cases fy:flat y with
    | true=>exact absurd ⟨fx,fy⟩ hnf
    | false =>
     obtain ⟨b,hb,rfl⟩:=refOf fy hy rw_
     refine upN ((flatOf fx hx rv b).2) rc fun p q r z=>by simp
   | false =>
    obtain ⟨a,ha,rfl⟩:=refOf fx hx rv
    cases fy:flat y with
    | true=>exact upN ((flatOf fy hy rw_ a).1) rc fun p q r z=>by simp
    | false =>
     obtain ⟨b,hb,rfl⟩:=refOf fy hy rw_
     exact up ha hb rc
  have two:¬ (flat x=true∧flat y=true)→(∀ ne,wpAny (model X.prog X.w) A (richCompare (Ev4.opN ne) u t) (Two X pins σ W e H μ x y ne) X.xe s)→(wpAny (model X.prog X.w) A (eqBool u t) (fun r s'=>(r=true↔x=y)∧Back X pins σ W e H μ s') X.xe s ∧
    (¬ (flat x=true∧flat y=true)→∀ ne,wpAny (model X.prog X.w) A (richCompare (Ev4.opN ne) u t) (Two X pins σ W e H μ x y ne) X.xe s)):=fun hnf rc=>⟨eqb hnf rc,fun _=>rc⟩
  have onR:∀ {c:Nat} {gs:List D},y = .ins c gs→(eqK C.T μ x).isSome=true∧(∀ o c' fs',x = .obj o→μ[o]?=some (.ins c' fs')→isSubc C.T c c'=false)∧(∃ f:Nat,mthd C.T c 6=some f∧C.low f [D.ins c gs,x] μ = .ok (.bl false) μ)→x≠y→∀ ne,wpAny (model X.prog X.w) A (richCompare (Ev4.opN ne) u t) (Two X pins σ W e H μ x y ne) X.xe s:=by
   rintro c gs rfl ⟨hk,hsb,f,hm,ho⟩ hxy ne
   obtain ⟨i,hi⟩:=Option.isSome_iff_exists.mp hk
   obtain ⟨ta,la,tx⟩:=typ_at h I st (.ofK hi) hx rv
   obtain ⟨tb,lb,ty⟩:=typ_at h I st (by intro o c fs z; cases z) hy rw_
   obtain ⟨b,_,rfl⟩:=refOf rfl hy rw_
   have one:oneThing? (Ev4.opN ne) u (.ref b)=none:=by
    rcases kind_at h I st hx rv hi with ⟨_,_,rfl⟩ | ⟨_,_,a,rfl,_⟩ | ⟨_,_,a,rfl,_⟩ | ⟨_,o,a,_,_,_,_,_,rfl,_⟩ <;> rfl
   refine EvE.rc_any one sb.hu0 la lb (fun hne=>sub_look h I (sub_kind h (by rw [← h.T]; exact hi) tx ty (by rw [← h.T]; cases x <;> trivial) (fun c2 fs2 z o c' fs' z2 z3=>by injection z with z4 z5; rw [← z4,← h.T]; exact hsb o c' fs' z2 z3) hne)) ?_
   refine wpAny_mono (kind_dec h sb.hu I st hx hy rv rw_ hi lb ty (.inl ⟨c,gs,rfl⟩) ne) (fun o s' q=>?_) fun _ _ z=>z
   obtain ⟨rfl,rfl⟩:=q
   refine wpAny_mono (own_asks h hl sb I st hy hx rw_ rv hm ho ne) (fun o s' q=>?_) fun _ _ z=>z
   obtain ⟨rfl,q⟩:=q
   exact ⟨false,rfl,by simp [hxy],q⟩
  have main:∀ (ok:(flat x=true∧flat y=true∧mix x y=false)∨(∃ i j,eqK C.T μ x=some i∧eqK C.T μ y=some j∧(i≠j∨i=3)∧eqS C.T μ x y)),(wpAny (model X.prog X.w) A (eqBool u t) (fun r s'=>(r=true↔x=y)∧Back X pins σ W e H μ s') X.xe s ∧
    (¬ (flat x=true∧flat y=true)→∀ ne,wpAny (model X.prog X.w) A (richCompare (Ev4.opN ne) u t) (Two X pins σ W e H μ x y ne) X.xe s)):=by
   rintro (⟨f,g,mx⟩ | ⟨i,j,hi,hj,hij,hs⟩)
   ·exact ⟨flatC f g mx,fun hn=>absurd ⟨f,g⟩ hn⟩
   ·by_cases hxy:x=y
    ·subst hxy
     rw [hi] at hj; cases hj
     rcases hij with q | rfl
     ·exact absurd rfl q
     ·refine two (fun z=>?_) fun ne=>?_
      ·rcases kind_at h I st hx rv hi with ⟨q,_⟩ | ⟨q,_⟩ | ⟨q,_⟩ | ⟨_,o,a,_,_,_,_,rfl,_⟩
       ·cases q
       ·cases q
       ·cases q
       ·exact Bool.noConfusion z.1
      ·rcases kind_at h I st hx rv hi with ⟨q,_⟩ | ⟨q,_⟩ | ⟨q,_⟩ | ⟨_,o,a,c,ci,ox,od,rfl,rfl,hci,hex,hno,J,hoc,hr,_⟩
       ·cases q
       ·cases q
       ·cases q
       ·obtain ⟨a',rfl,hr'⟩:=hy
        rw [hr] at hr'; cases hr'
        cases rw_
        have cf:=h.txt.cls c ci hci hex
        obtain ⟨e1,e2⟩:=cf.eqo hno
        refine EvE.rc_any (oneThing_ref ..) sb.hu0 J.type J.type (fun q=>by simp at q) (EvE.same_obj sb.hu I.kIn J (by rw [h.K]; exact e1) (by rw [h.K]; exact e2) (by rw [h.K]; exact cf.top) ⟨true,rfl,by simp,e,H,I,Ex.refl e H,st⟩)
    ·refine two (fun z=>?_) (both hi hj hij hs hxy)
     rcases kind_at h I st hx rv hi with ⟨q,rfl,_⟩ | ⟨q,⟨_,rfl⟩,_⟩ | ⟨q,⟨_,rfl⟩,_⟩ | ⟨_,o,a,_,_,_,_,rfl,_⟩
     ·rcases kind_at h I st hy rw_ hj with ⟨q,rfl,_⟩ | ⟨q,⟨_,rfl⟩,_⟩ | ⟨q,⟨_,rfl⟩,_⟩ | ⟨_,o,a,_,_,_,_,rfl,_⟩
      ·exact hxy rfl
      ·exact Bool.noConfusion z.2
      ·exact Bool.noConfusion z.2
      ·exact Bool.noConfusion z.2
     ·exact Bool.noConfusion z.1
     ·exact Bool.noConfusion z.1
     ·exact Bool.noConfusion z.1
  cases x with
  | bor _ _=>exact hx.elim
  | opq=>exact hx.elim
  | ins c fs =>
   have ok:eqR C.T μ c y∧∃ (f:Nat) (r:Bool),mthd C.T c 6=some f∧(r=true↔D.ins c fs=y)∧C.low f [D.ins c fs,y] μ = .ok (.bl r) μ:=ok
   obtain ⟨hr,f,r,hm,he,ho⟩:=ok
   exact two (fun z=>Bool.noConfusion z.1) fun ne=>mix_ins h hl sb I st hx hy rv rw_ hr hm he ho ne
  | tup xs =>
   cases y with
   | tup ys =>
    have ok:∀ (i:Nat) (a b:D),xs[i]?=some a→ys[i]?=some b→eqOk C μ k a b:=ok
    obtain ⟨a,vs,rfl,h1,h2⟩:=hx
    obtain ⟨b,ws,rfl,g1,g2⟩:=hy
    have rc:∀ ne,wpAny (model X.prog X.w) A (richCompare (Ev4.opN ne) u t) (fun r s'=>∃ b,r = .bool (b != ne)∧(b=true↔D.tup xs=D.tup ys)∧Back X pins σ W e H μ s') X.xe s:=by
     intro ne
     have rv':=rv
     have rw':=rw_
     cases rv'
     cases rw'
     obtain ⟨its,r1,t1,z1⟩:=I.tuple (show SqT X.K H a vs by rw [h.K]; exact sqT_sub h1 st.sub)
     obtain ⟨its2,r2,t2,z2⟩:=I.tuple (show SqT X.K H b ws by rw [h.K]; exact sqT_sub g1 st.sub)
     have l1:its.length=xs.length:=by rw [← r1.length,h2.length]
     have l2:its2.length=ys.length:=by rw [← r2.length,g2.length]
     refine Ev4.rc_tup (ne:=ne) (items:=its.toArray) (items2:=its2.toArray) sb.hu0 (fun i s'=>Back X pins σ W e H μ s'∧∀ j,j < i→xs[j]?=ys[j]?) (fun s'=>Back X pins σ W e H μ s'∧xs≠ys) t1 t2 (fun i k1 k2 s' q=>?_) (fun s' q=>?_) (fun s' q=>?_) ⟨⟨e,H,I,Ex.refl e H,st⟩,fun j hj=>absurd hj (Nat.not_lt_zero j)⟩
     ·obtain ⟨⟨e1,H1,I1,x1,st1⟩,q2⟩:=q
      refine wpAny_mono (item_turn (i:=i) (Ex.refl e H) ih' ok sb.in1 I1 x1 st1 h2 g2 r1 r2 (by simp at k1; simp [k1]) (by simp at k2; simp [k2])) (fun r s2 z=>?_) fun _ _ z=>z
      cases r with
      | true=>exact ⟨z.2,fun j hj=>(Nat.lt_succ_iff_lt_or_eq.mp hj).elim (q2 j) fun hj=>by rw [hj]; exact z.1.mp rfl⟩
      | false=>exact ⟨z.2,fun hh=>absurd (z.1.mpr (by rw [hh])) (by simp)⟩
     ·refine ⟨its.length == its2.length,by simp,?_,q.1⟩
      rw [beq_iff_eq,l1,l2]
      constructor
      ·intro hh
       congr 1
       apply List.ext_getElem?
       intro j
       by_cases hj:j < xs.length
       ·exact q.2 j (by simp [l1,l2]; omega)
       ·rw [List.getElem?_eq_none (by omega),List.getElem?_eq_none (by omega)]
      ·intro hh
       cases hh; rfl
     ·exact ⟨false,by simp,by simp [q.2],q.1⟩
    exact ⟨up rfl rfl rc,fun _=>rc⟩
   | ins c gs=>exact two (fun z=>Bool.noConfusion z.1) (onR rfl ok nofun)
   | bor _ _=>exact hy.elim
   | opq=>exact hy.elim
   | _=>exact main ok
  | lst xs =>
   cases y with
   | lst ys =>
    have ok:∀ (i:Nat) (a b:D),xs[i]?=some a→ys[i]?=some b→eqOk C μ k a b:=ok
    obtain ⟨a,vs,rfl,h1,h2⟩:=hx
    obtain ⟨b,ws,rfl,g1,g2⟩:=hy
    have rc:∀ ne,wpAny (model X.prog X.w) A (richCompare (Ev4.opN ne) u t) (fun r s'=>∃ b,r = .bool (b != ne)∧(b=true↔D.lst xs=D.lst ys)∧Back X pins σ W e H μ s') X.xe s:=by
     intro ne
     have rv':=rv
     have rw':=rw_
     cases rv'
     cases rw'
     by_cases hlen:xs.length=ys.length
     ·have here:∀ s',Back X pins σ W e H μ s'→∃ its its2 n1 n2,s'.heap.get? a=some { cls:=.type "list",data:=.seq its.toArray n1 }∧s'.heap.get? b=some { cls:=.type "list",data:=.seq its2.toArray n2 }∧Vals vs its∧Vals ws its2∧its.length=xs.length∧its2.length=xs.length:=by
       rintro s' ⟨e1,H1,I1,x1,st1⟩
       obtain ⟨its,n1,q1,r1,_⟩:=sq_exact h I1 st1 (h1.mono x1.g)
       obtain ⟨its2,n2,q2,r2,_⟩:=sq_exact h I1 st1 (g1.mono x1.g)
       exact ⟨its,its2,n1,n2,q1,q2,r1,r2,by rw [← r1.length,h2.length],by rw [← r2.length,g2.length,hlen]⟩
      refine Ev4.rc_list (ne:=ne) (N:=xs.length) sb.hu0 (fun i s'=>Back X pins σ W e H μ s'∧∀ j,j < i→xs[j]?=ys[j]?) (fun s'=>Back X pins σ W e H μ s'∧xs≠ys) ⟨fun i s' q=>?_,fun s' q=>?_,fun i s' items items2 n1 n2 q p1 p2 k1 k2=>?_⟩ (fun s' q=>?_) (fun s' q=>?_) ⟨⟨e,H,I,Ex.refl e H,st⟩,fun j hj=>absurd hj (Nat.not_lt_zero j)⟩
      ·obtain ⟨its,its2,n1,n2,q1,q2,_,_,l1,l2⟩:=here s' q.1
       exact ⟨_,_,n1,n2,q1,q2,by simp [l1],by simp [l2]⟩
      ·obtain ⟨its,its2,n1,n2,q1,q2,_,_,l1,l2⟩:=here s' q.1
       exact ⟨_,_,n1,n2,q1,q2,by simp [l1],by simp [l2]⟩
      ·obtain ⟨its,its2,n3,n4,q1,q2,r1,r2,l1,l2⟩:=here s' q.1
       rw [q1] at p1; rw [q2] at p2
       cases p1; cases p2
       obtain ⟨⟨e1,H1,I1,x1,st1⟩,q3⟩:=q
       refine wpAny_mono (item_turn (i:=i) (Ex.refl e H) ih' ok sb.in1 I1 x1 st1 h2 g2 r1 r2 (by simp at k1; simp [k1]) (by simp at k2; simp [k2])) (fun r s2 z=>?_) fun _ _ z=>z
       cases r with
       | true=>exact ⟨z.2,fun j hj=>(Nat.lt_succ_iff_lt_or_eq.mp hj).elim (q3 j) fun hj=>by rw [hj]; exact z.1.mp rfl⟩
       | false=>exact ⟨by simp at k1; omega,z.2,fun hh=>absurd (z.1.mpr (by rw [hh])) (by simp)⟩
      ·refine ⟨true,by simp,?_,q.1⟩
       refine ⟨fun _=>?_,fun _=>rfl⟩
       congr 1
       apply List.ext_getElem?
       intro j
       by_cases hj:j < xs.length
       ·exact q.2 j hj
       ·rw [List.getElem?_eq_none (by omega),List.getElem?_eq_none (by omega)]
      ·exact ⟨false,by simp,by simp [q.2],q.1⟩
     ·obtain ⟨its,n1,q1,r1,_⟩:=sq_exact h I st h1
      obtain ⟨its2,n2,q2,r2,_⟩:=sq_exact h I st g1
      refine Ev4.rc_listL (ne:=ne) sb.hu0 q1 q2 (by simp; rw [← r1.length,← r2.length,h2.length,g2.length]; exact hlen) ?_
      refine ⟨false,by simp,?_,e,H,I,Ex.refl e H,st⟩
      simp
      intro hh; exact hlen (by rw [hh])
    exact ⟨up rfl rfl rc,fun _=>rc⟩
   | ins c gs=>exact two (fun z=>Bool.noConfusion z.1) (onR rfl ok nofun)
   | bor _ _=>exact hy.elim
   | opq=>exact hy.elim
   | _=>exact main ok
  | obj o =>
   cases y with
   | ins c gs=>exact two (fun z=>Bool.noConfusion z.1) (onR rfl ok nofun)
   | bor _ _=>exact hy.elim
   | opq=>exact hy.elim
   | obj o2 =>
    have ok:(o=o2∧∃ xs,μ[o]?=some (.lst xs)∧∀ (i:Nat) (d:D),xs[i]?=some d→eqOk C μ k d d)∨(∃ i j,eqK C.T μ (.obj o)=some i∧eqK C.T μ (.obj o2)=some j∧(i≠j∨i=3)∧eqS C.T μ (.obj o) (.obj o2)):=ok
    rcases ok with ⟨rfl,xs,hxs,ok⟩ | ok
    ·-- one list of the store
     obtain ⟨a,rfl,h1⟩:=hx
     obtain ⟨a',rfl,h1'⟩:=hy
     rw [h1] at h1'; cases h1'
     have rc:∀ ne,wpAny (model X.prog X.w) A (richCompare (Ev4.opN ne) u t) (fun r s'=>∃ b,r = .bool (b != ne)∧(b=true↔D.obj o=D.obj o)∧Back X pins σ W e H μ s') X.xe s:=by
      intro ne
      have rv':=rv
      have rw':=rw_
      cases rv'
      cases rw'
      have here:∀ s',Back X pins σ W e H μ s'→∃ e1 H1 vs its n1,Inv X pins σ H1 s'∧Ex e H e1 H1∧St0 W e1 μ H1∧RepL W e1 xs vs∧s'.heap.get? a=some { cls:=.type "list",data:=.seq its.toArray n1 }∧Vals vs its∧its.length=xs.length:=by
       rintro s' ⟨e1,H1,I1,x1,st1⟩
       obtain ⟨b,hb,hr⟩:=st1.cell o _ hxs
       rw [x1.r o a h1] at hb; cases hb
       obtain ⟨vs,k1,k2⟩:=hr
       obtain ⟨_,its,n1,r1,q1⟩:=(show Rd H1 a (.lst vs) from .inl k1).ok I1.hok
       exact ⟨e1,H1,vs,its,n1,I1,x1,st1,k2,q1,r1,by rw [← r1.length,k2.length]⟩
      refine Ev4.rc_list (ne:=ne) (N:=xs.length) sb.hu0 (fun i s'=>Back X pins σ W e H μ s') (fun s'=>False) ⟨fun i s' q=>?_,fun s' q=>q.elim,fun i s' items items2 n1 n2 q p1 p2 k1 k2=>?_⟩ (fun s' q=>?_) (fun s' q=>q.elim) ⟨e,H,I,Ex.refl e H,st⟩
      ·obtain ⟨e1,H1,vs,its,n1,_,_,_,_,q1,_,l1⟩:=here s' q
       exact ⟨_,_,n1,n1,q1,q1,by simp [l1],by simp [l1]⟩
      ·obtain ⟨e1,H1,vs,its,n3,I1,x1,st1,k3,q1,r1,l1⟩:=here s' q
       rw [q1] at p1 p2
       cases p1; cases p2
       have ok2:∀ (i:Nat) (a b:D),xs[i]?=some a→xs[i]?=some b→eqOk C μ k a b:=fun i a b g1 g2=>by
        rw [g1] at g2; cases g2
        exact ok i a g1
       refine wpAny_mono (item_turn (i:=i) (Ex.refl e1 H1) ih' ok2 sb.in1 I1 (Ex.refl e1 H1) st1 k3 k3 r1 r1 (by simp at k1; simp [k1]) (by simp at k2; simp [k2])) (fun r s2 z=>?_) fun _ _ z=>z
       have hr:r=true:=z.1.mpr rfl
       subst hr
       exact z.2.trans x1
      ·exact ⟨true,by simp,by simp,q⟩
     exact ⟨up rfl rfl rc,fun _=>rc⟩
    ·exact main (.inr ok)
   | _=>exact main ok
  | _ =>
   cases y with
   | ins c gs=>exact two (fun z=>Bool.noConfusion z.2) (onR rfl ok nofun)
   | bor _ _=>exact hy.elim
   | opq=>exact hy.elim
   | _=>exact main ok
end
end Ev
set_option maxRecDepth 100000
set_option maxHeartbeats 2000000
namespace EvN
open PySem PySem.SeqAt
open AutoSeq1 (wpAny_loadPart')
open MeetsSeq MeetsSeq2 MeetsSeq3 SeqRoads2
section
variable {prog:Program} {w:World} {A:Around} {R:Result→Shared→Prop}
def LL (l:Addr) (N:Nat) (s:Shared):Prop:=∃ (items:Array Value) (n:Nat),s.heap.get? l=some { cls:=.type "list",data:=.seq items n }∧items.size=N
structure InI (prog:Program) (w:World) (A:Around) (E:Value→Shared→Prop) (l:Addr) (x:Value) (N:Nat) (I:Nat→Shared→Prop) (Y:Shared→Prop):Prop where
 ls:∀ i s,I i s→LL l N s
 turn:∀ i s items n,I i s→s.heap.get? l=some { cls:=.type "list",data:=.seq items n }→∀ (h1:i < items.size),
  wpAny (model prog w) A.in1 (eqBool items[i] x) (fun r s'=>if r=true then Y s' else I (i+1) s') E s
theorem loopG (l:Addr) (x:Value) (N:Nat) (I:Nat→Shared→Prop) (Y:Shared→Prop) (hl:InI prog w A (fun e s'=>R (.error e) s') l x N I Y)
  (fin:∀ s,I N s→R (.ok (.ret (.bool false))) s) (finY:∀ s,Y s→R (.ok (.ret (.bool true))) s) (k:Nat) :
  ∀ i:Nat,N - i=k→i≤N→∀ s,I i s →
   wpAny (model prog w) A.in1 (Builtin.«list.__contains__.loop» ⟨[.ref l,x,rawInt i],[]⟩) (Ev4.FinOf prog w A R) (fun e s'=>R (.error e) s') s:=by
 induction k with
 | zero =>
  intro i hk hi s h
  obtain ⟨items,n,hl1,hs1⟩:=hl.ls _ _ h
  have hi':i=N:=by omega
  have hR:=fin s (hi'▸h)
  obtain ⟨hp,g,d,tk,os⟩:=s
  have hi1:items[((i:Nat):Int).toNat]?=none:=by simp; omega
  wp_walk using wpAny_loadPart' hl1
  rw [hi1]
  wp_walk
  exact hR
 | succ k ih =>
  intro i hk hi s h
  obtain ⟨items,n,hl1,hs1⟩:=hl.ls _ _ h
  have hlt:i < items.size:=by omega
  have ht:=hl.turn i s items n h hl1 hlt
  have hi1:items[((i:Nat):Int).toNat]?=some items[i]:=by simp [hlt]
  have hc1:((i:Int)+1)=((i+1:Nat):Int):=by omega
  obtain ⟨hp,g,d,tk,os⟩:=s
  wp_walk using wpAny_loadPart' hl1
  rw [hi1]
  refine wpAny_bind (wpAny_mono ht (fun r s2 h2=>?_) fun _ _ x=>x)
  cases r with
  | true =>
   have h2:Y s2:=by simpa using h2
   have hR:=finY s2 h2
   obtain ⟨hp2,g2,d2,tk2,os2⟩:=s2
   wp_walk
   exact hR
  | false =>
   have hrec:=ih (i+1) (by omega) (by omega) s2 (by simpa using h2)
   obtain ⟨hp2,g2,d2,tk2,os2⟩:=s2
   wp_walk
   rw [hc1]
   exact ⟨plainId_quiet plain_contains_loop _,codeAny_builtin entry_contains_loop (by
    rw [Around.under_plainId plain_contains_loop _]
    exact hrec)⟩
theorem list_inG (l:Addr) (x:Value) (N:Nat) (I:Nat→Shared→Prop) (Y:Shared→Prop) (hl:InI prog w A (fun e s'=>R (.error e) s') l x N I Y)
  (fin:∀ s,I N s→R (.ok (.ret (.bool false))) s) (finY:∀ s,Y s→R (.ok (.ret (.bool true))) s) {s:Shared} (h:I 0 s) :
  wpAny (model prog w) A.in1 (Builtin.«list.__contains__» ⟨[.ref l,x],[]⟩) (Ev4.FinOf prog w A R) (fun e s'=>R (.error e) s') s:=by
 have hrec:=loopG (A:=A) (R:=R) l x N I Y hl fin finY _ 0 rfl (Nat.zero_le _) s h
 obtain ⟨hp,g,d,tk,os⟩:=s
 wp_walk
 exact ⟨plainId_quiet plain_contains_loop _,codeAny_builtin entry_contains_loop (by
  rw [Around.under_plainId plain_contains_loop _]
  exact hrec)⟩
theorem tuple_inG (l:Addr) (x:Value) (items:Array Value) (n:Nat) (dd:Option Addr) (sl:Array (Option Value)) (I:Nat→Shared→Prop) (Y:Shared→Prop)
  (turn:∀ i (h1:i < items.size) s,I i s→wpAny (model prog w) A.in1 (eqBool items[i] x) (fun r s'=>if r=true then Y s' else I (i+1) s') (fun e s'=>R (.error e) s') s)
  (fin:∀ s,I items.size s→R (.ok (.ret (.bool false))) s) (finY:∀ s,Y s→R (.ok (.ret (.bool true))) s)
  {s:Shared} (hl1:s.heap.get? l=some { cls:=.type "tuple",dict:=dd,data:=.seq items n,slots:=sl }) (h:I 0 s) :
  wpAny (model prog w) A.in1 (Builtin.«tuple.__contains__» ⟨[.ref l,x],[]⟩) (Ev4.FinOf prog w A R) (fun e s'=>R (.error e) s') s:=by
 have h0:=h
 obtain ⟨hp,g,d,tk,os⟩:=s
 wp_walk using wpAny_loadPart' hl1,wpAny_forIn_array _ (fun rest b s'=>b.1=none∧∃ i,rest=items.toList.drop i∧i≤items.size∧I i s') _
 case turn =>
  rintro y rest b s' ⟨hb',i,hz,hi,hI⟩
  have hlt:i < items.toList.length:=by
   rcases Nat.lt_or_ge i items.toList.length with h' | h'
   ·exact h'
   ·rw [List.drop_of_length_le h'] at hz; cases hz
  have h1:i < items.size:=by simpa using hlt
  rw [List.drop_eq_getElem_cons hlt] at hz
  injection hz with hyx hrest
  have hy:y=items[i]:=by simpa using hyx
  subst hy
  refine wpAny_bind (wpAny_mono (turn i h1 s' hI) (fun r s2 q2=>?_) fun _ _ x=>x)
  cases r with
  | false =>
   wp_walk
   exact ⟨rfl,i+1,hrest,h1,by simpa using q2⟩
  | true =>
   have q2:Y s2:=by simpa using q2
   have hR:=finY s2 q2
   wp_walk
   first
   | exact hR
   | exact ⟨_,rfl,hR⟩
 case fin =>
  rintro ⟨b1,b2⟩ s' ⟨hb',i,hz,hi,hI⟩
  simp only at hb'
  subst hb'
  have hge:items.size≤i:=by
   rcases Nat.lt_or_ge i items.toList.length with h' | h'
   ·rw [List.drop_eq_getElem_cons h'] at hz; cases hz
   ·simpa using h'
  have hi':i=items.size:=by omega
  have hR:=fin s' (hi'▸hI)
  wp_walk
  exact hR
 case h =>
  exact ⟨rfl,0,rfl,Nat.zero_le _,h0⟩
end
section
variable {prog:Program} {w:World} {A:Around} {E:Value→Shared→Prop} {s:Shared}
theorem in_list {neg:Bool} {l:Addr} {x:Value} {N:Nat} {Q:Value→Shared→Prop} (I:Nat→Shared→Prop) (Y:Shared→Prop) (hl:InI prog w A E l x N I Y)
  (fin:∀ s,I N s→Q (.bool (false != neg)) s) (finY:∀ s,Y s→Q (.bool (true != neg)) s) (h:I 0 s):wpAny (model prog w) A (compareOp (if neg then .NotIn else .In) x (.ref l)) Q E s:=by
 obtain ⟨items,n,hl1,_⟩:=hl.ls _ _ h
 have c:=list_inG (A:=A) (R:=wants (fun v s'=>∃ b,v = .bool b∧Q (.bool (b != neg)) s') E) l x N I Y hl (fun s' q=>⟨_,rfl,fin s' q⟩) (fun s' q=>⟨_,rfl,finY s' q⟩) h
 have k:=wpAny_contains_slot (M:=model prog w) (c:=.ref l) (x:=x) ⟨_,hl1,rfl⟩ F.slot_list_contains (wpAny_mono (Ev4.call_here F.slot_list_contains ⟨_,hl1,rfl⟩ F.entry_list_contains (F.args_list_contains_2 _ _) c) (fun v s' hv=>by
  obtain ⟨b,rfl,hq⟩:=hv
  exact wpAny_truthy_bool (Q:=fun b s'=>Q (.bool (b != neg)) s') hq) fun _ _ e=>e)
 cases neg with
 | false =>
  show wpAny _ A (do return .bool (← contains (.ref l) x)) Q E s
  exact wpAny_bind (wpAny_mono k (fun b s' q=>wpAny_pure (by simpa using q)) fun _ _ e=>e)
 | true =>
  show wpAny _ A (do return .bool (!(← contains (.ref l) x))) Q E s
  exact wpAny_bind (wpAny_mono k (fun b s' q=>wpAny_pure (by simpa using q)) fun _ _ e=>e)
theorem in_tuple {neg:Bool} {l:Addr} {x:Value} {items:Array Value} {Q:Value→Shared→Prop} (I:Nat→Shared→Prop) (Y:Shared→Prop) (hl:s.heap.IsTuple l items)
  (turn:∀ i (h1:i < items.size) s,I i s→wpAny (model prog w) A.in1 (eqBool items[i] x) (fun r s'=>if r=true then Y s' else I (i+1) s') E s)
  (fin:∀ s,I items.size s→Q (.bool (false != neg)) s) (finY:∀ s,Y s→Q (.bool (true != neg)) s) (h:I 0 s):wpAny (model prog w) A (compareOp (if neg then .NotIn else .In) x (.ref l)) Q E s:=by
 obtain ⟨⟨cls,dd,data,sl⟩,ho,hc,n,hd⟩:=id hl
 simp only at hc hd
 subst hc hd
 have c:=tuple_inG (prog:=prog) (w:=w) (A:=A) (R:=wants (fun v s'=>∃ b,v = .bool b∧Q (.bool (b != neg)) s') E) l x items n dd sl I Y turn (fun s' q=>⟨_,rfl,fin s' q⟩) (fun s' q=>⟨_,rfl,finY s' q⟩) ho h
 have k:=wpAny_contains_slot (M:=model prog w) (c:=.ref l) (x:=x) ⟨_,ho,rfl⟩ F.slot_tuple_contains (wpAny_mono (Ev4.call_here F.slot_tuple_contains ⟨_,ho,rfl⟩ F.entry_tuple_contains (F.args_tuple_contains_2 _ _) c) (fun v s' hv=>by
  obtain ⟨b,rfl,hq⟩:=hv
  exact wpAny_truthy_bool (Q:=fun b s'=>Q (.bool (b != neg)) s') hq) fun _ _ e=>e)
 cases neg with
 | false =>
  show wpAny _ A (do return .bool (← contains (.ref l) x)) Q E s
  exact wpAny_bind (wpAny_mono k (fun b s' q=>wpAny_pure (by simpa using q)) fun _ _ e=>e)
 | true =>
  show wpAny _ A (do return .bool (!(← contains (.ref l) x))) Q E s
  exact wpAny_bind (wpAny_mono k (fun b s' q=>wpAny_pure (by simpa using q)) fun _ _ e=>e)
end
end EvN
set_option maxRecDepth 100000
set_option maxHeartbeats 2000000
namespace Ev
open PySem PySem.Spec PyProof.Rows L2
def CmM:Cm→Nat
 | .lt=>7
 | .le=>8
 | .gt=>9
 | _=>10
def ordC:Cm→Bool
 | .lt | .le | .gt | .ge=>true
 | _=>false
section
variable {W:Wd} {X:Cx} {n:Nat} {C:Cl} {Wx:WX} {pins:List (Addr×Obj)} {σ:L2.St} {H:Hp} {s:Shared} {e:Em} {μ:Mu}
theorem sub_here (h:Hyp W X n C Wx):∃ m,SubU X m 7 X.A∧((∀ f ds μ,C.low f ds μ = .stuck)∨∃ k,k+34≤m∧FnPs W k C.hot C.rep C.low):=by
 have r:=h.room
 rcases h.low with hs | ⟨k,hk,hF⟩
 ·exact ⟨n,⟨rfl,rfl,by have:=r.dp; omega,by have:=r.un; omega,rfl⟩,.inl hs⟩
 ·exact ⟨k+34,⟨rfl,rfl,by have:=r.dp; omega,by have:=r.un; omega,rfl⟩,.inr ⟨k,Nat.le_refl _,hF⟩⟩
theorem sub_here8 (h:Hyp W X n C Wx):∃ m,SubU X m 8 X.A∧((∀ f ds μ,C.low f ds μ = .stuck)∨∃ k,k+34≤m∧FnPs W k C.hot C.rep C.low):=by
 have r:=h.room
 rcases h.low with hs | ⟨k,hk,hF⟩
 ·exact ⟨n,⟨rfl,rfl,by have:=r.dp; omega,by have:=r.un; omega,rfl⟩,.inl hs⟩
 ·exact ⟨k+34,⟨rfl,rfl,by have:=r.dp; omega,by have:=r.un; omega,rfl⟩,.inr ⟨k,Nat.le_refl _,hF⟩⟩
theorem of_eqD {K:Bool→Mu→Em→Hp→Prop} {E:XK} {x y:D} (q:Aft W e H (eqD C x y μ) K E):eqOk C μ 7 x y∧∀ b,(b=true↔x=y)→Aft W e H (.ok b μ) K E:=by
 unfold eqD at q
 split at q
 ·rename_i z
  refine ⟨z,fun b hb=>?_⟩
  have:b=@decide (x=y) (Classical.propDecidable _):=by
   rw [Bool.eq_iff_iff,hb]; simp
  rw [this]; exact q
 ·exact q.elim
theorem eqOk_nb {k:Nat} {x y:D} (ok:eqOk C μ (k+1) x y):nbD x=true∧nbD y=true:=by
 cases x <;> cases y <;> first
  | exact ⟨rfl,rfl⟩
  | exact absurd ok.1 (by simp [eqR,eqK])
  | (rcases ok with ⟨q,q2,_⟩ | ⟨i,j,q,q2,_⟩ <;> first | (cases q; done) | (cases q2; done))
theorem eqOk_mix {k:Nat} {x y:D} (f:flat x=true) (g:flat y=true) (ok:eqOk C μ (k+1) x y):mix x y=false:=by
 cases x <;> first | exact Bool.noConfusion f | skip
 all_goals cases y <;> first | exact Bool.noConfusion g | rfl | skip
 all_goals
  rcases ok with ⟨_,_,q⟩ | ⟨i,j,q,q2,_⟩
  ·exact q
  ·cases q
theorem eqNe (h:Hyp W X n C Wx) (ne:Bool) {dx dy:D} {x y:V} {u t:Value} {Q:VK} (I:Inv X pins σ H s) (st:St0 W e μ H) (hx:RepH W e H dx x) (hy:RepH W e H dy y) (rx:RelV x u) (ry:RelV y t)
  (q:Got W e H (resB ((eqD C dx dy μ).bind fun b m => .ok (b != ne) m)) Q (xkA Wx σ)):wpAny (model X.prog X.w) X.A (compareOp (Ev4.opN ne) u t) (EP X pins σ Q) X.xe s:=by
 have q1:=of_eqD (Aft.bind (Aft.bind q))
 obtain ⟨ok,fin⟩:=q1
 have done:∀ b,(b=true↔dx=dy)→∀ e' H',Ex e H e' H'→St0 W e' μ H'→Q (.bl (b != ne)) H':=by
  intro b hb e' H' x' st'
  have z:=fin b hb e' H' x' st'
  have z:=z e' H' (Ex.refl e' H') st'
  exact z e' H' (Ex.refl e' H') st' _ rfl
 obtain ⟨m,sb,hl⟩:=sub_here h
 obtain ⟨nx,ny⟩:=eqOk_nb ok
 have hx':Rep W e dx x:=RepH.of nx hx
 have hy':Rep W e dy y:=RepH.of ny hy
 obtain ⟨r1,r2⟩:=eq_run (pins:=pins) (σ:=σ) (μ:=μ) h hl 7 X.A s H e dx dy x y u t sb I st hx' hy' rx ry ok
 by_cases hr:flat dx=true∧flat dy=true
 ·have mx:mix dx dy=false:=eqOk_mix hr.1 hr.2 ok
  have sc:scal x y=true∧(decide (x=y)=true↔dx=dy):=by
   obtain ⟨f,g⟩:=hr
   have m:=mx
   cases dx with
   | non=>cases (show x = .non from hx'); cases dy with
    | non=>cases (show y = .non from hy'); simp [scal]
    | bl b=>cases (show y = .bl b from hy'); simp [scal]
    | int b=>cases (show y = .int b from hy'); simp [scal]
    | str b=>cases (show y = .str b from hy'); simp [scal]
    | _=>cases g
   | bl a=>cases (show x = .bl a from hx'); cases dy with
    | non=>cases (show y = .non from hy'); simp [scal]
    | bl b=>cases (show y = .bl b from hy'); simp [scal]
    | int b=>cases m
    | str b=>cases (show y = .str b from hy'); simp [scal]
    | _=>cases g
   | int a=>cases (show x = .int a from hx'); cases dy with
    | non=>cases (show y = .non from hy'); simp [scal]
    | bl b=>cases m
    | int b=>cases (show y = .int b from hy'); simp [scal]
    | str b=>cases (show y = .str b from hy'); simp [scal]
    | _=>cases g
   | str a=>cases (show x = .str a from hx'); cases dy with
    | non=>cases (show y = .non from hy'); simp [scal]
    | bl b=>cases (show y = .bl b from hy'); simp [scal]
    | int b=>cases (show y = .int b from hy'); simp [scal]
    | str b=>cases (show y = .str b from hy'); simp [scal]
    | _=>cases g
   | _=>cases f
  cases ne with
  | false=>exact op_eq pins s σ H x y u t Q I rx ry ⟨sc.1,by simpa using done (decide (x=y)) sc.2 e H (Ex.refl e H) st⟩
  | true=>exact op_ne pins s σ H x y u t Q I rx ry ⟨sc.1,by simpa using done (decide (x=y)) sc.2 e H (Ex.refl e H) st⟩
 ·have rc:=r2 hr ne
  have:compareOp (Ev4.opN ne) u t=richCompare (Ev4.opN ne) u t:=by cases ne <;> rfl
  rw [this]
  refine wpAny_mono rc (fun r s' z=>?_) fun _ _ z=>z
  obtain ⟨b,rfl,hb,e',H',I',x',st'⟩:=z
  exact ⟨.bl (b != ne),H',I',rfl,done b hb e' H' x' st'⟩
theorem eqNeL (h:Hyp W X n C Wx) (ne:Bool) {o:Nat} {ys:List D} {x y:V} {u t:Value} {Q:VK} (I:Inv X pins σ H s) (st:St0 W e μ H) (hx:RepH W e H (.obj o) x) (hy:RepH W e H (.lst ys) y) (rx:RelV x u) (ry:RelV y t)
  (q:Got W e H (resB ((eqL C o ys μ).bind fun b m => .ok (b != ne) m)) Q (xkA Wx σ)):wpAny (model X.prog X.w) X.A (compareOp (Ev4.opN ne) u t) (EP X pins σ Q) X.xe s:=by
 have q0:=Aft.bind (Aft.bind q)
 unfold eqL at q0
 cases hm:μ[o]? with
 | none=>rw [hm] at q0; exact q0.elim
 | some so =>
  rw [hm] at q0
  cases so with
  | ins _ _=>exact q0.elim
  | dct _=>exact q0.elim
  | exn _ _=>exact q0.elim
  | lst xs =>
   dsimp only at q0
   split at q0
   ·rename_i ok
    have ok:∀ (i:Nat) (a b:D),xs[i]?=some a→ys[i]?=some b→eqOk C μ 6 a b:=ok
    have done:∀ b,(b=true↔xs=ys)→∀ e' H',Ex e H e' H'→St0 W e' μ H'→Q (.bl (b != ne)) H':=by
     intro b hb e' H' x' st'
     have eb:∀ i:Decidable (xs=ys),@decide (xs=ys) i=b:=fun i=>by
      rw [Bool.eq_iff_iff,hb]; simp
     have q2:=q0
     simp only [eb] at q2
     have z:=q2 e' H' x' st'
     have z:=z e' H' (Ex.refl e' H') st'
     exact z e' H' (Ex.refl e' H') st' _ rfl
    obtain ⟨m,sb,hl⟩:=sub_here h
    obtain ⟨a,rfl,hra⟩:=hx
    obtain ⟨b,ws,rfl,g1,g2⟩:=hy
    cases rx
    cases ry
    have ih':∀ (A:Around) (s:Shared) (H:Hp) (e:Em) (x y:D) (v w:V) (u t:Value),SubU X m 6 A→Inv X pins σ H s→St0 W e μ H→Rep W e x v→Rep W e y w→RelV v u→RelV w t→eqOk C μ 6 x y →
      wpAny (model X.prog X.w) A (eqBool u t) (fun r s'=>(r=true↔x=y)∧Back X pins σ W e H μ s') X.xe s:=fun A s H e x y v w u t a b c d f g i j=>(eq_run h hl 6 A s H e x y v w u t a b c d f g i j).1
    have cell:∀ {e1:Em} {H1:Hp} {s1:Shared},Inv X pins σ H1 s1→Ex e H e1 H1→St0 W e1 μ H1→∃ (vs:List V) (its:List Value) (k:Nat),RepL W e1 xs vs∧s1.heap.get? a=some { cls:=.type "list",data:=.seq its.toArray k }∧Vals vs its:=by
     intro e1 H1 s1 I1 x1 st1
     obtain ⟨a',ha',vs,j1,j2⟩:=st1.cell o _ hm
     rw [x1.r _ _ hra] at ha'
     cases ha'
     obtain ⟨z,its,k,r,g⟩:=(show Rd H1 a (.lst vs) from .inl j1).ok I1.hok
     exact ⟨vs,its,k,j2,g,r⟩
    have rc:wpAny (model X.prog X.w) X.A (richCompare (Ev4.opN ne) (.ref a) (.ref b)) (fun r s'=>∃ b,r = .bool (b != ne)∧(b=true↔xs=ys)∧Back X pins σ W e H μ s') X.xe s:=by
     by_cases hlen:xs.length=ys.length
     ·have here:∀ s',Back X pins σ W e H μ s'→∃ (its its2:List Value) (n1 n2:Nat),s'.heap.get? a=some { cls:=.type "list",data:=.seq its.toArray n1 }∧s'.heap.get? b=some { cls:=.type "list",data:=.seq its2.toArray n2 }∧its.length=xs.length∧its2.length=xs.length:=by
       rintro s' ⟨e1,H1,I1,x1,st1⟩
       obtain ⟨vs,its,n1,j1,q1,r1⟩:=cell I1 x1 st1
       obtain ⟨its2,n2,q2,r2,_⟩:=sq_exact h I1 st1 (g1.mono x1.g)
       exact ⟨its,its2,n1,n2,q1,q2,by rw [← r1.length,j1.length],by rw [← r2.length,g2.length,hlen]⟩
      refine Ev4.rc_list (ne:=ne) (N:=xs.length) sb.hu0 (fun i s'=>Back X pins σ W e H μ s'∧∀ j,j < i→xs[j]?=ys[j]?) (fun s'=>Back X pins σ W e H μ s'∧xs≠ys) ⟨fun i s' q=>?_,fun s' q=>?_,fun i s' items items2 n1 n2 q p1 p2 k1 k2=>?_⟩ (fun s' q=>?_) (fun s' q=>?_) ⟨⟨e,H,I,Ex.refl e H,st⟩,fun j hj=>absurd hj (Nat.not_lt_zero j)⟩
      ·obtain ⟨its,its2,n1,n2,q1,q2,l1,l2⟩:=here s' q.1
       exact ⟨_,_,n1,n2,q1,q2,by simp [l1],by simp [l2]⟩
      ·obtain ⟨its,its2,n1,n2,q1,q2,l1,l2⟩:=here s' q.1
       exact ⟨_,_,n1,n2,q1,q2,by simp [l1],by simp [l2]⟩
      ·obtain ⟨⟨e1,H1,I1,x1,st1⟩,q3⟩:=q
       obtain ⟨vs,its,n3,j1,q1,r1⟩:=cell I1 x1 st1
       obtain ⟨its2,n4,q2,r2,_⟩:=sq_exact h I1 st1 (g1.mono x1.g)
       rw [q1] at p1; rw [q2] at p2
       cases p1; cases p2
       have g2':RepL W e1 ys ws:=g2.ex x1
       refine wpAny_mono (item_turn (i:=i) (Ex.refl e1 H1) ih' ok sb.in1 I1 (Ex.refl e1 H1) st1 j1 g2' r1 r2 (by simp at k1; simp [k1]) (by simp at k2; simp [k2])) (fun r s2 z=>?_) fun _ _ z=>z
       cases r with
       | true=>exact ⟨z.2.trans x1,fun j hj=>(Nat.lt_succ_iff_lt_or_eq.mp hj).elim (q3 j) fun hj=>by rw [hj]; exact z.1.mp rfl⟩
       | false =>
        refine ⟨?_,z.2.trans x1,fun hh=>absurd (z.1.mpr (by rw [hh])) (by simp)⟩
        have:its.length=xs.length:=by rw [← r1.length,j1.length]
        simp at k1; omega
      ·refine ⟨true,by simp,?_,q.1⟩
       refine ⟨fun _=>?_,fun _=>rfl⟩
       apply List.ext_getElem?
       intro j
       by_cases hj:j < xs.length
       ·exact q.2 j hj
       ·rw [List.getElem?_eq_none (by omega),List.getElem?_eq_none (by omega)]
      ·exact ⟨false,by simp,by simp [q.2],q.1⟩
     ·obtain ⟨vs,its,n1,j1,q1,r1⟩:=cell I (Ex.refl e H) st
      obtain ⟨its2,n2,q2,r2,_⟩:=sq_exact h I st g1
      refine Ev4.rc_listL (ne:=ne) sb.hu0 q1 q2 (by simp; rw [← r1.length,← r2.length,j1.length,g2.length]; exact hlen) ?_
      refine ⟨false,by simp,?_,e,H,I,Ex.refl e H,st⟩
      simp
      intro hh; exact hlen (by rw [hh])
    have:compareOp (Ev4.opN ne) (.ref a) (.ref b)=richCompare (Ev4.opN ne) (.ref a) (.ref b):=by cases ne <;> rfl
    rw [this]
    refine wpAny_mono rc (fun r s' z=>?_) fun _ _ z=>z
    obtain ⟨b,rfl,hb,e',H',I',x',st'⟩:=z
    exact ⟨.bl (b != ne),H',I',rfl,done b hb e' H' x' st'⟩
   ·exact q0.elim
theorem cm_inst (h:Hyp W X n C Wx) (k:Cm) (hk:ordC k=true) {c:Nat} {xs ys:List D} {v w:V} {u t:Value} {Q:VK} (I:Inv X pins σ H s) (st:St0 W e μ H) (hx:Rep W e (.ins c xs) v) (hy:Rep W e (.ins c ys) w) (rv:RelV v u) (rw_:RelV w t)
  (q:Got W e H (dcall C (CmM k) (.ins c xs) [.ins c ys] μ) Q (xkA Wx σ)):wpAny (model X.prog X.w) X.A (compareOp (opC k) u t) (EP X pins σ Q) X.xe s:=by
 obtain ⟨c',a,dx,gs,i,fa,rfl,rfl,hH,hcx,hi,cf,M,_,run⟩:=dcall_ok h I st hx (.cons hy .nil) rv (.cons rw_ .nil) q
 cases hcx
 obtain ⟨m,od,F,KX,J⟩:=inst_rule I hH
 obtain ⟨b,dy,gs',i',rfl,hH',_⟩:=inst_at st hy rfl
 cases rw_
 obtain ⟨m',od',F',KX',J'⟩:=inst_rule I hH'
 have ec:compareOp (opC k) (.ref a) (.ref b)=richCompare (opC k) (.ref a) (.ref b):=by cases k <;> first | rfl | cases hk
 have ed:an W.T (CmM k)=(cmpInfo (opC k)).2.1:=by cases k <;> first | exact h.txt.dun _ _ rfl | cases hk
 rw [ec]
 refine PySem.W.cmp_K (op:=opC k) (tb:=.ref (W.ca c)) (by have:=h.room.un; omega) F KX J J'.type (by simp [PySem.W.notFirst]) (by rw [← ed]; exact M.at_) M.fn ?_
 refine wpAny_mono run (fun r s' z=>?_) fun _ _ z=>z
 obtain ⟨v',H',I',r',q'⟩:=z
 have fin:EP X pins σ Q r s':=⟨v',H',I',r',q'⟩
 cases v' with
 | non=>cases r'; exact fin
 | bl b=>cases r'; exact fin
 | int i=>obtain ⟨t,rfl⟩:=r'; exact fin
 | str i=>obtain ⟨t,rfl⟩:=r'; exact fin
 | byt i=>obtain ⟨t,rfl⟩:=r'; exact fin
 | flt i=>obtain ⟨t,rfl⟩:=r'; exact fin
 | ref a=>cases r'; exact fin
 | ty a=>cases r'; exact fin
theorem non_iff {dx:D} {x:V} (hx:RepH W e H dx x):decide (x = .non)=isNon dx:=by
 cases dx with
 | non=>cases (show x = .non from hx); rfl
 | bl a=>cases (show x = .bl a from hx); rfl
 | int a=>cases (show x = .int a from hx); rfl
 | str a=>cases (show x = .str a from hx); rfl
 | tup a=>obtain ⟨_,_,rfl,_⟩:=hx; rfl
 | lst a=>obtain ⟨_,_,rfl,_⟩:=hx; rfl
 | ins c a=>obtain ⟨_,_,_,_,_,rfl,_⟩:=hx; rfl
 | obj a=>obtain ⟨_,rfl,_⟩:=hx; rfl
 | bor _ _=>obtain ⟨_,_,rfl,_⟩:=hx; rfl
 | opq=>obtain ⟨_,rfl⟩:=hx; rfl
theorem dct_at (st:St0 W e μ H) {o:Nat} {a:Addr} {kvs:List (Str×Ev.D)} (g:e.r o=some a) (hd:dctAt μ o=some kvs):∃ ks,H a=some (.dK ks)∧RepD W e kvs ks:=by
 unfold dctAt at hd
 cases q:μ[o]? with
 | none=>rw [q] at hd; cases hd
 | some so =>
  rw [q] at hd
  cases so with
  | lst _=>cases hd
  | ins _ _=>cases hd
  | exn _ _=>cases hd
  | dct k2 =>
   cases hd
   obtain ⟨b,hb,hr⟩:=st.cell o _ q
   rw [g] at hb; cases hb
   exact hr
theorem cell_obj (st:St0 W e μ H) {o:Nat} {a:Addr} (g:e.r o=some a) (hd:isDct μ o=false):∃ ob,H a=some ob∧isObj ob=true:=by
 obtain ⟨b,hb,hr⟩:=st.cell o (μ[o]'(st.rn g)) (by rw [List.getElem?_eq_getElem (st.rn g)])
 rw [g] at hb; cases hb
 cases q:μ[o]'(st.rn g) with
 | lst zs=>rw [q] at hr; obtain ⟨us,k1,_⟩:=hr; exact ⟨_,k1,rfl⟩
 | ins c zs=>rw [q] at hr; obtain ⟨dx,gs,i,k1,_⟩:=hr; exact ⟨_,k1,rfl⟩
 | dct kvs=>exfalso; unfold isDct at hd; rw [List.getElem?_eq_getElem (st.rn g),q] at hd; cases hd
 | exn _ _=>exfalso; unfold isDct at hd; rw [List.getElem?_eq_getElem (st.rn g),q] at hd; cases hd
theorem evIn_cases {x:D}:∀ (ys:List D),evIn C x ys μ = .stuck∨∃ b,evIn C x ys μ = .ok b μ ∧
  ((b=true∧∃ (i:Nat),ys[i]?=some x∧(∀ (j:Nat) (y':D),j≤i→ys[j]?=some y'→eqOk C μ 7 y' x)∧∀ (j:Nat) (y':D),j < i→ys[j]?=some y'→y'≠x)∨(b=false∧(∀ (j:Nat) (y':D),ys[j]?=some y'→eqOk C μ 7 y' x)∧∀ (j:Nat) (y':D),ys[j]?=some y'→y'≠x))
 | [] => .inr ⟨false,rfl,.inr ⟨rfl,fun j y' z=>by simp at z,fun j y' z=>by simp at z⟩⟩
 | y::ys=>by
  have e:evIn C x (y::ys) μ=(eqD C y x μ).bind fun b m=>if b then .ok true m else evIn C x ys m:=rfl
  by_cases ok:eqOk C μ 7 y x
  ·by_cases hyx:y=x
   ·have z:eqD C y x μ = .ok true μ:=by unfold eqD; rw [if_pos ok]; simp [hyx]
    refine .inr ⟨true,by rw [e,z]; rfl,.inl ⟨rfl,0,by simp [hyx],fun j y' hj hy'=>?_,fun j y' hj=>absurd hj (by omega)⟩⟩
    have hj0:j=0:=by omega
    subst hj0
    simp at hy'; subst hy'; exact ok
   ·have z:eqD C y x μ = .ok false μ:=by unfold eqD; rw [if_pos ok]; simp [hyx]
    have e2:evIn C x (y::ys) μ=evIn C x ys μ:=by rw [e,z]; rfl
    rcases evIn_cases ys with hs | ⟨b,hb,hq⟩
    ·exact .inl (by rw [e2,hs])
    ·refine .inr ⟨b,by rw [e2,hb],?_⟩
     rcases hq with ⟨rfl,i,h1,h2,h3⟩ | ⟨rfl,h2,h3⟩
     ·refine .inl ⟨rfl,i+1,by simpa using h1,fun j y' hj hy'=>?_,fun j y' hj hy'=>?_⟩
      ·cases j with
       | zero=>simp at hy'; subst hy'; exact ok
       | succ j=>exact h2 j y' (by omega) (by simpa using hy')
      ·cases j with
       | zero=>simp at hy'; subst hy'; exact hyx
       | succ j=>exact h3 j y' (by omega) (by simpa using hy')
     ·refine .inr ⟨rfl,fun j y' hy'=>?_,fun j y' hy'=>?_⟩
      ·cases j with
       | zero=>simp at hy'; subst hy'; exact ok
       | succ j=>exact h2 j y' (by simpa using hy')
      ·cases j with
       | zero=>simp at hy'; subst hy'; exact hyx
       | succ j=>exact h3 j y' (by simpa using hy')
  ·refine .inl ?_
   rw [e]
   unfold eqD
   rw [if_neg ok]; rfl
theorem in_ok (h:Hyp W X n C Wx) (neg:Bool) {dx dy:D} {x y:V} {u t:Value} {Q:VK} (I:Inv X pins σ H s) (st:St0 W e μ H) (hx:RepH W e H dx x) (hy:RepH W e H dy y) (rx:RelV x u) (ry:RelV y t)
  (q:Got W e H (resB ((evInD C dx dy μ).bind fun b m => .ok (b != neg) m)) Q (xkA Wx σ)):wpAny (model X.prog X.w) X.A (compareOp (if neg then .NotIn else .In) u t) (EP X pins σ Q) X.xe s:=by
 obtain ⟨mL,sb,hl⟩:=sub_here8 h
 have seq:∀ (ys:List D),evInD C dx dy μ=evIn C dx ys μ→((∃ a vs,y = .ref a∧RepL W e ys vs∧∀ e' H' s',Ex e H e' H'→Inv X pins σ H' s'→St0 W e' μ H'→∃ its m,s'.heap.get? a=some { cls:=.type "list",data:=.seq its.toArray m }∧Vals vs its) ∨
   ∃ a vs,y = .ref a∧RepL W e ys vs∧SqT X.K H a vs)→wpAny (model X.prog X.w) X.A (compareOp (if neg then .NotIn else .In) u t) (EP X pins σ Q) X.xe s:=by
  intro ys he hcase
  rw [he] at q
  rcases evIn_cases (C:=C) (μ:=μ) (x:=dx) ys with hs | ⟨b,hb,hspec⟩
  ·rw [hs] at q; exact q.elim
  rw [hb] at q
  have done:∀ e' H',Ex e H e' H'→St0 W e' μ H'→Q (.bl (b != neg)) H':=fun e' H' x' st'=>q e' H' x' st' _ rfl
  have nbx:nbD dx=true∨ys=[]:=by
   cases ys with
   | nil=>exact .inr rfl
   | cons y0 ys =>
    left
    rcases hspec with ⟨_,i,_,h2,_⟩ | ⟨_,h2,_⟩
    ·exact (eqOk_nb (h2 0 y0 (by omega) rfl)).2
    ·exact (eqOk_nb (h2 0 y0 rfl)).2
  have turn:∀ (vs:List V) (its:List Value) (i:Nat) (u1:Value) (e1:Em) (H1:Hp) (s1:Shared),RepL W e ys vs→Vals vs its→its[i]?=some u1→Inv X pins σ H1 s1→Ex e H e1 H1→St0 W e1 μ H1→(∀ (j:Nat) (y':D),j < i→ys[j]?=some y'→y'≠dx) →
    wpAny (model X.prog X.w) X.A.in1 (eqBool u1 u) (fun r s'=>Back X pins σ W e H μ s'∧(if r=true then b=true else ∀ (j:Nat) (y':D),j < i+1→ys[j]?=some y'→y'≠dx)) X.xe s1:=by
   intro vs its i u1 e1 H1 s1 rv ri hi I1 x1 st1 hno
   have k1:i < vs.length:=by rw [ri.length]; exact (List.getElem?_eq_some_iff.mp hi).1
   obtain ⟨u',hu,ru⟩:=ri.get (List.getElem?_eq_getElem k1)
   rw [hi] at hu; cases hu
   obtain ⟨a,ha,ra⟩:=rv.getV (List.getElem?_eq_getElem k1)
   have hx':Rep W e dx x:=by
    rcases nbx with z | z
    ·exact RepH.of z hx
    ·rw [z] at ha; simp at ha
   have ok:eqOk C μ 7 a dx:=by
    rcases hspec with ⟨_,k,hk,h2,_⟩ | ⟨_,h2,_⟩
    ·by_cases hik:i≤k
     ·exact h2 i a hik ha
     ·exact absurd rfl (hno k dx (by omega) hk)
    ·exact h2 i a ha
   refine wpAny_mono ((eq_run (pins:=pins) (σ:=σ) (μ:=μ) h hl 7 X.A.in1 s1 H1 e1 a dx _ x u1 u sb.in1 I1 st1 (ra.ex x1) (hx'.ex x1) ru rx ok).1) (fun r s' z=>?_) fun _ _ z=>z
   refine ⟨z.2.trans x1,?_⟩
   cases r with
   | true =>
    have hax:=z.1.mp rfl
    subst hax
    rcases hspec with ⟨hb,_⟩ | ⟨_,_,h3⟩
    ·simpa using hb
    ·exact absurd rfl (h3 i _ ha)
   | false =>
    have hax:a≠dx:=fun w=>by have:=z.1.mpr w; cases this
    simp only [Bool.false_eq_true,if_false]
    intro j y' hj hy'
    by_cases hji:j=i
    ·subst hji; rw [ha] at hy'; cases hy'; exact hax
    ·exact hno j y' (by omega) hy'
  have finN:∀ s',Back X pins σ W e H μ s'→(∀ (j:Nat) (y':D),j < ys.length→ys[j]?=some y'→y'≠dx)→EP X pins σ Q (.bool (false != neg)) s':=by
   rintro s' ⟨e1,H1,I1,x1,st1⟩ hno
   have hb:b=false:=by
    rcases hspec with ⟨_,i,hi,_⟩ | ⟨hb,_⟩
    ·exact absurd rfl (hno i dx (List.getElem?_eq_some_iff.mp hi).1 hi)
    ·exact hb
   have z:=done e1 H1 x1 st1
   rw [hb] at z
   exact ⟨.bl (false != neg),H1,I1,rfl,z⟩
  have finY:∀ s',Back X pins σ W e H μ s'→b=true→EP X pins σ Q (.bool (true != neg)) s':=by
   rintro s' ⟨e1,H1,I1,x1,st1⟩ hb
   have z:=done e1 H1 x1 st1
   rw [hb] at z
   exact ⟨.bl (true != neg),H1,I1,rfl,z⟩
  rcases hcase with ⟨a,vs,rfl,rv,look⟩ | ⟨a,vs,rfl,rv,sq⟩
  ·cases ry
   have hlen:vs.length=ys.length:=rv.length
   refine EvN.in_list (neg:=neg) (N:=ys.length) (fun i s'=>Back X pins σ W e H μ s'∧∀ (j:Nat) (y':D),j < i→ys[j]?=some y'→y'≠dx) (fun s'=>Back X pins σ W e H μ s'∧b=true) ⟨fun i s' z=>?_,fun i s' items m z hg h1=>?_⟩ (fun s' z=>finN s' z.1 z.2) (fun s' z=>finY s' z.1 z.2) ⟨⟨e,H,I,Ex.refl e H,st⟩,fun j y' hj=>absurd hj (by omega)⟩
   ·obtain ⟨⟨e1,H1,I1,x1,st1⟩,_⟩:=z
    obtain ⟨its,m,g1,g2⟩:=look e1 H1 s' x1 I1 st1
    exact ⟨_,m,g1,by simp [← g2.length,hlen]⟩
   ·obtain ⟨⟨e1,H1,I1,x1,st1⟩,hno⟩:=z
    obtain ⟨its,m',g1,g2⟩:=look e1 H1 s' x1 I1 st1
    rw [g1] at hg
    cases hg
    refine wpAny_mono (turn vs its i _ e1 H1 s' rv g2 (by simp at h1; simp [h1]) I1 x1 st1 hno) (fun r s2 z2=>?_) fun _ _ z=>z
    cases r with
    | true=>exact ⟨z2.1,by simpa using z2.2⟩
    | false=>exact ⟨z2.1,by simpa using z2.2⟩
  ·cases ry
   obtain ⟨its,r1,t1,z1⟩:=I.tuple sq
   have hlen:its.length=ys.length:=by rw [← r1.length,rv.length]
   refine EvN.in_tuple (neg:=neg) (items:=its.toArray) (fun i s'=>Back X pins σ W e H μ s'∧∀ (j:Nat) (y':D),j < i→ys[j]?=some y'→y'≠dx) (fun s'=>Back X pins σ W e H μ s'∧b=true) t1 (fun i h1 s' z=>?_) (fun s' z=>finN s' z.1 (by have:=z.2; simpa [hlen] using this)) (fun s' z=>finY s' z.1 z.2) ⟨⟨e,H,I,Ex.refl e H,st⟩,fun j y' hj=>absurd hj (by omega)⟩
   obtain ⟨⟨e1,H1,I1,x1,st1⟩,hno⟩:=z
   refine wpAny_mono (turn vs its i _ e1 H1 s' rv r1 (by simp at h1; simp [h1]) I1 x1 st1 hno) (fun r s2 z2=>?_) fun _ _ z=>z
   cases r with
   | true=>exact ⟨z2.1,by simpa using z2.2⟩
   | false=>exact ⟨z2.1,by simpa using z2.2⟩
 cases dy with
 | str tx =>
  have q:Got W e H (resB ((inStr tx dx μ).bind fun b m => .ok (b != neg) m)) Q (xkA Wx σ):=q
  cases (show y = .str tx from hy)
  cases dx with
  | str sx =>
   cases (show x = .str sx from hx)
   have q:Got W e H (resB ((match sgnIn sx tx with | some b=>Res.ok b μ | none => .stuck).bind fun b m => .ok (b != neg) m)) Q (xkA Wx σ):=q
   cases hsg:sgnIn sx tx with
   | none=>rw [hsg] at q; exact q.elim
   | some b =>
    rw [hsg] at q
    have hl:∃ c:Nat,sx=⟨#[c]⟩∧b=decide (c∈tx.cps.toList):=by
     obtain ⟨⟨l⟩⟩:=sx
     unfold sgnIn at hsg
     match l,hsg with
     | [c],hsg=>exact ⟨c,rfl,(Option.some.inj hsg).symm⟩
    obtain ⟨c,rfl,rfl⟩:=hl
    cases neg with
    | false=>exact op_in_sign pins s σ H _ _ u t Q I rx ry ⟨c,tx,rfl,rfl,by simpa using q.val st rfl⟩
    | true=>exact op_notIn_sign pins s σ H _ _ u t Q I rx ry ⟨c,tx,rfl,rfl,by simpa using q.val st rfl⟩
  | _=>exact q.elim
 | obj o =>
  have q:Got W e H (resB ((match dctAt μ o with | some kvs=>inDct kvs dx μ | none=>(if nbD dx then (dcall C 15 (.obj o) [dx] μ).bind fun r m=>(match r with
    | .bl b => .ok b m
    | _ => .stuck) else .stuck)).bind fun b m => .ok (b != neg) m)) Q (xkA Wx σ):=q
  cases hdd:dctAt μ o with
  | some kvs =>
   rw [hdd] at q
   cases dx with
   | str sx =>
    cases (show x = .str sx from hx)
    obtain ⟨a,rfl,ha⟩:∃ a,y = .ref a∧e.r o=some a:=hy
    cases ry
    obtain ⟨ks,hks,hrd⟩:=dct_at st ha hdd
    have g:DGet H a (.str sx) (L2.valV ks (.inr sx)):=DGet.k (k:=.inr sx) hks
    have q:Got W e H (resB ((Res.ok (dGet kvs sx).isSome μ).bind fun b m => .ok (b != neg) m)) Q (xkA Wx σ):=q
    have hs:(L2.valV ks (.inr sx:L2.Key)).isSome=(dGet kvs sx).isSome:=by
     cases hg:dGet kvs sx with
     | none=>rw [hrd.none hg]; rfl
     | some d=>obtain ⟨v,g1,_⟩:=hrd.get hg; rw [g1]; rfl
    have hu:X.A.units+1 < cLine:=by have:=h.room.un; omega
    cases neg with
    | false=>exact d_in hu I g rx fun s' I'=>⟨.bl _,H,I',rfl,by rw [hs]; simpa using q.val st rfl⟩
    | true=>exact d_notIn hu I g rx fun s' I'=>⟨.bl _,H,I',rfl,by rw [hs]; simpa using q.val st rfl⟩
   | _=>exact q.elim
  | none =>
   rw [hdd] at q
   have q:Got W e H (resB ((if nbD dx then (dcall C 15 (.obj o) [dx] μ).bind fun r m=>(match r with
    | .bl b => .ok b m
    | _ => .stuck) else .stuck).bind fun b m => .ok (b != neg) m)) Q (xkA Wx σ):=q
   have nbx:nbD dx=true:=by
    cases z:nbD dx with
    | true=>rfl
    | false=>rw [z] at q; exact q.elim
   rw [if_pos nbx] at q
   have hx':Rep W e dx x:=RepH.of nbx hx
   have hy:Rep W e (.obj o) y:=hy
   have q1:Got W e H (dcall C 15 (.obj o) [dx] μ) (fun v H'=>∃ b,v = .bl b∧Q (.bl (b != neg)) H') (xkA Wx σ):=by
    refine Aft.imp (Aft.bind (Aft.bind (Aft.bind q))) fun d m e' H' x' st' z v hv=>?_
    cases d with
    | bl b=>exact ⟨b,hv,by have z:=Aft.now z st'; have z:=Aft.now z st'; have z:=Aft.now z st'; exact z _ rfl⟩
    | _=>exact z.elim
   obtain ⟨c',a,dx',gs,i,fa,rfl,rfl,hH,hcx,hi,cf,M,_,run⟩:=dcall_ok h I st hy (.cons hx' .nil) ry (.cons rx .nil) q1
   obtain ⟨m,od,F,KX,J⟩:=inst_rule I hH
   have hM:Meth X.K (W.ca c') "__contains__" fa:=by rw [← h.txt.dun 15 "__contains__" rfl]; exact M
   have run2:wpAny (model X.prog X.w) X.A (call (.ref fa) [.ref a,u]) (fun r s'=>wpAny (model X.prog X.w) X.A (truthy r) (fun b s'=>EP X pins σ Q (.bool (b != neg)) s') X.xe s') X.xe s:=by
    refine wpAny_mono run (fun r s' z=>?_) fun _ _ z=>z
    obtain ⟨v',H',I',r',b,rfl,q'⟩:=z
    cases r'
    exact wpAny_truthy_bool ⟨.bl (b != neg),H',I',rfl,q'⟩
   cases neg with
   | false=>exact PySem.W.in_K F KX J hM.at_ hM.fn (by simpa using run2)
   | true=>exact PySem.W.notIn_K F KX J hM.at_ hM.fn (by simpa using run2)
 | lst ys =>
  refine seq ys rfl (.inl ?_)
  obtain ⟨a,vs,rfl,h1,h2⟩:=hy
  refine ⟨a,vs,rfl,h2,fun e' H' s' x' I' st'=>?_⟩
  obtain ⟨its,m,q1,r1,_⟩:=sq_exact h I' st' (h1.mono x'.g)
  exact ⟨its,m,q1,r1⟩
 | bor k ys =>
  refine seq ys rfl (.inl ?_)
  obtain ⟨a,vs,rfl,h1,h2,h3⟩:=hy
  refine ⟨a,vs,rfl,h2,fun e' H' s' x' I' st'=>?_⟩
  obtain ⟨_,its,m,r1,q1⟩:=I'.hok a _ (x'.keep a _ h1 h3)
  exact ⟨its,m,q1,r1⟩
 | tup ys =>
  refine seq ys rfl (.inr ?_)
  obtain ⟨a,vs,rfl,h1,h2⟩:=hy
  exact ⟨a,vs,rfl,h2,by rw [h.K]; exact sqT_sub h1 st.sub⟩
 | _=>exact q.elim
theorem cm_ok (h:Hyp W X n C Wx) (k:Cm) {dx dy:D} {x y:V} {u t:Value} {Q:VK} (I:Inv X pins σ H s) (st:St0 W e μ H) (hx:RepH W e H dx x) (hy:RepH W e H dy y) (rx:RelV x u) (ry:RelV y t)
  (q:Got W e H (evCm C k dx dy μ) Q (xkA Wx σ)):wpAny (model X.prog X.w) X.A (compareOp (opC k) u t) (EP X pins σ Q) X.xe s:=by
 have inst:∀ {c c':Nat} {xs ys:List D},ordC k=true→dx = .ins c xs→dy = .ins c' ys→Got W e H (if c'=c then dcall C (CmM k) (.ins c xs) [.ins c' ys] μ else .stuck) Q (xkA Wx σ)→wpAny (model X.prog X.w) X.A (compareOp (opC k) u t) (EP X pins σ Q) X.xe s:=by
  rintro c c' xs ys hk rfl rfl q
  by_cases z:c'=c
  ·subst z
   rw [if_pos rfl] at q
   exact cm_inst h k hk I st hx hy rx ry q
  ·rw [if_neg z] at q; exact q.elim
 cases k with
 | eq=>exact eqNe h false I st hx hy rx ry (by
   have q:Got W e H (resB (eqD C dx dy μ)) Q (xkA Wx σ):=q
   have:(eqD C dx dy μ).bind (fun b m=>Res.ok (b != false) m)=eqD C dx dy μ:=by
    cases eqD C dx dy μ <;> simp [Res.bind]
   rw [this]; exact q)
 | ne=>exact eqNe h true I st hx hy rx ry (by
   have q:Got W e H (resB ((eqD C dx dy μ).bind fun b m => .ok (!b) m)) Q (xkA Wx σ):=q
   have:(eqD C dx dy μ).bind (fun b m=>Res.ok (b != true) m)=(eqD C dx dy μ).bind fun b m => .ok (!b) m:=by
    cases eqD C dx dy μ <;> simp [Res.bind]
   rw [this]; exact q)
 | eqL =>
  cases dx with
  | obj o =>
   cases dy with
   | lst ys =>
    refine eqNeL h false I st hx hy rx ry ?_
    have q:Got W e H (resB (eqL C o ys μ)) Q (xkA Wx σ):=q
    have:(eqL C o ys μ).bind (fun b m=>Res.ok (b != false) m)=eqL C o ys μ:=by
     cases eqL C o ys μ <;> simp [Res.bind]
    rw [this]; exact q
   | _=>exact q.elim
  | _=>exact q.elim
 | neL =>
  cases dx with
  | obj o =>
   cases dy with
   | lst ys =>
    refine eqNeL h true I st hx hy rx ry ?_
    have q:Got W e H (resB ((eqL C o ys μ).bind fun b m => .ok (!b) m)) Q (xkA Wx σ):=q
    have:(eqL C o ys μ).bind (fun b m=>Res.ok (b != true) m)=(eqL C o ys μ).bind fun b m => .ok (!b) m:=by
     cases eqL C o ys μ <;> simp [Res.bind]
    rw [this]; exact q
   | _=>exact q.elim
  | _=>exact q.elim
 | isd =>
  cases dy with
  | non =>
   refine op_isN pins s σ H x y u t Q I rx ry ⟨hy,?_⟩
   rw [non_iff hx]
   exact Got.val (d:=.bl (isNon dx)) (v:=.bl (isNon dx)) (by cases dx <;> exact q) st rfl
  | bl b =>
   cases dx with
   | bl a =>
    cases (show x = .bl a from hx)
    cases (show y = .bl b from hy)
    cases rx; cases ry
    exact EvB.is_bool ⟨.bl (decide (a=b)),H,I,rfl,Got.val (d:=.bl (decide (a=b))) q st rfl⟩
   | _=>exact q.elim
  | obj b =>
   cases dx with
   | obj a =>
    obtain ⟨p,rfl,hp⟩:=hx
    obtain ⟨r,rfl,hr⟩:=hy
    have q:Got W e H (if isDct μ a || isDct μ b then .stuck else .ok (.bl (decide (a=b))) μ) Q (xkA Wx σ):=q
    split at q
    ·exact q.elim
    rename_i hz
    rw [Bool.or_eq_true,not_or] at hz
    obtain ⟨oa,h1,h2⟩:=cell_obj st hp (by simpa using hz.1)
    obtain ⟨ob,h3,h4⟩:=cell_obj st hr (by simpa using hz.2)
    refine op_is_ref pins s σ H _ _ u t Q I rx ry ⟨p,r,oa,ob,rfl,rfl,h1,h2,h3,h4,?_⟩
    have e1:decide (p=r)=decide (a=b):=by
     rw [Bool.eq_iff_iff]; simp only [decide_eq_true_eq]
     exact ⟨fun z=>st.inj a b p hp (by rw [z]; exact hr),fun z=>by subst z; rw [hp] at hr; cases hr; rfl⟩
    rw [e1]; exact Got.val (d:=.bl (decide (a=b))) q st rfl
   | _=>exact q.elim
  | _=>cases dx <;> exact q.elim
 | isn =>
  cases dy with
  | non =>
   refine op_notN pins s σ H x y u t Q I rx ry ⟨hy,?_⟩
   rw [non_iff hx]
   exact Got.val (d:=.bl (!isNon dx)) (v:=.bl (!isNon dx)) (by cases dx <;> exact q) st rfl
  | bl b =>
   cases dx with
   | bl a =>
    cases (show x = .bl a from hx)
    cases (show y = .bl b from hy)
    cases rx; cases ry
    exact EvB.isnot_bool ⟨.bl (!decide (a=b)),H,I,rfl,Got.val (d:=.bl (!decide (a=b))) q st rfl⟩
   | _=>exact q.elim
  | obj b =>
   cases dx with
   | obj a =>
    obtain ⟨p,rfl,hp⟩:=hx
    obtain ⟨r,rfl,hr⟩:=hy
    have q:Got W e H (if isDct μ a || isDct μ b then .stuck else .ok (.bl (!decide (a=b))) μ) Q (xkA Wx σ):=q
    split at q
    ·exact q.elim
    rename_i hz
    rw [Bool.or_eq_true,not_or] at hz
    obtain ⟨oa,h1,h2⟩:=cell_obj st hp (by simpa using hz.1)
    obtain ⟨ob,h3,h4⟩:=cell_obj st hr (by simpa using hz.2)
    refine op_isnot_ref pins s σ H _ _ u t Q I rx ry ⟨p,r,oa,ob,rfl,rfl,h1,h2,h3,h4,?_⟩
    have e1:decide (p=r)=decide (a=b):=by
     rw [Bool.eq_iff_iff]; simp only [decide_eq_true_eq]
     exact ⟨fun z=>st.inj a b p hp (by rw [z]; exact hr),fun z=>by subst z; rw [hp] at hr; cases hr; rfl⟩
    rw [e1]; exact Got.val (d:=.bl (!decide (a=b))) q st rfl
   | _=>exact q.elim
  | _=>cases dx <;> exact q.elim
 | lt =>
  cases dx with
  | int i=>cases dy with
   | int j=>exact op_lt pins s σ H x y u t Q I rx ry ⟨i,j,hx,hy,q.val st rfl⟩
   | _=>exact q.elim
  | ins c xs=>cases dy with
   | ins c' ys=>exact inst rfl rfl rfl q
   | _=>exact q.elim
  | _=>cases dy <;> exact q.elim
 | le =>
  cases dx with
  | int i=>cases dy with
   | int j=>exact op_le pins s σ H x y u t Q I rx ry ⟨i,j,hx,hy,q.val st rfl⟩
   | _=>exact q.elim
  | ins c xs=>cases dy with
   | ins c' ys=>exact inst rfl rfl rfl q
   | _=>exact q.elim
  | _=>cases dy <;> exact q.elim
 | gt =>
  cases dx with
  | int i=>cases dy with
   | int j=>exact op_gt pins s σ H x y u t Q I rx ry ⟨i,j,hx,hy,q.val st rfl⟩
   | _=>exact q.elim
  | ins c xs=>cases dy with
   | ins c' ys=>exact inst rfl rfl rfl q
   | _=>exact q.elim
  | _=>cases dy <;> exact q.elim
 | ge =>
  cases dx with
  | int i=>cases dy with
   | int j=>exact op_ge pins s σ H x y u t Q I rx ry ⟨i,j,hx,hy,q.val st rfl⟩
   | _=>exact q.elim
  | ins c xs=>cases dy with
   | ins c' ys=>exact inst rfl rfl rfl q
   | _=>exact q.elim
  | _=>cases dy <;> exact q.elim
 | inn=>exact in_ok h false I st hx hy rx ry (by
   have q:Got W e H (resB (evInD C dx dy μ)) Q (xkA Wx σ):=q
   have:(evInD C dx dy μ).bind (fun b m=>Res.ok (b != false) m)=evInD C dx dy μ:=by
    cases evInD C dx dy μ <;> simp [Res.bind]
   rw [this]; exact q)
 | nin=>exact in_ok h true I st hx hy rx ry (by
   have q:Got W e H (resB ((evInD C dx dy μ).bind fun b m => .ok (!b) m)) Q (xkA Wx σ):=q
   have:(evInD C dx dy μ).bind (fun b m=>Res.ok (b != true) m)=(evInD C dx dy μ).bind fun b m => .ok (!b) m:=by
    cases evInD C dx dy μ <;> simp [Res.bind]
   rw [this]; exact q)
theorem truth_ok (h:Hyp W X n C Wx) {dx:D} {x:V} {u:Value} {Q:Bool→Hp→Prop} (I:Inv X pins σ H s) (st:St0 W e μ H) (hx:RepH W e H dx x) (rx:RelV x u)
  (q:Aft W e H (truth C dx μ) (fun b _ _ H'=>Q b H') (xkA Wx σ)):wpAny (model X.prog X.w) X.A (truthy u) (TP X pins σ Q) X.xe s:=by
 have base:∀ b,TruV X.K x H b→Q b H→wpAny (model X.prog X.w) X.A (truthy u) (TP X pins σ Q) X.xe s:=fun b h1 h2=>tru_ok pins s σ H x u Q I rx ⟨b,h1,h2⟩
 cases dx with
 | non=>cases (show x = .non from hx); exact base false rfl (Aft.now q st)
 | bl a=>cases (show x = .bl a from hx); exact base a rfl (Aft.now q st)
 | int a=>cases (show x = .int a from hx); exact base (a != 0) rfl (by have:=Aft.now q st; rw [show (a != 0)=decide (a≠0) by simp [bne,Bool.beq_eq_decide_eq]]; exact this)
 | str a =>
  cases (show x = .str a from hx)
  have q:Aft W e H (if a.length≤LINE then .ok (decide (a.length≠0)) μ else .stuck) (fun b _ _ H'=>Q b H') (xkA Wx σ):=q
  by_cases z:a.length≤LINE
  ·rw [if_pos z] at q
   refine base (decide (a.length≠0)) ⟨by rw [sizeLine_eq]; exact z,?_⟩ (Aft.now q st)
   rw [Bool.eq_iff_iff]; simp
  ·rw [if_neg z] at q; exact q.elim
 | tup xs =>
  obtain ⟨a,vs,rfl,h1,h2⟩:=hx
  exact base (!vs.isEmpty) (.inr (.inl ⟨vs,by rw [h.K]; exact sqT_sub h1 st.sub,rfl⟩)) (by
   have:=Aft.now q st
   have e1:vs.isEmpty=xs.isEmpty:=by rw [Bool.eq_iff_iff]; simp [List.isEmpty_iff,← List.length_eq_zero_iff,h2.length]
   rw [e1]; exact this)
 | lst xs =>
  obtain ⟨a,vs,rfl,h1,h2⟩:=hx
  exact base (!vs.isEmpty) (.inl ⟨vs,by rw [h.K]; exact h1.sq st.sub,rfl⟩) (by
   have:=Aft.now q st
   have e1:vs.isEmpty=xs.isEmpty:=by rw [Bool.eq_iff_iff]; simp [List.isEmpty_iff,← List.length_eq_zero_iff,h2.length]
   rw [e1]; exact this)
 | bor _ xs =>
  obtain ⟨a,vs,rfl,h1,h2,_⟩:=hx
  exact base (!vs.isEmpty) (.inl ⟨vs,.of h1,rfl⟩) (by
   have:=Aft.now q st
   have e1:vs.isEmpty=xs.isEmpty:=by rw [Bool.eq_iff_iff]; simp [List.isEmpty_iff,← List.length_eq_zero_iff,h2.length]
   rw [e1]; exact this)
 | obj _=>exact q.elim
 | opq=>exact q.elim
 | ins c fs =>
  have q:Aft W e H ((dcall C 11 (.ins c fs) [] μ).bind fun r m=>(match r with | .bl b => .ok b m | _ => .stuck)) (fun b _ _ H'=>Q b H') (xkA Wx σ):=q
  have q1:=Aft.bind q
  have q2:Got W e H (dcall C 11 (.ins c fs) [] μ) (fun v H'=>∃ b,v = .bl b∧Q b H') (xkA Wx σ):=by
   refine Aft.imp q1 fun d m e' H' x' st' z v hv=>?_
   cases d with
   | bl b=>exact ⟨b,hv,Aft.now z st'⟩
   | _=>exact z.elim
  obtain ⟨c',a,dx,gs,i,fa,rfl,rfl,hH,hcx,hi,cf,M,_,run⟩:=dcall_ok h I st hx .nil rx .nil q2
  obtain ⟨m,od,F,KX,J⟩:=inst_rule I hH
  refine PySem.W.truthy_K F KX J (by rw [← h.txt.dun 11 "__bool__" rfl]; exact M.at_) M.fn (wpAny_mono run (fun r s' z=>?_) fun _ _ z=>z)
  obtain ⟨v',H',I',r',b,rfl,q'⟩:=z
  cases r'
  exact ⟨H',I',q'⟩
end
section
variable {prog:Program} {w:World} {A:Around} {E:Value→Shared→Prop} {s:Shared} {K:PySem.W.Frag} {x C L f:Addr} {h₀:Heap} {m:Str→Option Value} {ox:Obj} {od:Option Obj}
end
end Ev
set_option maxRecDepth 100000
set_option maxHeartbeats 2000000
namespace Ev
open PySem PySem.Spec PyProof.Rows L2
def rE (W:Wd) (C:Cl) (Wx:WX) (H0:En) (a:E):TE:=fun σ H Q=>∃ e μ σd,St0 W e μ H∧Lo W e H0 σd σ H∧Aft W e H (evE C a σd μ) (fun d _ e' H'=>∀ v,RepH W e' H' d v→Q v H') (xkA Wx σ)
def rT (W:Wd) (C:Cl) (Wx:WX) (H0:En) (a:T):TT:=fun σ H Q=>∃ e μ σd,St0 W e μ H∧Lo W e H0 σd σ H∧Aft W e H (evT C a σd μ) (fun b _ _ H'=>Q b H') (xkA Wx σ)
def rA (W:Wd) (C:Cl) (Wx:WX) (H0:En) (a:Es):TA:=fun σ H Q=>∃ e μ σd,St0 W e μ H∧Lo W e H0 σd σ H∧Aft W e H (evEs C a σd μ) (fun ds _ e' H'=>∀ vs,RepHL W e' H' ds vs→Q vs H') (xkA Wx σ)
section
variable {W:Wd} {X:Cx} {n:Nat} {C:Cl} {Wx:WX} {H0:En} {pins:List (Addr×Obj)} {σ:L2.St} {H:Hp} {s:Shared} {e:Em} {μ:Mu} {a b c:Expr} {A B D':E} {pos:Pos}
theorem rE.at {Q:VK} (st:St0 W e μ H) {σd:Sg} (lo:Lo W e H0 σd σ H) {R:D→Mu→Em→Hp→Prop} (q:Aft W e H (evE C A σd μ) R (xkA Wx σ))
  (k:∀ d m e' H' v,Ex e H e' H'→St0 W e' m H'→Lo W e' H0 σd σ H'→R d m e' H'→RepH W e' H' d v→Q v H'):rE W C Wx H0 A σ H Q:=
 ⟨e,μ,σd,st,lo,q.imp fun d m e' H' x st' r v hv=>k d m e' H' v x st' (lo.ex x) r hv⟩
theorem Got.of {r:Res D} {Q:VK} {E:XK} (q:Aft W e H r (fun d _ e' H'=>∀ v,RepH W e' H' d v→Q v H') E):Got W e H r Q E:=q.imp fun _ _ _ _ _ _ z v hv=>z v (.to hv)
theorem snd_var {i:Nat} {x:Str} (hN:X.N[i]?=some x) (hv:Vis X.env.scope x) (hd:(x == ("__debug__" : Str))=false) (hcd:(x == ("__classdict__" : Str))=false):PE X (.Name x pos) (rE W C Wx H0 (.var i)):=by
 refine ⟨fun pins s σ H Q I h=>?_⟩
 obtain ⟨e,μ,σd,st,lo,q⟩:=h
 refine (pe_var hN hv hd hcd).run pins s σ H Q I ?_
 have q:Aft W e H (getVar σd i μ) _ _:=q
 unfold getVar at q
 split at q
 ·rename_i d hd
  obtain ⟨v,h1,h2⟩:=lo.at_ i _ hd
  exact ⟨v,h1,q.now st v (RepH.ofV h2)⟩
 ·rename_i xs hd
  obtain ⟨v,h1,a,vs,rfl,h2,h3,h4⟩:=lo.at_ i _ hd
  exact ⟨_,h1,q.now st _ ⟨a,vs,rfl,h2,h3,h4.2.1⟩⟩
 ·exact q.elim
theorem snd_int {i:Int} {j}:PE X (.Constant (.int i) j pos) (rE W C Wx H0 (.lit (.int i))):=
 ⟨fun pins s σ H Q I ⟨e,μ,σd,st,lo,q⟩=>pe_int.run pins s σ H Q I (q.now st _ rfl)⟩
theorem snd_bl {i:Bool} {j}:PE X (.Constant (.bool i) j pos) (rE W C Wx H0 (.lit (.bl i))):=
 ⟨fun pins s σ H Q I ⟨e,μ,σd,st,lo,q⟩=>pe_bl.run pins s σ H Q I (q.now st _ rfl)⟩
theorem snd_non {j}:PE X (.Constant .none j pos) (rE W C Wx H0 (.lit .non)):=
 ⟨fun pins s σ H Q I ⟨e,μ,σd,st,lo,q⟩=>pe_non.run pins s σ H Q I (q.now st _ rfl)⟩
theorem snd_str {i:Str} {j}:PE X (.Constant (.str i) j pos) (rE W C Wx H0 (.lit (.str i))):=
 ⟨fun pins s σ H Q I ⟨e,μ,σd,st,lo,q⟩=>pe_str.run pins s σ H Q I (q.now st _ rfl)⟩
theorem snd_two (f:D→D→Mu→Res D) (ha:PE X a (rE W C Wx H0 A)) (hb:PE X b (rE W C Wx H0 B)) {σd:Sg} {Q:VK} (I:Inv X pins σ H s) (st:St0 W e μ H) (lo:Lo W e H0 σd σ H)
  (q:Aft W e H ((evE C A σd μ).bind fun x m=>(evE C B σd m).bind fun y m=>f x y m) (fun d _ e' H'=>∀ v,RepH W e' H' d v→Q v H') (xkA Wx σ)) {α:Type} {Qf:α→Shared→Prop} {g:Value→Value→Sem α}
  (hf:∀ v u s2 x y H2 e2 μ2 dx dy,Inv X pins σ H2 s2→RelV x v→RelV y u→St0 W e2 μ2 H2→Lo W e2 H0 σd σ H2→RepH W e2 H2 dx x→RepH W e2 H2 dy y→Aft W e2 H2 (f dx dy μ2) (fun d _ e' H'=>∀ v,RepH W e' H' d v→Q v H') (xkA Wx σ)→wpAny (model X.prog X.w) X.A (g v u) Qf X.xe s2) :
  wpAny (model X.prog X.w) X.A (eval a X.env) (fun v s₁=>wpAny (model X.prog X.w) X.A (eval b X.env) (fun u s₂=>wpAny (model X.prog X.w) X.A (g v u) Qf X.xe s₂) X.xe s₁) X.xe s:=by
 refine bin ha hb (R:=fun x y H2=>∃ e2 μ2 dx dy,St0 W e2 μ2 H2∧Lo W e2 H0 σd σ H2∧RepH W e2 H2 dx x∧RepH W e2 H2 dy y∧Aft W e2 H2 (f dx dy μ2) (fun d _ e' H'=>∀ v,RepH W e' H' d v→Q v H') (xkA Wx σ)) I ?_ fun v u s2 x y H2 I2 r1 r2 ⟨e2,μ2,dx,dy,st2,lo2,h1,h2,q2⟩=>hf v u s2 x y H2 e2 μ2 dx dy I2 r1 r2 st2 lo2 h1 h2 q2
 exact rE.at st lo (Aft.bind q) fun d m e' H' v _ st' lo' r hv=>rE.at st' lo' (Aft.bind r) fun d2 m2 e2 H2 v2 x2 st2 lo2 r2 hv2=>⟨e2,m2,d,d2,st2,lo2,hv.ex x2,hv2,r2⟩
theorem snd_bin (h:Hyp W X n C Wx) (k:B2) (ha:PE X a (rE W C Wx H0 A)) (hb:PE X b (rE W C Wx H0 B)):PE X (.BinOp a (opB2 k) b pos) (rE W C Wx H0 (.bin k A B)):=by
 refine ⟨fun pins s σ H Q I ⟨e,μ,σd,st,lo,q⟩=>?_⟩
 exact wpAny_BinOp (snd_two (evB2 C k) ha hb I st lo q fun v u s2 x y H2 e2 μ2 dx dy I2 r1 r2 st2 lo2 h1 h2 q2=>op_ok h k I2 st2 h1 h2 r1 r2 (.of q2))
theorem snd_cmp (h:Hyp W X n C Wx) (k:Cm) (ha:PE X a (rE W C Wx H0 A)) (hb:PE X b (rE W C Wx H0 B)) (hm:behindInMarks (opC k) b=false):PE X (.Compare a [opC k] [b] pos) (rE W C Wx H0 (.cmp k A B)):=by
 refine ⟨fun pins s σ H Q I ⟨e,μ,σd,st,lo,q⟩=>?_⟩
 exact wpAny_Compare1 (snd_two (evCm C k) ha hb I st lo q fun v u s2 x y H2 e2 μ2 dx dy I2 r1 r2 st2 lo2 h1 h2 q2=>cm_ok h k I2 st2 h1 h2 r1 r2 (.of q2)) hm
theorem sndT_cmp (h:Hyp W X n C Wx) (k:Cm) (ha:PE X a (rE W C Wx H0 A)) (hb:PE X b (rE W C Wx H0 B)) (hm:behindInMarks (opC k) b=false):PT X (.Compare a [opC k] [b] pos) (rT W C Wx H0 (.e (.cmp k A B))):=by
 refine ⟨fun pins s σ H Q I ⟨e,μ,σd,st,lo,q⟩=>?_⟩
 have q':Aft W e H ((evE C A σd μ).bind fun x m=>(evE C B σd m).bind fun y m=>evCm C k x y m) (fun d m e' H'=>Aft W e' H' (truth C d m) (fun b _ _ H'=>Q b H') (xkA Wx σ)) (xkA Wx σ):=Aft.bind q
 refine wpAny_isTrue_Compare1 (snd_two (Q:=fun v H'=>∃ e' m d,St0 W e' m H'∧RepH W e' H' d v∧Aft W e' H' (truth C d m) (fun b _ _ H'=>Q b H') (xkA Wx σ)) (evCm C k) ha hb I st lo (q'.imp fun d m e' H' x st' z v hv=>⟨e',m,d,st',hv,z⟩) fun v u s2 x y H2 e2 μ2 dx dy I2 r1 r2 st2 lo2 h1 h2 q2=>?_) hm
 refine thn (cm_ok h k I2 st2 h1 h2 r1 r2 (.of q2)) fun c s3 ⟨z,H3,I3,r3,e3,m3,d3,st3,h3,q3⟩=>?_
 exact truth_ok h I3 st3 h3 r3 q3
theorem sndT_val (h:Hyp W X n C Wx) (ha:PE X a (rE W C Wx H0 A)) (he:∀ whole,isTrue a X.env whole=(do let v ← whole; standAt a.pos; holding [v] (truthy v))):PT X a (rT W C Wx H0 (.e A)):=by
 refine ⟨fun pins s σ H Q I ⟨e,μ,σd,st,lo,q⟩=>?_⟩
 refine isTrue_plain (thn (ha.run pins s σ H (fun v H'=>∃ e' m d,St0 W e' m H'∧RepH W e' H' d v∧Aft W e' H' (truth C d m) (fun b _ _ H'=>Q b H') (xkA Wx σ)) I (rE.at st lo (Aft.bind q) fun d m e' H' v _ st' _ r hv=>⟨e',m,d,st',hv,r⟩)) fun v s1 ⟨x,H1,I1,r1,e1,m1,d1,st1,h1,q1⟩=>?_) (he _)
 exact truth_ok h I1 st1 h1 r1 q1
theorem sndT_not {t:T} (ha:PT X a (rT W C Wx H0 t)):PT X (.UnaryOp .Not a pos) (rT W C Wx H0 (.not t)):=by
 refine ⟨fun pins s σ H Q I ⟨e,μ,σd,st,lo,q⟩=>?_⟩
 refine isTrue_not (ha.run pins s σ H (fun c H1=>Q (!c) H1) I ⟨e,μ,σd,st,lo,(Aft.bind q).imp fun d m e' H' x st' z=>z.now st'⟩)
theorem sndW_one {op:BoolOp} {t:T} (ha:PT X a (rT W C Wx H0 t)):PW X (.BoolOp op [a] pos) (rT W C Wx H0 t):=by
 cases op
 ·exact pw_and1 ha
 ·exact pw_or1 ha
theorem sndW_and {t u:T} {rest:List Expr} (ha:PT X a (rT W C Wx H0 t)) (hb:PW X (.BoolOp .And (b::rest) pos) (rT W C Wx H0 u)):PW X (.BoolOp .And (a::b::rest) pos) (rT W C Wx H0 (.bop true t u)):=by
 refine ⟨fun wh pins s σ H Q I ⟨e,μ,σd,st,lo,q⟩=>?_⟩
 refine (pw_and ha hb).run wh pins s σ H Q I ⟨e,μ,σd,st,lo,(Aft.bind q).imp fun d m e' H' x st' z=>?_⟩
 cases d with
 | true=>exact ⟨e',m,σd,st',lo.ex x,z⟩
 | false=>exact z.now st'
theorem sndW_or {t u:T} {rest:List Expr} (ha:PT X a (rT W C Wx H0 t)) (hb:PW X (.BoolOp .Or (b::rest) pos) (rT W C Wx H0 u)):PW X (.BoolOp .Or (a::b::rest) pos) (rT W C Wx H0 (.bop false t u)):=by
 refine ⟨fun wh pins s σ H Q I ⟨e,μ,σd,st,lo,q⟩=>?_⟩
 refine (pw_or ha hb).run wh pins s σ H Q I ⟨e,μ,σd,st,lo,(Aft.bind q).imp fun d m e' H' x st' z=>?_⟩
 cases d with
 | true=>exact z.now st'
 | false=>exact ⟨e',m,σd,st',lo.ex x,z⟩
theorem snd_ite {t:T} (hc:PT X c (rT W C Wx H0 t)) (ha:PE X a (rE W C Wx H0 A)) (hb:PE X b (rE W C Wx H0 B)):PE X (.IfExp c a b pos) (rE W C Wx H0 (.ite t A B)):=by
 refine ⟨fun pins s σ H Q I ⟨e,μ,σd,st,lo,q⟩=>?_⟩
 refine (pe_ifExp hc ha hb).run pins s σ H Q I ⟨e,μ,σd,st,lo,(Aft.bind q).imp fun d m e' H' x st' z=>?_⟩
 cases d with
 | true=>exact ⟨e',m,σd,st',lo.ex x,z⟩
 | false=>exact ⟨e',m,σd,st',lo.ex x,z⟩
theorem snd_one {op:BoolOp} (ha:PE X a (rE W C Wx H0 A)):PE X (.BoolOp op [a] pos) (rE W C Wx H0 A):=pe_one ha
theorem truth2 (h:Hyp W X n C Wx) {dx:D} {x:V} {u:Value} {R:Bool→Mu→Em→Hp→Prop} (I:Inv X pins σ H s) (st:St0 W e μ H) (hx:RepH W e H dx x) (rx:RelV x u)
  (q:Aft W e H (truth C dx μ) R (xkA Wx σ)) (k:∀ b s',(∃ H' e' m,Inv X pins σ H' s'∧Ex e H e' H'∧St0 W e' m H'∧R b m e' H')→True) :
  wpAny (model X.prog X.w) X.A (truthy u) (fun b s'=>∃ H' e' m,Inv X pins σ H' s'∧Ex e H e' H'∧St0 W e' m H'∧R b m e' H') X.xe s:=by
 refine thn (truth_ok (Q:=fun b H'=>∃ e' m,Ex e H e' H'∧St0 W e' m H'∧R b m e' H') h I st hx rx (q.imp fun b m e' H' x st' z=>⟨e',m,x,st',z⟩)) fun b s' ⟨H',I',e',m,z⟩=>⟨H',e',m,I',z⟩
theorem snd_and (h:Hyp W X n C Wx) {rest:List Expr} (ha:PE X a (rE W C Wx H0 A)) (hb:PE X (.BoolOp .And (b::rest) pos) (rE W C Wx H0 B)):PE X (.BoolOp .And (a::b::rest) pos) (rE W C Wx H0 (.bop true A B)):=by
 refine ⟨fun pins s σ H Q I ⟨e,μ,σd,st,lo,q⟩=>?_⟩
 refine BoolOp_and (thn (ha.run pins s σ H (fun v H'=>∃ e' m d,St0 W e' m H'∧Lo W e' H0 σd σ H'∧RepH W e' H' d v∧Aft W e' H' ((truth C d m).bind fun t m=>if t=true then evE C B σd m else .ok d m) (fun d _ e' H'=>∀ v,RepH W e' H' d v→Q v H') (xkA Wx σ)) I (rE.at st lo (Aft.bind q) fun d m e' H' v _ st' lo' r hv=>⟨e',m,d,st',lo',hv,r⟩)) fun v s1 ⟨x,H1,I1,r1,e1,m1,d1,st1,lo1,h1,q1⟩=>?_)
 refine thn (truth2 h I1 st1 h1 r1 (Aft.bind q1) fun _ _ _=>trivial) fun b s2 ⟨H2,e2,m2,I2,x2,st2,q2⟩=>?_
 cases b with
 | true=>exact hb.run pins s2 σ H2 Q I2 ⟨e2,m2,σd,st2,lo1.ex x2,q2⟩
 | false=>exact ⟨x,H2,I2,r1,q2.now st2 x (h1.ex x2)⟩
theorem snd_or (h:Hyp W X n C Wx) {rest:List Expr} (ha:PE X a (rE W C Wx H0 A)) (hb:PE X (.BoolOp .Or (b::rest) pos) (rE W C Wx H0 B)):PE X (.BoolOp .Or (a::b::rest) pos) (rE W C Wx H0 (.bop false A B)):=by
 refine ⟨fun pins s σ H Q I ⟨e,μ,σd,st,lo,q⟩=>?_⟩
 refine BoolOp_or (thn (ha.run pins s σ H (fun v H'=>∃ e' m d,St0 W e' m H'∧Lo W e' H0 σd σ H'∧RepH W e' H' d v∧Aft W e' H' ((truth C d m).bind fun t m=>if t=false then evE C B σd m else .ok d m) (fun d _ e' H'=>∀ v,RepH W e' H' d v→Q v H') (xkA Wx σ)) I (rE.at st lo (Aft.bind q) fun d m e' H' v _ st' lo' r hv=>⟨e',m,d,st',lo',hv,r⟩)) fun v s1 ⟨x,H1,I1,r1,e1,m1,d1,st1,lo1,h1,q1⟩=>?_)
 refine thn (truth2 h I1 st1 h1 r1 (Aft.bind q1) fun _ _ _=>trivial) fun b s2 ⟨H2,e2,m2,I2,x2,st2,q2⟩=>?_
 cases b with
 | true=>exact ⟨x,H2,I2,r1,q2.now st2 x (h1.ex x2)⟩
 | false=>exact hb.run pins s2 σ H2 Q I2 ⟨e2,m2,σd,st2,lo1.ex x2,q2⟩
theorem sndT_chain (h:Hyp W X n C Wx) (k k':Cm) (ha:PE X a (rE W C Wx H0 A)) (hb:PE X b (rE W C Wx H0 B)) (hc:PE X c (rE W C Wx H0 D')) (hm:lastMarks [opC k,opC k'] [b,c]=false) :
  PT X (.Compare a [opC k,opC k'] [b,c] pos) (rT W C Wx H0 (.e (.chain k k' A B D'))):=by
 refine ⟨fun pins s σ H Q I ⟨e,μ,σd,st,lo,q⟩=>?_⟩
 have q':Aft W e H (evE C (.chain k k' A B D') σd μ) (fun d m e' H'=>Aft W e' H' (truth C d m) (fun b _ _ H'=>Q b H') (xkA Wx σ)) (xkA Wx σ):=Aft.bind q
 refine isTrue_chain (thn (ha.run pins s σ H (fun v H'=>∃ e' m d,St0 W e' m H'∧Lo W e' H0 σd σ H'∧RepH W e' H' d v∧Aft W e' H' _ _ (xkA Wx σ)) I (rE.at st lo (Aft.bind q') fun d m e' H' v _ st' lo' r hv=>⟨e',m,d,st',lo',hv,r⟩)) fun v s1 ⟨x,H1,I1,r1,e1,m1,d1,st1,lo1,h1,q1⟩=>test_link ?_) hm
 refine thn (hb.run pins s1 σ H1 (fun v H'=>∃ e' m d,St0 W e' m H'∧Lo W e' H0 σd σ H'∧RepH W e' H' d1 x∧RepH W e' H' d v∧Aft W e' H' _ _ (xkA Wx σ)) I1 (rE.at st1 lo1 (Aft.bind q1) fun d m e' H' v x' st' lo' r hv=>⟨e',m,d,st',lo',h1.ex x',hv,r⟩)) fun u s2 ⟨y,H2,I2,r2,e2,m2,d2,st2,lo2,h1',h2,q2⟩=>?_
 refine thn (cm_ok (Q:=fun z H'=>∃ e' m b,z = .bl b∧Ex e2 H2 e' H'∧St0 W e' m H'∧Aft W e' H' (if b=true then (evE C D' σd m).bind fun z m=>evCm C k' d2 z m else .ok (.bl false) m) (fun d m e' H'=>Aft W e' H' (truth C d m) (fun b _ _ H'=>Q b H') (xkA Wx σ)) (xkA Wx σ)) h k I2 st2 h1' h2 r1 r2 ((Aft.bind q2).imp fun d m e' H' x st' z v hv=>?_)) fun d s3 ⟨z,H3,I3,r3,e3,m3,b,eb,x3,st3,q3⟩=>?_
 ·cases d with
  | bl b =>
   cases b with
   | true=>exact ⟨e',m,true,hv,x,st',z⟩
   | false=>exact ⟨e',m,false,hv,x,st',z⟩
  | _=>exact z.elim
 ·subst eb
  cases r3
  refine wpAny_truthy_bool ?_
  cases b with
  | false=>exact ite_ff ⟨H3,I3,(q3.now st3).now st3⟩
  | true =>
   refine ite_tt (test_last (thn (hc.run pins s3 σ H3 (fun v H'=>∃ e' m d,St0 W e' m H'∧RepH W e' H' d2 y∧RepH W e' H' d v∧Aft W e' H' _ _ (xkA Wx σ)) I3 (rE.at st3 (lo2.ex x3) (Aft.bind q3) fun d m e' H' v x' st' lo' r hv=>⟨e',m,d,st',(h2.ex x3).ex x',hv,r⟩)) fun w' s4 ⟨z',H4,I4,r4,e4,m4,d4,st4,h2',h4,q4⟩=>?_))
   refine thn (cm_ok (Q:=fun v H'=>∃ e' m d,St0 W e' m H'∧RepH W e' H' d v∧Aft W e' H' (truth C d m) (fun b _ _ H'=>Q b H') (xkA Wx σ)) h k' I4 st4 h2' h4 r2 r4 (q4.imp fun d m e' H' x' st' z v hv=>⟨e',m,d,st',.to hv,z⟩)) fun c5 s5 ⟨z5,H5,I5,r5,e5,m5,d5,st5,h5,q5⟩=>?_
   exact truth_ok h I5 st5 h5 r5 q5
end
end Ev
set_option maxRecDepth 100000
set_option maxHeartbeats 2000000
namespace Ev
open PySem PySem.Spec PyProof.Rows L2
section
variable {W:Wd} {X:Cx} {n:Nat} {C:Cl} {Wx:WX} {H0:En} {pins:List (Addr×Obj)} {σ:L2.St} {H:Hp} {s:Shared} {e:Em} {μ:Mu} {a b c:Expr} {A B D':E} {pos:Pos}
theorem star_no {x:Expr} {es:List Expr} {env:Env} (h:noStar x=true):starEach (x::es) env=(false,eval x env)::starEach es env:=by
 cases x <;> first | rfl | cases h
theorem any_no {es:List Expr} {env:Env} {pos:Pos} (h:es.all noStar=true):(backTo pos (starEach es env)).any (·.1)=false:=by
 induction es with
 | nil=>rfl
 | cons x es ih =>
  rw [List.all_cons,Bool.and_eq_true] at h
  rw [star_no h.1]
  show (false || (backTo pos (starEach es env)).any (·.1))=false
  rw [ih h.2]; rfl
theorem items_at (h:Hyp W X n C Wx) (st:St0 W e μ H) {d:D} {v:V} {xs:List D} (hd:RepH W e H d v) (hi:items μ d=some xs):∃ p vs,v = .ref p∧(SqT X.K H p vs∨SqL X.K H p vs)∧RepL W e xs vs:=by
 cases d with
 | tup ys =>
  cases hi
  obtain ⟨p,vs,rfl,h1,h2⟩:=hd
  exact ⟨p,vs,rfl,.inl (by rw [h.K]; exact sqT_sub h1 st.sub),h2⟩
 | lst ys =>
  cases hi
  obtain ⟨p,vs,rfl,h1,h2⟩:=hd
  exact ⟨p,vs,rfl,.inr (by rw [h.K]; exact h1.sq st.sub),h2⟩
 | bor k ys =>
  cases hi
  obtain ⟨p,vs,rfl,h1,h2,_⟩:=hd
  exact ⟨p,vs,rfl,.inr (.of h1),h2⟩
 | obj o =>
  obtain ⟨p,rfl,hp⟩:=hd
  have hi:(match μ[o]? with | some (.lst xs)=>some xs | _=>none)=some xs:=hi
  cases q:μ[o]? with
  | none=>rw [q] at hi; cases hi
  | some so =>
   rw [q] at hi
   cases so with
   | ins _ _=>cases hi
   | dct _=>cases hi
   | exn _ _=>cases hi
   | lst ys =>
    cases hi
    obtain ⟨p',hp',vs,h1,h2⟩:=st.cell o _ q
    rw [hp] at hp'; cases hp'
    exact ⟨p,vs,rfl,.inr (.of h1),h2⟩
 | _=>cases hi
theorem snd_nil:PA X [] (rA W C Wx H0 .nil):=⟨fun pos pins s σ H Q I ⟨e,μ,σd,st,lo,q⟩=>pa_nil.run pos pins s σ H Q I (q.now st [] rfl)⟩
theorem snd_cons {x:Expr} {es:List Expr} {ys:Es} (hs:noStar x=true) (ha:PE X x (rE W C Wx H0 A)) (hr:PA X es (rA W C Wx H0 ys)):PA X (x::es) (rA W C Wx H0 (.cons false A ys)):=by
 refine ⟨fun pos pins s σ H Q I ⟨e,μ,σd,st,lo,q⟩=>?_⟩
 refine (pa_cons ha hr (star_no hs)).run pos pins s σ H Q I (rE.at st lo (Aft.bind q) fun d m e' H' v x st' lo' r hv=>?_)
 exact ⟨e',m,σd,st',lo',(Aft.bind r).imp fun ds m2 e2 H2 x2 st2 r2 vs hvs=>r2.now st2 _ ⟨v,vs,rfl,hv.ex x2,hvs⟩⟩
theorem snd_star (h:Hyp W X n C Wx) {x:Expr} {es:List Expr} {ys:Es} {p:Pos} (ha:PE X x (rE W C Wx H0 A)) (hr:PA X es (rA W C Wx H0 ys)):PA X (.Starred x p::es) (rA W C Wx H0 (.cons true A ys)):=by
 refine ⟨fun pos pins s σ H Q I ⟨e,μ,σd,st,lo,q⟩=>?_⟩
 refine (StX.pa_star ha hr).run pos pins s σ H Q I (rE.at st lo (Aft.bind q) fun d m e' H' v x st' lo' r hv=>?_)
 have r:Aft W e' H' (match items m d with | some xs=>(evEs C ys σd m).bind fun ys m => .ok (xs++ys) m | none => .stuck) (fun ds _ e' H'=>∀ vs,RepHL W e' H' ds vs→Q vs H') (xkA Wx σ):=r
 cases hi:items m d with
 | none=>rw [hi] at r; exact r.elim
 | some xs =>
  rw [hi] at r
  obtain ⟨p,vs,rfl,h1,h2⟩:=items_at h st' hv hi
  exact ⟨p,vs,rfl,h1,e',m,σd,st',lo',(Aft.bind r).imp fun ds m2 e2 H2 x2 st2 r2 ws hws=>r2.now st2 _ (RepHL.append (RepHL.to (h2.ex x2)) hws)⟩
theorem rA.at {Q:List V→Hp→Prop} {ys:Es} (st:St0 W e μ H) {σd:Sg} (lo:Lo W e H0 σd σ H) {R:List D→Mu→Em→Hp→Prop} (q:Aft W e H (evEs C ys σd μ) R (xkA Wx σ))
  (k:∀ d m e' H' v,Ex e H e' H'→St0 W e' m H'→Lo W e' H0 σd σ H'→R d m e' H'→RepHL W e' H' d v→Q v H'):rA W C Wx H0 ys σ H Q:=
 ⟨e,μ,σd,st,lo,q.imp fun d m e' H' x st' r v hv=>k d m e' H' v x st' (lo.ex x) r hv⟩
theorem lim_le {k:Nat} (h:lim k=true):k≤sizeLine:=by
 have:=of_decide_eq_true h
 rw [sizeLine_eq]; exact this
theorem snd_tup {x1} {es:List Expr} {ys:Es} (ha:PA X es (rA W C Wx H0 ys)):PE X (.Tuple es x1 pos) (rE W C Wx H0 (.tup ys)):=by
 refine ⟨fun pins s σ H Q I ⟨e,μ,σd,st,lo,q⟩=>?_⟩
 refine (pe_tup ha).run pins s σ H Q I (rA.at st lo (Aft.bind q) fun d m e' H' v x st' lo' r hv=>?_)
 have r:Aft W e' H' (if (lim d.length&&d.all nbD)=true then .ok (.tup d) m else .stuck) (fun d _ e' H'=>∀ v,RepH W e' H' d v→Q v H') (xkA Wx σ):=r
 split at r
 ·rename_i z
  rw [Bool.and_eq_true] at z
  have hr:=RepHL.of z.2 hv
  exact ⟨by rw [hr.length]; exact lim_le z.1,Got.newT (Got.of r) st' hr⟩
 ·exact r.elim
theorem snd_lst {es:List Expr} {ys:Es} (ha:PA X es (rA W C Wx H0 ys)):PE X (.List es pos) (rE W C Wx H0 (.lst ys)):=by
 refine ⟨fun pins s σ H Q I ⟨e,μ,σd,st,lo,q⟩=>?_⟩
 refine (pe_lst ha).run pins s σ H Q I (rA.at st lo (Aft.bind q) fun d m e' H' v x st' lo' r hv=>?_)
 have r:Aft W e' H' (if (lim d.length&&d.all nbD)=true then .ok (.lst d) m else .stuck) (fun d _ e' H'=>∀ v,RepH W e' H' d v→Q v H') (xkA Wx σ):=r
 split at r
 ·rename_i z
  rw [Bool.and_eq_true] at z
  have hr:=RepHL.of z.2 hv
  exact ⟨by rw [hr.length]; exact lim_le z.1,Got.newL (Got.of r) st' hr⟩
 ·exact r.elim
theorem snd_cell {es:List Expr} {ys:Es} (ha:PA X es (rA W C Wx H0 ys)):PE X (.List es pos) (rE W C Wx H0 (.cell ys)):=by
 refine ⟨fun pins s σ H Q I ⟨e,μ,σd,st,lo,q⟩=>?_⟩
 refine (pe_lst ha).run pins s σ H Q I (rA.at st lo (Aft.bind q) fun d m e' H' v x st' lo' r hv=>?_)
 have r:Aft W e' H' (if (lim d.length&&d.all nbD)=true then .ok (.obj m.length) (m++[.lst d]) else .stuck) (fun d _ e' H'=>∀ v,RepH W e' H' d v→Q v H') (xkA Wx σ):=r
 split at r
 ·rename_i z
  rw [Bool.and_eq_true] at z
  have hr:=RepHL.of z.2 hv
  refine ⟨by rw [hr.length]; exact lim_le z.1,fun p hp=>?_⟩
  obtain ⟨e2,x2,st2,h1,h2⟩:=st'.celled (so:=.lst d) (H':=upd H' p (.lst v)) (o:=.lst v) hp upd_same (fun b u q=>by rw [upd_ne (ne_of_none q hp)]; exact q) fun e2 x2=>⟨v,upd_same,hr.ex x2⟩
  exact r e2 _ x2 st2 _ ⟨p,rfl,h1⟩
 ·exact r.elim
theorem base_ok {o:Expr} {f:Str} {env:Env} (h:baseOk o=true):attributeBase o f env (eval o env)=eval o env:=by
 unfold attributeBase
 split
 ·cases h
 ·rfl
theorem find_flds {ks:List Nat} {k j:Nat} (h:ks.findIdx? (· == k)=some j):ks[j]?=some k:=by
 rw [List.findIdx?_eq_some_iff_getElem] at h
 obtain ⟨h1,h2,_⟩:=h
 rw [List.getElem?_eq_getElem h1]
 simp at h2
 rw [h2]
theorem noExc_aft {α:Type} {r:Res α} {K:α→Mu→Em→Hp→Prop} {E E':XK} (q:Aft W e H (noExc r) K E):Aft W e H r K E':=by
 cases r with
 | ok a m=>exact q
 | exc c fs m=>exact q.elim
 | stuck=>exact q.elim
theorem prop_run (h:Hyp W X n C Wx) {cc g p:Addr} {fl:Str} {dx:Addr} {gs:List (Str×V)} {a:Addr} {bb:Bool} {fd:FuncData} {ps:List Str} {sp:Sp} {k:Nat} {vs:List V} {us:List Value} {Q:VK} {E':Value→Shared→Prop} (I:Inv X pins σ H s) (hH:H a=some (.ins cc dx gs)) (cl:Cls X.K cc) (hP:PropOf X.K cc fl p g)
  (F:FnG C.hot C.rep X.prog X.w X.K X.mg X.base (L2N.CX X.prog X.w) k g fd ps sp) (hr:L2H.RoomH (k+1) X.A) (hb:Binds X.K fd ps us) (hv:Vals vs us) (hsp:sp (.ref a::vs) H Q fun _ _ _=>False) :
  wpAny (model X.prog X.w) X.A (getAttr (.ref a) fl bb) (EP X pins σ Q) E' s:=by
 obtain ⟨_,O,_⟩:=ins_get I.hok hH
 obtain ⟨_,J,_⟩:=O.look
 obtain ⟨_,hrec⟩:=hP.rec_
 have I1:=I.tok (s.toks+1)
 have lens:([Value.ref a]++us).length=ps.length:=by
  have e1:=F.len _ _ _ _ hsp
  have e2:=hv.length
  rw [← e1]
  simp [e2]
 have some_:(PySem.W.clsIn X.K cc).isSome=true:=by
  obtain ⟨_,hc,_⟩:=PySem.W.any_some cl.hd
  rw [hc]; rfl
 have pg:=PySem.W.plainGet_of (cl.get fl)
 refine PySem.W.get_bind I.kIn J pg.1 (PySem.W.findObj_data some_ hP.at_ hP.get hP.tak) pg.2 ?_
 refine wpAny_call (PySem.W.prop_get (s:={ s with toks:=s.toks+1 }) I.kIn hrec ?_)
 have run:=F.run X.A.in1 X.stack { s with toks:=s.toks+1 } H ⟨[.ref a],[]⟩ (.ref a::us) (.ref a::vs) Q _ h.guards (RoomH.in1 hr) (h.lull rfl I1) I1.env0.in1 (hb _ [.ref a] I1.kIn lens) (.cons rfl hv) hsp
 refine codeAny_mono run fun r s' hq=>?_
 cases r with
 | error er =>
  obtain ⟨_,_,_,_,_,_,_,_,_,_,_,_,z⟩:=hq
  exact z.elim
 | ok fl2 =>
  cases fl2 with
  | ret u =>
   obtain ⟨v,H',I3,rv,q3⟩:=I1.after hq
   have e:=PySem.W.handedOut_of (handed_of rv)
   show wpAny (model X.prog X.w) _ (handedOut u) _ E' s'
   rw [e]
   exact wpAny_pure ⟨v,H',I3,rv,q3⟩
  | next=>exact hq.elim
  | brk=>exact hq.elim
  | cont=>exact hq.elim
theorem prop_ok (h:Hyp W X n C Wx) {c k f:Nat} {i:ClI} {d:D} {a dx:Addr} {gs:List (Str×V)} {bb:Bool} {Q:VK} (I:Inv X pins σ H s) (st:St0 W e μ H) (hd:Rep W e d (.ref a)) (hH:H a=some (.ins (W.ca c) dx gs)) (hi:W.T.cls[c]?=some i) (hx:i.isexc=false)
  (hp:i.props.lookup k=some f) (q:Got W e H (noExc (C.low f [d] μ)) Q (xkA Wx σ)):wpAny (model X.prog X.w) X.A (getAttr (.ref a) (an W.T k) bb) (EP X pins σ Q) X.xe s:=by
 have cf:=h.txt.cls c i hi hx
 obtain ⟨j,p,hj,hP⟩:=cf.prop k f hp
 rcases h.low with hs | ⟨k0,hk0,hF⟩
 ·rw [hs] at q; exact q.elim
 ·rcases hF f [d] μ with z | ⟨j',hj',ho,fp⟩
  ·rw [z] at q; exact q.elim
  ·rw [hj] at hj'; cases hj'
   have q2:Got W e H (C.low f [d] μ) Q (fun _ _ _=>False):=noExc_aft q
   have ha:∃ a,argsOf j [d]=some a:=by
    cases z:argsOf j [d] with
    | some a=>exact ⟨a,rfl⟩
    | none=>rw [fp.miss _ μ z] at q2; exact q2.elim
   obtain ⟨us,ha⟩:=ha
   obtain ⟨l1,l2,ea,la⟩:=argsOf_full ha
   obtain ⟨fd,ok,bi,_⟩:=fp.ok
   obtain ⟨dd,dvs,rv,rl,bd⟩:=bi ([d].length+j.dfl.length - j.np) (by omega)
   have F':FnG C.hot C.rep X.prog X.w X.K X.mg X.base (L2N.CX X.prog X.w) (k0+34) (fadr W.K W.T j.loc) fd (j.names.take j.np) (spF W j.np (C.low f)):=by rw [h.prog,h.w,h.K,h.mg,h.base]; exact ok
   refine prop_run h I hH (by rw [h.K]; exact cf.cls) (by rw [h.K]; exact hP) F' (h.room.mono (by omega)) (by rw [h.K]; exact bd) rv ⟨e,μ,us,?_,st,?_,?_⟩
   ·have:=(rl e).length
    rw [List.length_drop] at this
    simp only [List.length_cons,List.length_nil] at this l1 l2 ⊢
    omega
   ·rw [ea]; exact RepVL.to (RepL.append (.cons hd .nil) (rl e))
   ·rw [fp.fill _ μ us ha] at q2; exact q2
theorem getAt_ok (h:Hyp W X n C Wx) {k:Nat} {d:D} {v:V} {u:Value} {bb:Bool} {Q:VK} (I:Inv X pins σ H s) (st:St0 W e μ H) (hd:RepH W e H d v) (rv:RelV v u) (q:Got W e H (getAt C d k μ) Q (xkA Wx σ)) :
  wpAny (model X.prog X.w) X.A (getAttr u (an W.T k) bb) (EP X pins σ Q) X.xe s:=by
 cases d with
 | ins c fs =>
  obtain ⟨a,dx,gs,vs,i,rfl,h1,h2,h3,h4,h5⟩:=id hd
  cases rv
  have cf:=h.txt.cls c i h2 h3
  have q:Got W e H (match prp C.T c k with | some f=>noExc (C.low f [.ins c fs] μ) | none=>(match (fix C.T c k).bind fun j=>fs[j]? with | some v => .ok v μ | none => .stuck)) Q (xkA Wx σ):=q
  have ep:prp C.T c k=i.props.lookup k:=by unfold prp; rw [h.T,h2]; rfl
  rw [ep] at q
  cases hp:i.props.lookup k with
  | some f=>rw [hp] at q; exact prop_ok h I st hd (st.sub _ _ h1) h2 h3 hp q
  | none =>
   rw [hp] at q
   have ef:fix C.T c k=i.flds.findIdx? (· == k):=by unfold fix; rw [h.T,h2]; rfl
   rw [ef] at q
   have q:Got W e H (match (i.flds.findIdx? (· == k)).bind fun j=>fs[j]? with | some v => .ok v μ | none => .stuck) Q (xkA Wx σ):=q
   cases hj:i.flds.findIdx? (· == k) with
   | none=>rw [hj] at q; exact q.elim
   | some j =>
    rw [hj] at q
    have q:Got W e H (match fs[j]? with | some v => .ok v μ | none => .stuck) Q (xkA Wx σ):=q
    cases hv:fs[j]? with
    | none=>rw [hv] at q; exact q.elim
    | some d' =>
     rw [hv] at q
     have hk:=find_flds hj
     obtain ⟨w,hw1,hw2⟩:=h4.at_ j k hk
     obtain ⟨w',hw3,hw4⟩:=h5.get hv
     rw [hw1] at hw3; cases hw3
     refine getattr_ok I (st.sub _ _ h1) (by rw [h.K]; exact cf.cls) (by rw [h.K]; exact cf.no k (List.mem_of_getElem? hk)) hw2 fun u' s2 I2 ru=>?_
     exact ⟨w,H,I2,ru,Got.val q st hw4⟩
 | obj o =>
  obtain ⟨a,rfl,ha⟩:=id hd
  cases rv
  have q:Got W e H (match μ[o]? with | some (.ins c fs)=>(match prp C.T c k with | some f=>noExc (C.low f [.obj o] μ) | none=>(match fs.lookup k with | some v => .ok v μ | none=>(match cnst C.T c k with | some v => .ok v μ | none => .stuck))) | some (.exn _ fs)=>(match fs.lookup k with | some v => .ok v μ | none => .stuck) | _ => .stuck) Q (xkA Wx σ):=q
  cases hc:μ[o]? with
  | none=>rw [hc] at q; exact q.elim
  | some so =>
   rw [hc] at q
   cases so with
   | lst _=>exact q.elim
   | dct _=>exact q.elim
   | exn c fs =>
    have q:Got W e H (match fs.lookup k with | some v => .ok v μ | none => .stuck) Q (xkA Wx σ):=q
    obtain ⟨a',ha',dx,gs,i,h1,h2,h3,h4,h5⟩:=st.cell o _ hc
    rw [ha] at ha'; cases ha'
    have ef:=h.txt.exc c i h3 h4
    cases hl:fs.lookup k with
    | none=>rw [hl] at q; exact q.elim
    | some d' =>
     rw [hl] at q
     obtain ⟨hk,w,hw1,hw2⟩:=h5.at_ k d' hl
     obtain ⟨b0,k0,_,_,_,_,hfl,hno,_⟩:=ef.made (List.ne_nil_of_mem hk)
     rw [hfl] at hk
     obtain rfl:k=k0:=by simpa using hk
     rw [← h.K] at hno
     have xf:=ef.xf
     rw [← h.K] at xf
     obtain ⟨t1,ho1⟩:=exo_at I.hok h1
     obtain ⟨mA,hns,hr⟩:=exd_at I.hok (st.sub _ _ h2)
     obtain ⟨od,ho,hlk⟩:=lookIn_ns hns
     obtain ⟨u,hu,ru⟩:=RelO.some_of (v:=w) (o:=mA (an W.T k)) (by rw [← hw1]; exact hr _)
     have J:PySem.W.InstAt s.heap a _ (W.ca c) (some od):=⟨ho1,rfl,rfl,ho⟩
     exact HandSPX.exc_get I.kIn J xf.ga xf.gg xf.exC (PySem.W.findObj_own xf.hdC hno rfl (by rw [hlk,hu])) (handed_of ru) ⟨w,H,I.tok _,ru,Got.val q st hw2⟩
   | ins c fs =>
    have q:Got W e H (match prp C.T c k with | some f=>noExc (C.low f [.obj o] μ) | none=>(match fs.lookup k with | some v => .ok v μ | none=>(match cnst C.T c k with | some v => .ok v μ | none => .stuck))) Q (xkA Wx σ):=q
    obtain ⟨a',ha',dx,gs,i,h1,h2,h3,h4,h5⟩:=st.cell o _ hc
    rw [ha] at ha'; cases ha'
    have cf:=h.txt.cls c i h2 h3
    have ep:prp C.T c k=i.props.lookup k:=by unfold prp; rw [h.T,h2]; rfl
    rw [ep] at q
    cases hp:i.props.lookup k with
    | some f=>rw [hp] at q; exact prop_ok h I st hd h1 h2 h3 hp q
    | none =>
     rw [hp] at q
     have q:Got W e H (match fs.lookup k with | some v => .ok v μ | none=>(match cnst C.T c k with | some v => .ok v μ | none => .stuck)) Q (xkA Wx σ):=q
     cases hv:fs.lookup k with
     | none =>
      rw [hv] at q
      have q:Got W e H (match cnst C.T c k with | some v => .ok v μ | none => .stuck) Q (xkA Wx σ):=q
      have ec:cnst C.T c k=i.cons.lookup k:=by unfold cnst; rw [h.T,h2]; rfl
      rw [ec] at q
      cases hc2:i.cons.lookup k with
      | none=>rw [hc2] at q; exact q.elim
      | some d' =>
       rw [hc2] at q
       obtain ⟨w,u0,cn,_,_,rp,nf⟩:=cf.con k d' hc2
       have ln:gs.lookup (an W.T k)=none:=h4.no _ fun k' hk' _=>nf k' hk'
       exact getcon_ok I h1 (by rw [h.K]; exact cf.cls) (by rw [h.K]; exact cn) ln fun s2 I2=>⟨w,H,I2,cn.rel,Got.val q st (rp e)⟩
     | some d' =>
      rw [hv] at q
      obtain ⟨hk,w,hw1,hw2⟩:=h4.at_ k d' hv
      refine getattr_ok I h1 (by rw [h.K]; exact cf.cls) (by rw [h.K]; exact cf.no k hk) hw1 fun u' s2 I2 ru=>?_
      exact ⟨w,H,I2,ru,Got.val q st hw2⟩
 | _=>exact q.elim
theorem snd_attr (h:Hyp W X n C Wx) (pn:Pn W X C H0) {k:Nat} {f:Str} (hf:an W.T k=f) (hb:baseOk a=true) (ha:PE X a (rE W C Wx H0 A)) (hv:∀ i,A.isVar=some i→∃ x p,a = .Name x p∧X.N[i]?=some x∧Vis X.env.scope x∧(x == ("__debug__" : Str))=false∧(x == ("__classdict__" : Str))=false) :
  PE X (.Attribute a f pos) (rE W C Wx H0 (.attr A k)):=by
 subst hf
 refine ⟨fun pins s σ H Q I ⟨e,μ,σd,st,lo,q⟩=>?_⟩
 have q:Aft W e H (match A.isVar.bind fun i=>getSelf σd i with | some fs=>(match fs.lookup k with | some v => .ok v μ | none => .stuck) | none=>(evE C A σd μ).bind fun x m=>getAt C x k m) (fun d _ e' H'=>∀ v,RepH W e' H' d v→Q v H') (xkA Wx σ):=q
 cases hs:A.isVar.bind fun i=>getSelf σd i with
 | none =>
  rw [hs] at q
  refine attr_of (base_ok hb) (thn (ha.run pins s σ H (fun v H'=>∃ e' m d,St0 W e' m H'∧RepH W e' H' d v∧Got W e' H' (getAt C d k m) Q (xkA Wx σ)) I (rE.at st lo (Aft.bind q) fun d m e' H' v _ st' lo' r hv=>⟨e',m,d,st',hv,.of r⟩)) fun v s1 ⟨x,H1,I1,r1,e1,m1,d1,st1,h1,q1⟩=>?_)
  exact getAt_ok h I1 st1 h1 r1 q1
 | some fs =>
  rw [hs] at q
  have q:Aft W e H (match fs.lookup k with | some v => .ok v μ | none => .stuck) (fun d _ e' H'=>∀ v,RepH W e' H' d v→Q v H') (xkA Wx σ):=q
  cases hvar:A.isVar with
  | none=>rw [hvar] at hs; cases hs
  | some i =>
   rw [hvar] at hs
   have hs:getSelf σd i=some fs:=hs
   obtain ⟨x,p,rfl,hN,hvis,hd1,hd2⟩:=hv i hvar
   unfold getSelf at hs
   split at hs
   ·rename_i c fs' hat
    cases hs
    obtain ⟨v,hv1,a',dx,gs,i',⟨rfl,_,_⟩,h1,h2,h2x,h3,_⟩:=lo.at_ i _ hat
    have cf:=h.txt.cls c i' h2 h2x
    cases hl:fs.lookup k with
    | none=>rw [hl] at q; exact q.elim
    | some d' =>
     rw [hl] at q
     obtain ⟨hk,w,hw1,hw2⟩:=h3.at_ k d' hl
     refine attr_of (base_ok hb) (thn ((pe_var hN hvis hd1 hd2).run pins s σ H (fun v H'=>v = .ref a'∧H'=H) I ⟨_,hv1,rfl,rfl⟩) fun v s1 ⟨x,H1,I1,r1,e1,e2⟩=>?_)
     subst e1 e2
     cases r1
     refine getattr_ok I1 h1 (by rw [h.K]; exact cf.cls) (by rw [h.K]; exact cf.no k hk) hw1 fun u' s2 I2 ru=>?_
     exact ⟨w,H1,I2,ru,q.now st w (.to hw2)⟩
   ·rename_i c fs' hat
    cases hs
    obtain ⟨v,hv1,a',dx,gs,i',rfl,hx0,h1,h2,h2x,h3,_⟩:=lo.at_ i _ hat
    have ef:=h.txt.exc c i' h2 h2x
    obtain ⟨oe,hp,o1,o2,o3⟩:=pn.pin _ _ _ hx0
    cases hl:fs.lookup k with
    | none=>rw [hl] at q; exact q.elim
    | some d' =>
     rw [hl] at q
     obtain ⟨hk,w,hw1,hw2⟩:=h3.at_ k d' hl
     refine attr_of (base_ok hb) (thn ((pe_var hN hvis hd1 hd2).run pins s σ H (fun v H'=>v = .ref a'∧H'=H) I ⟨_,hv1,rfl,rfl⟩) fun v s1 ⟨x,H1,I1,r1,e1,e2⟩=>?_)
     subst e1 e2
     cases r1
     obtain ⟨b0,k0,_,_,_,_,hfl,hno,_⟩:=ef.made (List.ne_nil_of_mem hk)
     rw [hfl] at hk
     obtain rfl:k=k0:=by simpa using hk
     rw [← h.K] at hno
     have xf:=ef.xf
     rw [← h.K] at xf
     obtain ⟨ha0,_⟩:=I1.pin (a',oe) (List.mem_append_left _ hp)
     obtain ⟨vs,hd0⟩:=o3
     have hx:ObjOk X.prog X.w H1 s1.heap dx (.xd gs):=I1.hok dx _ h1
     obtain ⟨mA,hns,hr⟩:=hx
     obtain ⟨od,ho,hlk⟩:=lookIn_ns hns
     obtain ⟨u,hu,ru⟩:=RelO.some_of (v:=w) (o:=mA (an W.T k)) (by rw [← hw1]; exact hr _)
     have J:PySem.W.InstAt s1.heap a' oe (W.ca c) (some od):=⟨ha0,o1,by unfold PySem.W.notCls; rw [hd0] <;> rfl,by rw [o2]; exact ho⟩
     exact HandSPX.exc_get I1.kIn J xf.ga xf.gg xf.exC (PySem.W.findObj_own xf.hdC hno rfl (by rw [hlk,hu])) (handed_of ru) ⟨w,H1,I1.tok _,ru,q.now st w (.to hw2)⟩
   ·cases hs
theorem plain_ix {b:Expr} (h:notSl b=true):PlainIx b:=fun o i=>by
 cases b <;> first | rfl | cases h
theorem atI_len {α β:Type} {xs:List α} {ys:List β} {i:Int} {v:α} (hl:ys.length=xs.length) (h:L2.atI xs i=some v):∃ (j:Nat),xs[j]?=some v∧∀ (w:β),ys[j]?=some w→L2.atI ys i=some w:=by
 unfold L2.atI at h ⊢
 rw [hl]
 cases q:ixN xs.length i with
 | none=>rw [q] at h; cases h
 | some j=>rw [q] at h; exact ⟨j,h,fun w hw=>hw⟩
theorem ix_dct (hu:X.A.units+1 < cLine):IxR X (fun x y H Q=>∃ a v,x = .ref a∧DGet H a y (some v)∧Q v H):=by
 intro value slice pins s σ H x y v u Q I rx ry h hs
 obtain ⟨a,v',e,g,q⟩:=h
 subst e
 obtain rfl:v=Value.ref a:=rx
 exact tail_any (dict_typeIs I g) PySem.F.slot_dict_getitem.lookup (d_getItem hu I g ry fun w' s' I' r=>⟨v',H,I',r,q⟩) hs
theorem snd_idx (h:Hyp W X n C Wx) (ha:PE X a (rE W C Wx H0 A)) (hb:PE X b (rE W C Wx H0 B)) (hs:notSl b=true):PE X (.Subscript a b pos) (rE W C Wx H0 (.idx A B)):=by
 refine ⟨fun pins s σ H Q I ⟨e,μ,σd,st,lo,q⟩=>?_⟩
 have hu:X.A.units+1 < cLine:=by have:=h.room.un; omega
 refine (pe_ix (((ix_list.or ix_tup).or (ix_dct hu)).or ix_str) ha hb (plain_ix hs)).run pins s σ H Q I (rE.at st lo (Aft.bind q) fun d m e' H' v _ st' lo' r hv=>rE.at st' lo' (Aft.bind r) fun d2 m2 e2 H2 v2 x2 st2 lo2 r2 hv2=>?_)
 have r2:Aft W e2 H2 (match items m2 d,d2 with | some xs,.int i=>(match nth xs i with | some v => .ok v m2 | none => .stuck) | none,.str s=>ixDct d s m2 | none,.int i=>ixStr d i m2 | _,_ => .stuck) (fun d _ e' H'=>∀ v,RepH W e' H' d v→Q v H') (xkA Wx σ):=r2
 cases hi:items m2 d with
 | none =>
  rw [hi] at r2
  cases d2 with
  | str k =>
   have r2:Aft W e2 H2 (ixDct d k m2) (fun d _ e' H'=>∀ v,RepH W e' H' d v→Q v H') (xkA Wx σ):=r2
   cases d with
   | obj o =>
    have r2:Aft W e2 H2 (match (dctAt m2 o).bind fun kvs=>dGet kvs k with | some v => .ok v m2 | none => .stuck) (fun d _ e' H'=>∀ v,RepH W e' H' d v→Q v H') (xkA Wx σ):=r2
    cases hd:dctAt m2 o with
    | none=>rw [hd] at r2; exact r2.elim
    | some kvs =>
     rw [hd] at r2
     have r2:Aft W e2 H2 (match dGet kvs k with | some v => .ok v m2 | none => .stuck) (fun d _ e' H'=>∀ v,RepH W e' H' d v→Q v H') (xkA Wx σ):=r2
     cases hg:dGet kvs k with
     | none=>rw [hg] at r2; exact r2.elim
     | some dv =>
      rw [hg] at r2
      obtain ⟨p,rfl,hp⟩:=hv.ex x2
      obtain ⟨ks,hks,hrd⟩:=dct_at st2 hp hd
      obtain ⟨w,w1,w2⟩:=hrd.get hg
      cases (show v2 = .str k from hv2)
      exact .inl (.inr ⟨p,w,rfl,by rw [← w1]; exact DGet.k (k:=.inr k) hks,r2.now st2 w (.to w2)⟩)
   | _=>exact r2.elim
  | int i =>
   have r2:Aft W e2 H2 (ixStr d i m2) (fun d _ e' H'=>∀ v,RepH W e' H' d v→Q v H') (xkA Wx σ):=r2
   cases d with
   | str z =>
    have r2:Aft W e2 H2 (if z.length≤16777216 then (match L2.atI z.cps.toList i with | some c => .ok (.str ⟨#[c]⟩) m2 | none => .stuck) else .stuck) (fun d _ e' H'=>∀ v,RepH W e' H' d v→Q v H') (xkA Wx σ):=r2
    by_cases hz:z.length≤16777216
    ·rw [if_pos hz] at r2
     cases ha:L2.atI z.cps.toList i with
     | none=>rw [ha] at r2; exact r2.elim
     | some c =>
      rw [ha] at r2
      cases (show v = .str z from hv)
      cases (show v2 = .int i from hv2)
      exact .inr ⟨z,i,c,rfl,rfl,by rw [sizeLine_eq]; exact hz,ha,r2.now st2 _ rfl⟩
    ·rw [if_neg hz] at r2; exact r2.elim
   | _=>exact r2.elim
  | _=>exact r2.elim
 | some xs =>
  rw [hi] at r2
  cases d2 with
  | int i =>
   have r2:Aft W e2 H2 (match nth xs i with | some v => .ok v m2 | none => .stuck) (fun d _ e' H'=>∀ v,RepH W e' H' d v→Q v H') (xkA Wx σ):=r2
   cases hn:nth xs i with
   | none=>rw [hn] at r2; exact r2.elim
   | some d3 =>
    rw [hn] at r2
    obtain ⟨p,vs,rfl,h1,h2⟩:=items_at h st2 (hv.ex x2) hi
    obtain ⟨j,hj,hall⟩:=atI_len (ys:=vs) h2.length hn
    obtain ⟨w,hw1,hw2⟩:=h2.get hj
    have fin:=r2.now st2 w (.to hw2)
    rcases h1 with h1 | h1
    ·exact .inl (.inl (.inr ⟨p,vs,i,w,rfl,hv2,h1,hall w hw1,fin⟩))
    ·exact .inl (.inl (.inl ⟨p,vs,i,w,rfl,hv2,h1,hall w hw1,fin⟩))
  | _=>exact r2.elim
end
end Ev
set_option maxRecDepth 100000
set_option maxHeartbeats 2000000
namespace Ev
open PySem PySem.Spec PyProof.Rows L2
section
variable {W:Wd} {X:Cx} {n:Nat} {C:Cl} {Wx:WX} {H0:En} {pins:List (Addr×Obj)} {σ:L2.St} {H H1:Hp} {s:Shared} {e e1:Em} {μ:Mu} {a b c:Expr} {A B D':E} {pos p:Pos} {es:List Expr} {ys:Es}
theorem Aft.later {α:Type} {r:Res α} {K:α→Mu→Em→Hp→Prop} {E:XK} (x:Ex e H e1 H1) (q:Aft W e H r K E):Aft W e1 H1 r K E:=by
 cases r with
 | ok a m=>exact fun e' H' y st=>q e' H' (x.trans y) st
 | exc c fs m=>exact fun e' H' cls d y st z=>q e' H' cls d (x.trans y) st z
 | stuck=>exact q.elim
theorem St0.grown (st:St0 W e μ H) (k:∀ b u,H b=some u→H1 b=some u):Ex e H e H1∧St0 W e μ H1:=by
 have x:Ex e H e H1:=⟨fun _ _ q=>q,fun _ _ q=>q,fun _ _ q => .inl q,fun _ _ q => .inl q,fun b u q _=>k b u q,fun b u q=>⟨u,k b u q⟩⟩
 refine ⟨x,⟨fun b u q=>k b u (st.sub b u q),fun i u q=>?_,st.out,st.inj,st.free⟩⟩
 obtain ⟨b,hb,hr⟩:=st.cell i u q
 obtain ⟨w,hw⟩:=st.rH hb
 exact ⟨b,hb,hr.ex x (by rw [k b w hw,hw])⟩
theorem St0.frozenAt (st:St0 W e μ H) {a:Addr} (o:HO) (hg:e.G a=none) (hr:∀ i,e.r i≠some a):St0 W ⟨upd e.G a o,e.r⟩ μ (upd H a o):=by
 have mono:∀ b u,e.G b=some u→upd e.G a o b=some u:=fun b u q=>by rw [upd_ne (ne_of_none q hg)]; exact q
 refine ⟨fun b u q=>?_,fun i u q=>?_,st.out,st.inj,fun i b q=>?_⟩
 ·by_cases hb:b=a
  ·subst hb
   have q:upd e.G b o b=some u:=q
   rw [upd_same] at q ⊢; exact q
  ·have q:upd e.G a o b=some u:=q
   rw [upd_ne hb] at q ⊢; exact st.sub b u q
 ·obtain ⟨b,hb,hz⟩:=st.cell i u q
  have hba:b≠a:=fun z=>hr i (by rw [← z]; exact hb)
  refine ⟨b,hb,?_⟩
  cases u with
  | lst xs =>
   obtain ⟨vs,h1,h2⟩:=hz
   exact ⟨vs,by rw [upd_ne hba]; exact h1,RepL.mono (e:=e) (e':=⟨upd e.G a o,e.r⟩) mono (fun _ _ q=>q) _ _ h2⟩
  | ins c fs =>
   obtain ⟨dx,gs,j,h1,h2,hx,h3,h4⟩:=hz
   exact ⟨dx,gs,j,by rw [upd_ne hba]; exact h1,h2,hx,⟨fun k d h=>let ⟨a,v,b,c⟩:=h3.at_ k d h; ⟨a,v,b,Rep.mono (e:=e) (e':=⟨upd e.G _ o,e.r⟩) mono (fun _ _ q=>q) _ _ c⟩,h3.no⟩,h4⟩
  | dct kvs =>
   obtain ⟨ks,h1,h2⟩:=hz
   exact ⟨ks,by rw [upd_ne hba]; exact h1,RepD.mono (e:=e) (e':=⟨upd e.G a o,e.r⟩) mono (fun _ _ q=>q) h2⟩
  | exn c fs =>
   obtain ⟨dx,gs,j,h1,h2,hx,h4,h3⟩:=hz
   exact ⟨dx,gs,j,by rw [upd_ne hba]; exact h1,mono _ _ h2,hx,h4,⟨fun k d h=>let ⟨a,v,b,c⟩:=h3.at_ k d h; ⟨a,v,b,Rep.mono (e:=e) (e':=⟨upd e.G _ o,e.r⟩) mono (fun _ _ q=>q) _ _ c⟩,h3.no⟩⟩
 ·show upd e.G a o b=none
  rw [upd_ne (fun z=>hr i (by rw [← z]; exact q))]; exact st.free i b q
theorem args_call {f:Value} {first:List Value} {Q:VK} (hk:PySem.W.keepIn X.K f=true) (hns:es.all noStar=true) (hnil:es=[]→ys = .nil) (ha:PA X es (rA W C Wx H0 ys)) {σd:Sg} (I:Inv X pins σ H s) (st:St0 W e μ H) (lo:Lo W e H0 σd σ H) {R:List D→Mu→Em→Hp→Prop}
  (q:Aft W e H (evEs C ys σd μ) R (xkA Wx σ))
  (k:∀ ds m e' H' vs us s1,Ex e H e' H'→St0 W e' m H'→RepHL W e' H' ds vs→Inv X pins σ H' s1→Vals vs us→R ds m e' H'→wpAny (model X.prog X.w) X.A (call f (first++us)) (EP X pins σ Q) X.xe s1) :
  wpAny (model X.prog X.w) X.A (callWith pos f first (backTo pos (starEach es X.env)) []) (EP X pins σ Q) X.xe s:=by
 cases es with
 | nil =>
  cases hnil rfl
  exact PySem.W.callWith_K0 I.kIn hk (k [] μ e H [] [] s (Ex.refl e H) st rfl I .nil (q.now st))
 | cons x xs =>
  rw [List.all_cons,Bool.and_eq_true] at hns
  refine PySem.W.callWith_K (h₀:=X.base) I.ok.mod.kin hk (thn (ha.run pos pins s σ H (fun vs H'=>∃ ds m e',Ex e H e' H'∧St0 W e' m H'∧RepHL W e' H' ds vs∧R ds m e' H') I (rA.at st lo q fun d m e' H' v x st' _ r hv=>⟨d,m,e',x,st',hv,r⟩)) fun us s1 ⟨vs,H1,I1,r,ds,m,e',x,st',hv,rr⟩=>⟨I1.kIn,?_⟩) (star_no hns.1) (any_no hns.2)
  exact k ds m e' H1 vs us s1 x st' hv I1 r rr
theorem snd_call (h:Hyp W X n C Wx) {f:Nat} {x:Str} (hg:Gl X x) (hl:(W.T.fns[f]?).map (·.loc)=some (x,none)) (hd:(x == ("__debug__" : Str))=false) (hns:es.all noStar=true) (hnil:es=[]→ys = .nil) (ha:PA X es (rA W C Wx H0 ys)) :
  PE X (.Call (.Name x p) es [] pos) (rE W C Wx H0 (.call f ys)):=by
 refine ⟨fun pins s σ H Q I ⟨e,μ,σd,st,lo,q⟩=>?_⟩
 cases hi:W.T.fns[f]? with
 | none=>rw [hi] at hl; cases hl
 | some i =>
  rw [hi] at hl
  have hl:i.loc=(x,none):=by simpa using hl
  obtain ⟨h1,h2⟩:=h.txt.glob f i x hi hl
  refine wpAny_Call_Name_kw (ld_glob (u:=.ref (fadr W.K W.T i.loc)) I hg (by rw [h.mg]; exact h1) ?_ hd)
  refine args_call (first:=[]) (by rw [h.K]; exact h2) hns hnil ha I st lo (Aft.bind q) fun ds m e' H' vs us s1 x' st' hv I' r z=>?_
  split at z
  ·rename_i hnb
   rcases h.call f ds m with hs | ⟨i',hi',_,fp⟩
   ·rw [hs] at z; exact z.elim
   ·rw [hi] at hi'; cases hi'
    exact run_fnW h h.room rfl rfl rfl fp I' r st' (RepHL.of hnb hv) (.of z)
  ·exact z.elim
theorem meth_eval2 {o:Expr} {m:Str} {apos:Pos} {env:Env} (hl:(apos.endLine == pos.line)=true) (hn:es.all noStar=true) (h30:decide (es.length < 30)=true) :
  eval (.Call (.Attribute o m apos) es [] pos) env=(do
   let ov ← attributeBase o m env (eval o env)
   standAt apos.atName
   let (f,first) ← holding [ov] (getMethod ov m (do return (← importBound o env).getD true))
   callWith pos f first (backTo pos (starEach es env)) (backToKw pos (keywordEach [] env))):=by
 have e0:eval (.Call (.Attribute o m apos) es [] pos) env=(do
   let ov ← attributeBase o m env (eval o env)
   standAt apos.atName
   methodCall o m apos pos env ov (es.length+0) (backTo pos (starEach es env)) (backToKw pos (keywordEach [] env))):=by rfl
 have e1:methodCallForm (es.length+0) (backTo pos (starEach es env)) (backToKw pos (keywordEach [] env))=true:=by
  have a1:(backTo pos (starEach es env)).all (fun p=>!p.1)=true:=by
   have z:=any_no (env:=env) (pos:=pos) hn
   rw [List.any_eq_false] at z
   rw [List.all_eq_true]
   intro q hq
   have:=z q hq
   simpa using this
  unfold methodCallForm
  rw [a1]
  simp [keywordEach,backToKw]
  exact of_decide_eq_true h30
 rw [e0]
 unfold methodCall
 rw [e1]
 unfold calleeOf methodCallPos
 simp only [if_true,hl,Bool.not_true,Bool.false_or]
 rfl
theorem meth_eval {o:Expr} {m:Str} {apos:Pos} {env:Env} (hb:baseOk o=true) (hl:(apos.endLine == pos.line)=true) (hn:es.all noStar=true) (h30:decide (es.length < 30)=true) :
  eval (.Call (.Attribute o m apos) es [] pos) env=(do
   let ov ← eval o env
   standAt apos.atName
   let (f,first) ← holding [ov] (getMethod ov m (do return (← importBound o env).getD true))
   callWith pos f first (backTo pos (starEach es env)) (backToKw pos (keywordEach [] env))):=by
 rw [meth_eval2 hl hn h30,base_ok hb]
theorem RoomH.makeK {k:Nat} {A:Around} (r:L2H.RoomH (k+1) A) (C:Addr) (us:List Value) (kw:List (Str×Value)):L2H.RoomH k (A.under (.builtin "type.__call__" ⟨.ref C::us,kw⟩)):=
 ⟨by have:=r.dp; rw [make_depth]; omega,by have:=r.un; rw [make_units]; omega⟩
theorem make_guards {A:Around} {CA:Addr} {us:List Value} {kw:List (Str×Value)} (h:A.guards=some []):(A.under (.builtin "type.__call__" ⟨.ref CA::us,kw⟩)).guards=some []:=by
 show pushGuards (Code.guards (.builtin "type.__call__" ⟨.ref CA::us,kw⟩)) A.guards=some []
 have e:Code.guards (.builtin "type.__call__" ⟨.ref CA::us,kw⟩)=[]:=if_neg (show ¬ (guardIds.contains "type.__call__" = true) by decide)
 rw [h,e]; rfl
theorem run_makeW (h:Hyp W X n C Wx) {CA f:Addr} {fd:FuncData} {ps:List Str} {sp:Sp} {k:Nat} {Q:VK} {us ds:List Value} {vs dvs:List V} {us0:List Value} {kw:List (Str×Value)} (M:Mk X.K CA f) (F:FnG C.hot C.rep X.prog X.w X.K X.mg X.base (L2N.CX X.prog X.w) k f fd ps sp) (hr:L2H.RoomH (k+1) X.A) (hb:∀ (s':Shared) (v:Value),X.K.In s'.heap→(v::us++ds).length=ps.length→BindsTo s' fd ⟨v::us0,kw⟩ (ps.zip (v::us++ds))) (hd:Vals dvs ds)
  (I:Inv X pins σ H s) (r:Vals vs us)
  (hsp:∀ x dx,H x=none→H dx=none→dx≠x→sp (.ref x::(vs++dvs)) (upd (upd H dx (.own x)) x (.ins CA dx [])) (fun v H2=>v = .non∧Q (.ref x) H2) (xkA Wx σ)) :
  wpAny (model X.prog X.w) X.A (call (.ref CA) us0 kw) (EP X pins σ Q) X.xe s:=by
 have hq:=hsp (s.heap.objs.size+1) s.heap.objs.size (I.hok.fresh (Nat.le_succ _)) (I.hok.fresh (Nat.le_refl _)) (Nat.ne_of_lt (Nat.lt_succ_self _))
 have I2:=Inv.made (C:=CA) I
 have r2:Vals (V.ref (s.heap.objs.size+1)::(vs++dvs)) (Value.ref (s.heap.objs.size+1)::(us++ds)):=.cons rfl (r.append hd)
 have hl:(Value.ref (s.heap.objs.size+1)::us++ds).length=ps.length:=by
  have e:=r2.length
  rw [F.len _ _ _ _ hq] at e
  exact e.symm
 refine wpAny_call (make_map (f:=f) I.kIn M.makes M.init (beq_iff_eq.mp M.fn) (codeAny_mono (F.run _ X.stack _ _ ⟨Value.ref (s.heap.objs.size+1)::us0,kw⟩ (Value.ref (s.heap.objs.size+1)::(us++ds)) _ _ _ (fun z=>make_guards (h.guards z)) (RoomH.makeK hr CA us0 kw) (h.lull rfl I2)
  (I2.env0.make CA us0 kw) (hb _ (Value.ref (s.heap.objs.size+1)) I2.kIn hl) r2 hq) fun r s' hq'=>?_))
 cases r with
 | error er=>exact h.takes _ _ (L2N.XE.of_call I2 (fun _ _ _ z=>z) hq')
 | ok fl =>
  cases fl with
  | ret u =>
   obtain ⟨v,H',I3,rv,ev,q3⟩:=I2.after hq'
   subst ev
   exact ⟨rv,⟨V.ref (s.heap.objs.size+1),H',I3,rfl,q3⟩⟩
  | next=>exact False.elim hq'
  | brk=>exact False.elim hq'
  | cont=>exact False.elim hq'
theorem make_okG (h:Hyp W X n C Wx) {c:Nat} {k:ClI} {ds:List D} {vs:List V} {us us0:List Value} {kw:List (Str×Value)} {Q:VK} (hk:W.T.cls[c]?=some k)
  (hB:∀ (i:FnI) (fd:FuncData) (dd:List Value),W.T.fns[k.init]?=some i→Binds W.K fd (i.names.take i.np) dd→KwB W.K fd (i.names.take i.np)→∀ (s':Shared) (v:Value),W.K.In s'.heap→(v::us++dd).length=(i.names.take i.np).length→BindsTo s' fd ⟨v::us0,kw⟩ ((i.names.take i.np).zip (v::us++dd))) (I:Inv X pins σ H s) (st:St0 W e μ H) (rd:RepL W e ds vs) (r:Vals vs us)
  (q:Got W e H (C.make c ds μ) Q (xkA Wx σ)):wpAny (model X.prog X.w) X.A (call (.ref (W.ca c)) us0 kw) (EP X pins σ Q) X.xe s:=by
 rcases h.make with hs | ⟨k0,hk0,hM⟩
 ·rw [hs] at q; exact q.elim
 ·rcases hM c ds μ with z | ⟨k',i,hk',hx,hi,ho,z⟩
  ·rw [z] at q; exact q.elim
  ·rw [hk] at hk'; cases hk'
   have cf:=h.txt.cls c k hk hx
   have M:=cf.make i hi
   have M':Mk X.K (W.ca c) (fadr W.K W.T i.loc):=by rw [h.K]; exact M
   rcases z with ⟨hv,ip⟩ | ⟨hv,G,fp,hG⟩
   ·-- a value class
    have ha:∃ a,argsOf i (.non::ds)=some a:=by
     cases z:argsOf i (.non::ds) with
     | some a=>exact ⟨a,rfl⟩
     | none=>rw [ip.miss ds μ z] at q; exact q.elim
    obtain ⟨a,ha⟩:=ha
    obtain ⟨l1,l2,ea,la⟩:=argsOf_full ha
    obtain ⟨fd,ok,bi,kb⟩:=ip.ok
    obtain ⟨dd,dvs,rv,rl,bd⟩:=bi ((D.non::ds).length+i.dfl.length - i.np) (by omega)
    have F':FnG C.hot C.rep X.prog X.w X.K X.mg X.base (L2N.CX X.prog X.w) (k0+34) (fadr W.K W.T i.loc) fd (i.names.take i.np) (spI W c k.flds i.np (C.make c)):=by rw [h.prog,h.w,h.K,h.mg,h.base]; exact ok
    have eq1:argsOf i (.non::ds)=some (.non::(ds++i.dfl.drop ((D.non::ds).length+i.dfl.length - i.np))):=by rw [ha,ea]; rfl
    rw [ip.fill ds μ _ eq1] at q
    refine run_makeW h M' F' (h.room.mono (by omega)) (fun s' v hK hl=>hB i fd dd hi bd kb s' v (by rw [← h.K]; exact hK) hl) rv I r fun x dx hx0 hdx hne=>?_
    have k1:∀ b u,H b=some u→upd H dx (.own x) b=some u:=fun b u q=>by rw [upd_ne (ne_of_none q hdx)]; exact q
    obtain ⟨xg,stg⟩:=st.grown (H1:=upd H dx (.own x)) k1
    have ew:without_ (upd (upd H dx (.own x)) x (.ins (W.ca c) dx [])) x=upd H dx (.own x):=by
     funext b
     unfold without_
     by_cases hb:b=x
     ·rw [if_pos hb,hb,upd_ne (Ne.symm hne)]; exact hx0.symm
     ·rw [if_neg hb,upd_ne hb]
    have gx:e.G x=none:=by
     cases z:e.G x with
     | none=>rfl
     | some u=>rw [st.sub x u z] at hx0; cases hx0
    have rx:∀ i,e.r i≠some x:=fun i z=>by
     obtain ⟨u,hu⟩:=st.rH z
     rw [hx0] at hu; cases hu
    refine ⟨e,μ,ds++i.dfl.drop ((D.non::ds).length+i.dfl.length - i.np),x,dx,vs++dvs,rfl,?_,upd_same,gx,rx,by rw [ew]; exact stg,rd.append (rl e),?_⟩
    ·have:=(rl e).length
     have h3:=rd.length
     rw [List.length_drop] at this
     simp only [List.length_cons,List.length_append] at this l1 l2 ⊢
     omega
    ·rw [ew]
     have x1:∀ {e':Em} {H':Hp} {gs:List (Str×V)},Ex e (upd H dx (.own x)) e' H'→Ex e H e' (upd H' x (.ins (W.ca c) dx gs)):=fun {e' H' gs} x'=>by
      have y:=xg.trans x'
      refine ⟨y.g,y.r,y.gn,y.rn,fun b u q hn=>?_,fun b u q=>?_⟩
      ·rw [upd_ne (ne_of_none q hx0)]; exact y.keep b u q hn
      ·rw [upd_ne (ne_of_none q hx0)]; exact y.dom b u q
     cases hres:C.make c (ds++i.dfl.drop ((D.non::ds).length+i.dfl.length - i.np)) μ with
     | stuck=>rw [hres] at q; exact q.elim
     | exc c' fs m =>
      rw [hres] at q
      intro e' H' gs cls d x' st' z hgx hrx hdx'
      have st2:St0 W e' m (upd H' x (.ins (W.ca c) dx gs)):=by
       refine ⟨fun b u q=>?_,fun i u q=>?_,st'.out,st'.inj,st'.free⟩
       ·rw [upd_ne (ne_of_none q hgx)]; exact st'.sub b u q
       ·obtain ⟨b,hb,hz⟩:=st'.cell i u q
        have hba:b≠x:=fun z=>hrx i (by rw [← z]; exact hb)
        refine ⟨b,hb,?_⟩
        cases u with
        | lst xs =>
         obtain ⟨vs,h1,h2⟩:=hz
         exact ⟨vs,by rw [upd_ne hba]; exact h1,h2⟩
        | ins c2 fs2 =>
         obtain ⟨dx2,gs2,j,h1,h2⟩:=hz
         exact ⟨dx2,gs2,j,by rw [upd_ne hba]; exact h1,h2⟩
        | dct kvs =>
         obtain ⟨ks,h1,h2⟩:=hz
         exact ⟨ks,by rw [upd_ne hba]; exact h1,h2⟩
        | exn c2 fs2 =>
         obtain ⟨dx2,gs2,j,h1,h2⟩:=hz
         exact ⟨dx2,gs2,j,by rw [upd_ne hba]; exact h1,h2⟩
      obtain ⟨z1,dx',gs',i',z2,z3,z4⟩:=z
      exact q e' _ cls d (x1 x') st2 ⟨z1,dx',gs',i',z2,by rw [upd_ne (fun w=>hdx' (by rw [z2,w]))]; exact z3,z4⟩
     | ok d m =>
      rw [hres] at q
      intro e' H' gs ws fs x' st' ed hf hr hgx hrx
      subst ed
      refine ⟨rfl,?_⟩
      have st2:=st'.frozenAt (.ins (W.ca c) dx gs) hgx hrx
      have x2:Ex e H ⟨upd e'.G x (.ins (W.ca c) dx gs),e'.r⟩ (upd H' x (.ins (W.ca c) dx gs)):=by
       have y:=xg.trans x'
       have mono:∀ b u,e'.G b=some u→upd e'.G x (.ins (W.ca c) dx gs) b=some u:=fun b u q=>by rw [upd_ne (ne_of_none q hgx)]; exact q
       refine ⟨fun b u q=>mono b u (y.g b u q),y.r,fun b u q=>?_,y.rn,fun b u q hn=>?_,fun b u q=>?_⟩
       ·by_cases hb:b=x
        ·rw [hb]; exact .inr hx0
        ·have q:upd e'.G x (.ins (W.ca c) dx gs) b=some u:=q
         rw [upd_ne hb] at q; exact y.gn b u q
       ·rw [upd_ne (ne_of_none q hx0)]; exact y.keep b u q hn
       ·rw [upd_ne (ne_of_none q hx0)]; exact y.dom b u q
      have mono:∀ b u,e'.G b=some u→upd e'.G x (.ins (W.ca c) dx gs) b=some u:=fun b u q=>by rw [upd_ne (ne_of_none q hgx)]; exact q
      exact q _ _ x2 st2 (.ref x) ⟨x,dx,gs,ws,k,rfl,upd_same,hk,hx,hf,RepL.mono (e:=e') (e':=⟨upd e'.G x (.ins (W.ca c) dx gs),e'.r⟩) mono (fun _ _ q=>q) _ _ hr⟩
   ·-- a class whose instances lie in the store
    rw [hG] at q
    have ha:∃ a,argsOf i (.obj μ.length::ds)=some a:=by
     cases z:argsOf i (.obj μ.length::ds) with
     | some a=>exact ⟨a,rfl⟩
     | none=>rw [fp.miss _ _ z] at q; exact q.elim
    obtain ⟨a,ha⟩:=ha
    obtain ⟨l1,l2,ea,la⟩:=argsOf_full ha
    obtain ⟨fd,ok,bi,kb⟩:=fp.ok
    obtain ⟨dd,dvs,rv,rl,bd⟩:=bi ((D.obj μ.length::ds).length+i.dfl.length - i.np) (by omega)
    have F':FnG C.hot C.rep X.prog X.w X.K X.mg X.base (L2N.CX X.prog X.w) (k0+34) (fadr W.K W.T i.loc) fd (i.names.take i.np) (spF W i.np G):=by rw [h.prog,h.w,h.K,h.mg,h.base]; exact ok
    refine run_makeW h M' F' (h.room.mono (by omega)) (fun s' v hK hl=>hB i fd dd hi bd kb s' v (by rw [← h.K]; exact hK) hl) rv I r fun x dx hx0 hdx hne=>?_
    have k1:∀ b u,H b=some u→upd (upd H dx (.own x)) x (.ins (W.ca c) dx []) b=some u:=fun b u q=>by rw [upd_ne (ne_of_none q hx0),upd_ne (ne_of_none q hdx)]; exact q
    obtain ⟨e2,x2,st2,h1,h2⟩:=st.celled (so:=.ins c []) (a:=x) hx0 upd_same k1 fun e2 x2=>⟨dx,[],k,upd_same,hk,hx,⟨fun _ _ z=>(nomatch z),fun _ _=>rfl⟩,Nat.zero_le _⟩
    refine ⟨e2,μ++[.ins c []],a,?_,st2,?_,?_⟩
    ·have:=(rl e2).length
     have h3:=rd.length
     rw [List.length_drop] at this
     simp only [List.length_cons,List.length_append] at this l1 l2 ⊢
     omega
    ·rw [ea]; exact RepVL.to (RepL.cons (d:=.obj μ.length) ⟨x,rfl,h1⟩ ((rd.ex x2).append (rl e2)))
    ·rw [← fp.fill _ _ a ha]
     refine (Aft.later x2 (Aft.bind q)).imp fun d m e' H' x' st' z v hv=>?_
     cases d with
     | non=>exact ⟨hv,z.now st' (.ref x) ⟨x,rfl,x'.r _ _ h1⟩⟩
     | _=>exact z.elim
end
end Ev
set_option maxRecDepth 100000
set_option maxHeartbeats 2000000
namespace Ev
open PySem PySem.Spec PyProof.Rows L2
section
variable {W:Wd} {X:Cx} {n:Nat} {C:Cl} {Wx:WX} {H0:En} {pins:List (Addr×Obj)} {σ:L2.St} {H:Hp} {s:Shared} {e:Em} {μ:Mu}
theorem consP_some {p:Option PyData} {ps:Option (List PyData)} {qs:List PyData} (h:consP p ps=some qs):∃ a as,p=some a∧ps=some as∧qs=a::as:=by
 cases p with
 | none=>cases h
 | some a=>cases ps with
  | none=>cases h
  | some as=>cases h; exact ⟨a,as,rfl,rfl,rfl⟩
mutual
theorem toPy_plain:∀ (d:D) (p:PyData),toPy d=some p→p.hasDict=false
 | .non,_,h=>by cases h; simp only [PyData.hasDict]
 | .bl _,_,h=>by cases h; simp only [PyData.hasDict]
 | .int _,_,h=>by cases h; simp only [PyData.hasDict]
 | .str _,_,h=>by cases h; simp only [PyData.hasDict]
 | .tup xs,p,h=>by
  have h:(toPys xs).map PyData.tuple=some p:=h
  cases q:toPys xs with
  | none=>rw [q] at h; cases h
  | some ps=>rw [q] at h; cases h; simp only [PyData.hasDict]; exact toPys_plain xs ps q
 | .lst xs,p,h=>by
  have h:(toPys xs).map PyData.list=some p:=h
  cases q:toPys xs with
  | none=>rw [q] at h; cases h
  | some ps=>rw [q] at h; cases h; simp only [PyData.hasDict]; exact toPys_plain xs ps q
 | .ins _ _,_,h=>by cases h
 | .obj _,_,h=>by cases h
 | .bor _ _,_,h=>by cases h
 | .opq,_,h=>by cases h
theorem toPys_plain:∀ (ds:List D) (ps:List PyData),toPys ds=some ps→PyData.hasDictAll ps=false
 | [],_,h=>by cases h; simp only [PyData.hasDictAll]
 | d::ds,_,h=>by
  have h:consP (toPy d) (toPys ds)=some _:=h
  obtain ⟨a,as,h1,h2,rfl⟩:=consP_some h
  simp only [PyData.hasDictAll,toPy_plain d a h1,toPys_plain ds as h2,Bool.or_false]
end
mutual
theorem reads_of (h:Hyp W X n C Wx) (I:Inv X pins σ H s) (st:St0 W e μ H):∀ (d:D) (v:V) (u:Value) (p:PyData),Rep W e d v→RelV v u→toPy d=some p→∃ as,Reads s.heap u p as
 | .non,v,u,p,r,q,hp=>by cases hp; cases (show v = .non from r); cases q; exact ⟨_,.none⟩
 | .bl b,v,u,p,r,q,hp=>by cases hp; cases (show v = .bl b from r); cases q; exact ⟨_,.bool b⟩
 | .int i,v,u,p,r,q,hp=>by cases hp; cases (show v = .int i from r); obtain ⟨t,rfl⟩:=q; exact ⟨_,.int i t⟩
 | .str z,v,u,p,r,q,hp=>by cases hp; cases (show v = .str z from r); obtain ⟨t,rfl⟩:=q; exact ⟨_,.str z t⟩
 | .tup xs,v,u,p,r,q,hp=>by
  obtain ⟨a,vs,rfl,h1,h2⟩:=r
  cases q
  have hp:(toPys xs).map PyData.tuple=some p:=hp
  cases hq:toPys xs with
  | none=>rw [hq] at hp; cases hp
  | some ps =>
   rw [hq] at hp; cases hp
   obtain ⟨its,rv,⟨o,ho,hc,nn,hd⟩,_⟩:=I.tuple (h.K▸sqT_sub h1 st.sub)
   obtain ⟨as,ra⟩:=readsAll_of h I st xs vs its ps h2 rv hq
   exact ⟨as,.tuple ho hc hd ra⟩
 | .lst xs,v,u,p,r,q,hp=>by
  obtain ⟨a,vs,rfl,h1,h2⟩:=r
  cases q
  have hp:(toPys xs).map PyData.list=some p:=hp
  cases hq:toPys xs with
  | none=>rw [hq] at hp; cases hp
  | some ps =>
   rw [hq] at hp; cases hp
   obtain ⟨its,rv,⟨o,nn,ho,hc,_,hd⟩,_⟩:=I.list (h.K▸h1.sq st.sub)
   obtain ⟨as,ra⟩:=readsAll_of h I st xs vs its ps h2 rv hq
   exact ⟨a::as,.list ho hc hd ra⟩
 | .ins _ _,_,_,_,_,_,hp=>by cases hp
 | .obj _,_,_,_,_,_,hp=>by cases hp
 | .bor _ _,_,_,_,_,_,hp=>by cases hp
theorem readsAll_of (h:Hyp W X n C Wx) (I:Inv X pins σ H s) (st:St0 W e μ H):∀ (ds:List D) (vs:List V) (us:List Value) (ps:List PyData),RepL W e ds vs→Vals vs us→toPys ds=some ps→∃ as,ReadsAll s.heap us ps as
 | [],vs,us,ps,r,q,hp=>by
  cases hp
  rw [show vs=[] from r] at q
  cases q
  exact ⟨_,.nil⟩
 | d::ds,vs,us,ps,r,q,hp=>by
  obtain ⟨v,vs',rfl,r1,r2⟩:=r
  have hp:consP (toPy d) (toPys ds)=some ps:=hp
  obtain ⟨p,ps',e1,e2,rfl⟩:=consP_some hp
  cases q with
  | cons q1 q2 =>
   obtain ⟨as,ra⟩:=reads_of h I st d v _ p r1 q1 e1
   obtain ⟨bs,rb⟩:=readsAll_of h I st ds vs' _ ps' r2 q2 e2
   exact ⟨_,.cons ra rb⟩
end
end
end Ev
set_option maxRecDepth 100000
set_option maxHeartbeats 2000000
namespace Ev
open PySem PySem.Spec PyProof.Rows L2
section
variable {W:Wd} {X:Cx} {n:Nat} {C:Cl} {Wx:WX} {pins:List (Addr×Obj)} {σ:L2.St} {H:Hp} {s:Shared} {e:Em} {μ:Mu}
theorem Ex.priv {e':Em} {H':Hp} (x:Ex e H e' H') {q:Addr} {o:HO} (h:H q=some o) (p1:e.G q=none) (p2:∀ j,e.r j≠some q):H' q=some o∧e'.G q=none∧∀ j,e'.r j≠some q:=by
 refine ⟨x.keep q o h p2,?_,fun j z=>?_⟩
 ·cases z:e'.G q with
  | none=>rfl
  | some u =>
        rcases x.gn q u z with z | z
        ·rw [p1] at z; cases z
        ·rw [h] at z; cases z
 ·rcases x.rn j q z with z | z
  ·exact p2 j z
  ·rw [h] at z; cases z
theorem St0.privUpd (st:St0 W e μ H) {q:Addr} (o:HO) (p1:e.G q=none) (p2:∀ j,e.r j≠some q):St0 W e μ (upd H q o):=by
 refine ⟨fun b u z=>by rw [upd_ne (ne_of_none z p1)]; exact st.sub b u z,fun i u z=>?_,st.out,st.inj,st.free⟩
 obtain ⟨b,hb,hr⟩:=st.cell i u z
 have hn:b≠q:=fun w=>p2 i (by rw [← w]; exact hb)
 refine ⟨b,hb,?_⟩
 cases u with
 | lst xs =>
  obtain ⟨vs,h1,h2⟩:=hr
  exact ⟨vs,by rw [upd_ne hn]; exact h1,h2⟩
 | ins c fs =>
  obtain ⟨dx,gs,j,h1,h2⟩:=hr
  exact ⟨dx,gs,j,by rw [upd_ne hn]; exact h1,h2⟩
 | dct kvs =>
  obtain ⟨ks,h1,h2⟩:=hr
  exact ⟨ks,by rw [upd_ne hn]; exact h1,h2⟩
 | exn c fs =>
  obtain ⟨dx,gs,j,h1,h2⟩:=hr
  exact ⟨dx,gs,j,by rw [upd_ne hn]; exact h1,h2⟩
theorem Ex.privUpd {e':Em} {H':Hp} (x:Ex e H e' H') {q:Addr} (o:HO) (h:H q=none):Ex e H e' (upd H' q o):=
 ⟨x.g,x.r,x.gn,x.rn,fun b u z hn=>by rw [upd_ne (ne_of_none z h)]; exact x.keep b u z hn,fun b u z=>by rw [upd_ne (ne_of_none z h)]; exact x.dom b u z⟩
theorem K_free (h:Hyp W X n C Wx) (I:Inv X pins σ H s) {a:Addr} {o:HO} (hH:H a=some o) {ob:Obj} (hK:W.K.lookup a=some ob):False:=by
 have:=(I.bs a ob (I.mod.kin a ob (by rw [h.K]; exact hK))).2
 rw [hH] at this; cases this
theorem tup_lst (h:Hyp W X n C Wx) (I:Inv X pins σ H s) (st:St0 W e μ H) {a:Addr} {vs ws:List V} (x:SqT W.K e.G a vs) (y:SqX W.K e.G a ws):False:=by
 rcases x with (x | ⟨o,x⟩) | ⟨o,its,k,x1,x2,_⟩
 ·rcases y with (y | ⟨o',y⟩) | ⟨its',k',y1,_⟩
  ·rw [x] at y; cases y
  ·rw [x] at y; cases y
  ·exact K_free h I (st.sub _ _ x) y1
 ·rcases y with (y | ⟨o',y⟩) | ⟨its',k',y1,_⟩
  ·rw [x] at y; cases y
  ·rw [x] at y; cases y
  ·exact K_free h I (st.sub _ _ x) y1
 ·rcases y with (y | ⟨o',y⟩) | ⟨its',k',y1,_⟩
  ·exact K_free h I (st.sub _ _ y) x1
  ·exact K_free h I (st.sub _ _ y) x1
  ·rw [x1] at y1; cases y1; simp at x2
theorem tup_oth (h:Hyp W X n C Wx) (I:Inv X pins σ H s) (st:St0 W e μ H) {a:Addr} {vs:List V} (x:SqT W.K e.G a vs):(∀ c dx gs,e.G a≠some (.ins c dx gs))∧∀ i,e.r i≠some a:=by
 rcases x with (x | ⟨o,x⟩) | ⟨o,its,k,x1,x2,_⟩
 ·exact ⟨(fun c dx gs z=>by rw [x] at z; cases z),(fun i z=>by rw [st.free i a z] at x; cases x)⟩
 ·exact ⟨(fun c dx gs z=>by rw [x] at z; cases z),(fun i z=>by rw [st.free i a z] at x; cases x)⟩
 ·exact ⟨fun c dx gs z=>K_free h I (st.sub _ _ z) x1,fun i z=>let ⟨o,q⟩:=st.rH z; K_free h I q x1⟩
theorem lst_oth (h:Hyp W X n C Wx) (I:Inv X pins σ H s) (st:St0 W e μ H) {a:Addr} {vs:List V} (x:SqX W.K e.G a vs):(∀ c dx gs,e.G a≠some (.ins c dx gs))∧∀ i,e.r i≠some a:=by
 rcases x with (x | ⟨o,x⟩) | ⟨its,k,x1,_⟩
 ·exact ⟨(fun c dx gs z=>by rw [x] at z; cases z),(fun i z=>by rw [st.free i a z] at x; cases x)⟩
 ·exact ⟨(fun c dx gs z=>by rw [x] at z; cases z),(fun i z=>by rw [st.free i a z] at x; cases x)⟩
 ·exact ⟨fun c dx gs z=>K_free h I (st.sub _ _ z) x1,fun i z=>let ⟨o,q⟩:=st.rH z; K_free h I q x1⟩
mutual
theorem dpt_eq (h:Hyp W X n C Wx) (I:Inv X pins σ H s) (st:St0 W e μ H):∀ (d d':D) (v:V),Rep W e d v→Rep W e d' v→dpt d=dpt d'
 | .tup xs,d',v,r,q=>by
  obtain ⟨a,vs,rfl,h1,h2⟩:=r
  cases d' with
  | tup ys =>
   obtain ⟨a',ws,hv,g1,g2⟩:=q
   cases hv
   have ev:=I.tuple_inj (h.K▸sqT_sub h1 st.sub) (h.K▸sqT_sub g1 st.sub)
   subst ev
   show dptL xs+1=dptL ys+1
   rw [dptL_eq h I st xs ys vs h2 g2]
  | lst ys=>obtain ⟨a',ws,hv,g1,g2⟩:=q; cases hv; exact (tup_lst h I st h1 g1).elim
  | ins c fs=>obtain ⟨a',dx,gs,ws,i,hv,g1,_⟩:=q; cases hv; exact ((tup_oth h I st h1).1 _ _ _ g1).elim
  | obj i=>obtain ⟨a',hv,g1⟩:=q; cases hv; exact ((tup_oth h I st h1).2 _ g1).elim
  | bor _ _=>exact q.elim
  | opq=>exact q.elim
  | non=>cases (show V.ref a = .non from q)
  | bl b=>cases (show V.ref a = .bl b from q)
  | int b=>cases (show V.ref a = .int b from q)
  | str b=>cases (show V.ref a = .str b from q)
 | .lst xs,d',v,r,q=>by
  obtain ⟨a,vs,rfl,h1,h2⟩:=r
  cases d' with
  | lst ys =>
   obtain ⟨a',ws,hv,g1,g2⟩:=q
   cases hv
   have ev:=I.list_inj (h.K▸h1.sq st.sub) (h.K▸g1.sq st.sub)
   subst ev
   show dptL xs+1=dptL ys+1
   rw [dptL_eq h I st xs ys vs h2 g2]
  | tup ys=>obtain ⟨a',ws,hv,g1,g2⟩:=q; cases hv; exact (tup_lst h I st g1 h1).elim
  | ins c fs=>obtain ⟨a',dx,gs,ws,i,hv,g1,_⟩:=q; cases hv; exact ((lst_oth h I st h1).1 _ _ _ g1).elim
  | obj i=>obtain ⟨a',hv,g1⟩:=q; cases hv; exact ((lst_oth h I st h1).2 _ g1).elim
  | bor _ _=>exact q.elim
  | opq=>exact q.elim
  | non=>cases (show V.ref a = .non from q)
  | bl b=>cases (show V.ref a = .bl b from q)
  | int b=>cases (show V.ref a = .int b from q)
  | str b=>cases (show V.ref a = .str b from q)
 | .non,d',v,r,q=>by
  cases (show v = .non from r)
  cases d' <;> first | rfl | (obtain ⟨a',ws,hv,_⟩:=q; cases hv)
 | .bl b,d',v,r,q=>by
  cases (show v = .bl b from r)
  cases d' <;> first | rfl | (obtain ⟨a',ws,hv,_⟩:=q; cases hv)
 | .int b,d',v,r,q=>by
  cases (show v = .int b from r)
  cases d' <;> first | rfl | (obtain ⟨a',ws,hv,_⟩:=q; cases hv)
 | .str b,d',v,r,q=>by
  cases (show v = .str b from r)
  cases d' <;> first | rfl | (obtain ⟨a',ws,hv,_⟩:=q; cases hv)
 | .ins c fs,d',v,r,q=>by
  obtain ⟨a,dx,gs,vs,i,rfl,h1,_⟩:=r
  cases d' with
  | tup ys=>obtain ⟨a',ws,hv,g1,g2⟩:=q; cases hv; exact ((tup_oth h I st g1).1 _ _ _ h1).elim
  | lst ys=>obtain ⟨a',ws,hv,g1,g2⟩:=q; cases hv; exact ((lst_oth h I st g1).1 _ _ _ h1).elim
  | _=>rfl
 | .obj i,d',v,r,q=>by
  obtain ⟨a,rfl,h1⟩:=r
  cases d' with
  | tup ys=>obtain ⟨a',ws,hv,g1,g2⟩:=q; cases hv; exact ((tup_oth h I st g1).2 _ h1).elim
  | lst ys=>obtain ⟨a',ws,hv,g1,g2⟩:=q; cases hv; exact ((lst_oth h I st g1).2 _ h1).elim
  | _=>rfl
 | .bor _ _,_,_,r,_=>r.elim
 | .opq,_,_,r,_=>r.elim
theorem dptL_eq (h:Hyp W X n C Wx) (I:Inv X pins σ H s) (st:St0 W e μ H):∀ (ds ds':List D) (vs:List V),RepL W e ds vs→RepL W e ds' vs→dptL ds=dptL ds'
 | [],ds',vs,r,q=>by
  rw [show vs=[] from r] at q
  cases ds' with
  | nil=>rfl
  | cons d ds=>obtain ⟨v,r',hv,_⟩:=q; cases hv
 | d::ds,ds',vs,r,q=>by
  obtain ⟨v,r',rfl,h1,h2⟩:=r
  cases ds' with
  | nil=>cases (show v::r'=[] from q)
  | cons d' ds' =>
   obtain ⟨w,r2,hv,g1,g2⟩:=q
   cases hv
   show max (dpt d) (dptL ds)=max (dpt d') (dptL ds')
   rw [dpt_eq h I st d d' v h1 g1,dptL_eq h I st ds ds' r' h2 g2]
end
theorem dpt_mem:∀ {ds:List D} {i:Nat} {d:D},ds[i]?=some d→dpt d≤dptL ds
 | [],_,_,h=>by simp at h
 | d::ds,0,_,h=>by
  simp at h; subst h
  exact Nat.le_max_left _ _
 | d::ds,i+1,_,h=>Nat.le_trans (dpt_mem (ds:=ds) (i:=i) (by simpa using h)) (Nat.le_max_right _ _)
def GC (W:Wd) (e:Em) (k:Nat) (g:List Code):Prop:=∀ id b rest kw,Code.builtin id ⟨.ref b::rest,kw⟩∈g→∃ D',Rep W e D' (.ref b)∧k < dpt D'
theorem GC.ex {e':Em} {H':Hp} {k:Nat} {g:List Code} (x:Ex e H e' H') (c:GC W e k g):GC W e' k g:=fun id b rest kw hm=>let ⟨D',r,l⟩:=c id b rest kw hm; ⟨D',r.ex x,l⟩
theorem GC.mono {j k:Nat} {g:List Code} (c:GC W e k g) (h:j≤k):GC W e j g:=fun id b rest kw hm=>let ⟨D',r,l⟩:=c id b rest kw hm; ⟨D',r,by omega⟩
theorem GC.cons {k:Nat} {g:List Code} {id:String} {a:Addr} {rest:List Value} {kw:List (Str×Value)} {d:D} (c:GC W e k g) (r:Rep W e d (.ref a)) (l:k < dpt d):GC W e k (.builtin id ⟨.ref a::rest,kw⟩::g):=by
 intro id' b rest' kw' hm
 rcases List.mem_cons.mp hm with z | hm
 ·cases z; exact ⟨d,r,l⟩
 ·exact c _ _ _ _ hm
theorem GC.clear (h:Hyp W X n C Wx) (I:Inv X pins σ H s) (st:St0 W e μ H) {k:Nat} {g:List Code} {a:Addr} {d:D} (c:GC W e k g) (r:Rep W e d (.ref a)) (l:dpt d≤k):Clear g a:=by
 intro id v rest kw hm z
 subst z
 obtain ⟨D',r',l'⟩:=c _ _ _ _ hm
 have:=dpt_eq h I st _ _ _ r r'
 omega
structure SubV (X:Cx) (m j:Nat) (A:Around):Prop where
 fr:A.frames=X.A.frames
 hd:A.handled=X.A.handled
 dp:A.depth+3 * m+5+j < recursionLimit
 un:A.units+16 * m+200+2 * j < cLine
theorem SubV.mono {m j k:Nat} {A:Around} (b:SubV X m j A) (h:k≤j):SubV X m k A:=⟨b.fr,b.hd,by have:=b.dp; omega,by have:=b.un; omega⟩
theorem SubV.room {m j:Nat} {A:Around} (b:SubV X m j A):L2H.RoomH m A:=⟨by have:=b.dp; omega,by have:=b.un; omega⟩
theorem depth_list (A:Around) (args:Args):(A.under (.builtin "list.__repr__.loop" args)).depth=A.depth+1:=by
 first | rfl | simp [Around.under,Code.weight,Code.isCreation,Code.isGuard,Code.isCaller,Code.frames,Code.isFrame,guardIds]
theorem depth_tuple (A:Around) (args:Args):(A.under (.builtin "tuple.__repr__" args)).depth=A.depth+1:=by
 first | rfl | simp [Around.under,Code.weight,Code.isCreation,Code.isGuard,Code.isCaller,Code.frames,Code.isFrame,guardIds]
theorem depth_tupleU (A:Around) (args:Args):(A.under (.builtin "tuple.__repr__.under" args)).depth=A.depth+1:=by
 first | rfl | simp [Around.under,Code.weight,Code.isCreation,Code.isGuard,Code.isCaller,Code.frames,Code.isFrame,guardIds]
theorem SubV.list {m j:Nat} {A:Around} (b:SubV X m (j+1) A) (args:Args):SubV X m j (A.under (.builtin "list.__repr__.loop" args)):=
 ⟨b.fr,b.hd,by have:=b.dp; rw [depth_list]; omega,by have:=b.un; rw [units_under_list_loop]; omega⟩
theorem SubV.tuple {m j:Nat} {A:Around} (b:SubV X m (j+1) A) (args:Args):SubV X m j (A.under (.builtin "tuple.__repr__" args)):=
 ⟨b.fr,b.hd,by have:=b.dp; rw [depth_tuple]; omega,by have:=b.un; rw [units_under_tuple_repr]; omega⟩
theorem SubV.tupleU {m j:Nat} {A:Around} (b:SubV X m (j+1) A) (args:Args):SubV X m j (A.under (.builtin "tuple.__repr__.under" args)):=
 ⟨b.fr,b.hd,by have:=b.dp; rw [depth_tupleU]; omega,by have:=b.un; rw [units_under_tuple_repr_under]; omega⟩
theorem under_own {M:Model} {A:Around} {E:Value→Shared→Prop} {K:PySem.W.Frag} {x C f L:Addr} {h₀:Heap} {m:Str→Option Value} {ox:Obj} {od:Option Obj} {base:Nat} {Q:Value→Shared→Prop} (hu:A.units < cLine)
  (F:Fr h₀ L s.heap m) (X₀:K.In h₀) (I:PySem.W.InstAt s.heap x ox C od) (hs:PySem.W.findIn K (.ref C) "__repr__" = some (some (.ref f))) (hf:PySem.W.isFn K (.ref f)=true)
  (h:wpAny M A (call (.ref f) [.ref x]) (PySem.W.StrBack Q) E s):wpAny M A (pyReprObjUnder base (.ref x)) Q E s:=by
 have KX:=X₀.keeps F.keep
 unfold pyReprObjUnder pyReprObjBy
 refine wpAny_bind (wpAny_cRoomFor hu ?_)
 refine wpAny_bind (wpAny_bind (I.type.here ((PySem.W.looks_findIn KX hs).here ?_)))
 show wpAny _ _ (if (some (Value.ref f)).isNone=true then _ else _) _ _ _
 rw [if_neg (by simp)]
 refine wpAny_bind (m:=callSpecialIfBoundBy? _ (.ref x) (Str.ofString "__repr__")) ?_
 simp only [callSpecialIfBoundBy?,bindSpecialIfBound?]
 refine wpAny_holding (wpAny_bind (wpAny_bind (wpAny_bind (I.type.here ((PySem.W.looks_findIn KX hs).here ?_)))))
 refine wpAny_bind (wpAny_askSetting (wpAny_ite ?_))
 have fin:wpAny M A (call (.ref f) ([.ref x]++[]) >>= fun v=>pure (some v)) (fun r s'=>wpAny M A (match r with
   | some r=>isInstance r (.type "str") >>= fun b=>if b=true then pure r else typeNameOf r >>= fun n=>raiseError "TypeError" (toString "__repr__ returned non-string (type " ++ toString n++toString ")")
   | none=>unsupported "repr:special-get-raises") Q E s') E s:=by
  refine wpAny_bind (wpAny_mono h (fun v s' hv=>wpAny_pure ?_) fun _ _ h'=>h')
  cases v <;> first | exact hv.elim | skip
  refine wpAny_bind (wpAny_isInstance (typeIs_str _ _ _) isSubtype_str_str ?_)
  first
   | exact wpAny_pure hv
   | (rw [if_pos rfl]; exact wpAny_pure hv)
   | (simp only [if_true]; exact wpAny_pure hv)
 split
 ·exact wpAny_bind ((PySem.W.bind_fn KX _ (beq_iff_eq.mp hf)).here (wpAny_pure (by exact fin)))
 ·exact wpAny_tryCatch (wpAny_bind ((PySem.W.bind_fn KX _ (beq_iff_eq.mp hf)).here (wpAny_pure (by exact fin))))
def RJ (W:Wd) (X:Cx) (pins:List (Addr×Obj)) (σ:L2.St) (μ:Mu) (m:Nat) (d:D) (t:Str):Prop:=∀ (A:Around) (g:List Code) (s:Shared) (H:Hp) (e:Em) (v:V) (u:Value) (base:Nat) (Q:Str→Shared→Prop),
 SubV X m (dpt d) A→A.guards=some g→GC W e (dpt d) g→base+t.length≤sizeLine→Inv X pins σ H s→St0 W e μ H→Rep W e d v→RelV v u→(∀ s',Back X pins σ W e H μ s'→Q t s')→wpAny (model X.prog X.w) A (pyReprUnder base u) Q X.xe s
theorem rj_is {m:Nat} {d:D} {t:Str} (h:∀ (e:Em) (v:V) (u:Value),Rep W e d v→RelV v u→ReprIs X.prog X.w u t):RJ W X pins σ μ m d t:=fun A g s H e v u base Q sb hg gc hb I st r rv q =>
 h e v u r rv base hb A X.xe s Q fun tk=>q _ ⟨e,H,I.tok tk,Ex.refl e H,st⟩
theorem vals_strs:∀ {ts:List Str} {its:List Value},Vals (ts.map V.str) its→∃ done:List (Str×Tok),its=strValues done∧done.map (·.1)=ts
 | [],its,r=>by
  cases r
  exact ⟨[],rfl,rfl⟩
 | t::ts,its,r=>by
  cases r with
  | cons r1 r2 =>
   obtain ⟨tk,rfl⟩:=r1
   obtain ⟨done,e1,e2⟩:=vals_strs r2
   exact ⟨(t,tk)::done,by rw [e1]; rfl,by rw [List.map_cons,e2]⟩
theorem list_loop (h:Hyp W X n C Wx) {xs:List D} {ts:List Str} {a P:Addr} {m base:Nat} {g:List Code} {A:Around} (sb:SubV X m (dptL xs+1) A) (hg:A.guards=some g) (hlen:ts.length=xs.length)
  (hT:∀ (i:Nat) (d:D),xs[i]?=some d→∃ t,ts[i]?=some t∧RJ W X pins σ μ m d t) (hsz:base+(listText ts).length≤sizeLine) {R:Result→Shared→Prop} (hRE:∀ x s',X.xe x s'→R (.error x) s') (hP0:H P=none) (hR:∀ u s',Back X pins σ W e H μ s'→R (.ok (.ret (.str (listText ts) u))) s') :
  ∀ (k i:Nat) (s:Shared) (e':Em) (H':Hp),xs.length - i=k→i≤xs.length→Inv X pins σ H' s→Ex e H e' H'→St0 W e' μ H'→Rep W e' (.lst xs) (.ref a)→GC W e' (dpt (.lst xs)) g→H' P=some (.lst ((ts.take i).map V.str))→e'.G P=none→(∀ j,e'.r j≠some P) →
  codeAny (model X.prog X.w) A (.builtin "list.__repr__.loop" ⟨[.ref a,rawInt i,.ref P,rawInt ((base+piled (ts.take i):Nat):Int)],[]⟩) R s:=by
 have hX:(listText ts).length=(textFrom 0 "[" ts).length+1:=by
  show (textFrom 0 "[" ts ++ "]").length=_
  rw [strLen_append]; rfl
 have hL:=textFrom_len ts 0 "["
 have hsz1:xs.length≤sizeLine:=by
  have h1:=hL.1
  rw [if_neg (Nat.lt_irrefl 0)] at h1
  omega
 have hsz2:∀ t∈ts,t.length≤sizeLine:=fun t ht=>by
  have h2:=hL.2.1 t ht
  omega
 have hsz3:(listText ts).length≤sizeLine:=by omega
 have hp3:=piled_le_listText ts
 intro k
 induction k with
 | zero =>
  intro i s e' H' hk hi I x st r gc hP p1 p2
  have hin:i=xs.length:=by omega
  obtain ⟨a',vs,hv,h1,h2⟩:=r
  cases hv
  obtain ⟨its,rv,⟨o,nn,ho,hc,_,hd⟩,hz⟩:=I.list (h.K▸h1.sq st.sub)
  have hil:its.length=xs.length:=by rw [← rv.length,h2.length]
  obtain ⟨z1,ps,np,rp,hl,ep⟩:=I.lstM hP
  obtain ⟨done,ed,et⟩:=vals_strs rp
  refine codeAny_builtin F.entry_list_repr_loop ?_
  show wpAny _ _ (Builtin.«list.__repr__.loop» ⟨[.ref a,.int i 0,.ref P,.int ((base+piled (ts.take i):Nat):Int) 0],[]⟩) _ _ s
  rw [repr_loop_tree]
  refine wpAny_bind (wpAny_listItems ho hd ?_)
  have hnone:its.toArray[(i:Int).toNat]?=none:=by simp [hin,hil]
  simp only [hnone]
  unfold reprEnd
  refine wpAny_bind (wpAny_listItems ep rfl ?_)
  rw [show ps.toArray.toList=strValues done by rw [ed],repr_fold]
  refine wpAny_bind (wpAny_pure ?_)
  have hall:done.map (·.1)=ts:=by rw [et,hin,← hlen,List.take_length]
  rw [hall]
  refine wpAny_bind (wpAny_mkStr (wpAny_pure ?_) hsz3)
  exact hR _ _ ⟨e',H',I.tok _,x,st⟩
 | succ k ih =>
  intro i s e' H' hk hi I x st r gc hP p1 p2
  have hlt:i < xs.length:=by omega
  have r0:=r
  obtain ⟨a',vs,hv,h1,h2⟩:=r
  cases hv
  obtain ⟨its,rv,⟨o,nn,ho,hc,_,hd⟩,hz⟩:=I.list (h.K▸h1.sq st.sub)
  have hil:its.length=xs.length:=by rw [← rv.length,h2.length]
  have hxi:xs[i]?=some xs[i]:=List.getElem?_eq_getElem hlt
  obtain ⟨t,ht,hrep⟩:=hT i xs[i] hxi
  obtain ⟨v,hvi,rd⟩:=h2.get hxi
  obtain ⟨u,hui,ru⟩:=rv.get hvi
  have hp1:=piled_take_succ ht
  have hp2:=piled_take_le ts (i+1)
  have hdm:=dpt_mem hxi
  refine codeAny_builtin F.entry_list_repr_loop ?_
  show wpAny _ _ (Builtin.«list.__repr__.loop» ⟨[.ref a,.int i 0,.ref P,.int ((base+piled (ts.take i):Nat):Int) 0],[]⟩) _ _ s
  rw [repr_loop_tree]
  refine wpAny_bind (wpAny_listItems ho hd ?_)
  have hsome:its.toArray[(i:Int).toNat]?=some u:=by simp [hui]
  simp only [hsome]
  rw [Int.toNat_natCast]
  refine wpAny_bind (wpAny_holding (wpAny_mono (hrep _ _ s H' e' v u (base+piled (ts.take i)+1) (fun y s'=>y=t∧Back X pins σ W e' H' μ s') ((sb.list _).mono hdm) (guards_under_guard (isGuard_list_loop _) hg) ((gc.mono (j:=dpt xs[i]) (by show dpt xs[i]≤dptL xs+1; omega)).cons r0 (by show dpt xs[i] < dptL xs+1; omega)) (by omega) I st rd ru fun s' b=>⟨rfl,b⟩) ?_ fun y s' z=>hRE y s' z))
  rintro y s1 ⟨rfl,e1,H1,I1,x1,st1⟩
  refine wpAny_bind (wpAny_mkStr ?_ (hsz2 y (List.mem_of_getElem? ht)))
  refine wpAny_bind ?_
  obtain ⟨d1,d2,d3⟩:=x1.priv hP p1 p2
  show wpAny _ _ (updateSeq P _) _ _ _
  refine rx_push (I1.tok _) d1 (by rw [List.length_take]; omega) fun h' J=>wpAny_pure ⟨F.quiet_list_repr_loop _,?_⟩
  have e1':((i:Int)+1)=((i+1:Nat):Int):=by omega
  have e2':base+piled (ts.take i)+(y.length+2)=base+piled (ts.take (i+1)):=by omega
  rw [e1',e2']
  have et:ts.take i++[y]=ts.take (i+1):=by rw [List.take_add_one,ht]; rfl
  rw [et] at J
  exact ih (i+1) _ e1 _ (by omega) hlt J ((x.trans x1).privUpd _ hP0) (st1.privUpd _ d2 d3) (r0.ex x1) (gc.ex x1) upd_same d2 d3
theorem list_at (h:Hyp W X n C Wx) {xs:List D} {ts:List Str} {a:Addr} {m base:Nat} {g:List Code} {A:Around} (hne:xs≠[]) (sb:SubV X m (dptL xs+1) A) (hg:A.guards=some g) (hlen:ts.length=xs.length)
  (hT:∀ (i:Nat) (d:D),xs[i]?=some d→∃ t,ts[i]?=some t∧RJ W X pins σ μ m d t) (hsz:base+(listText ts).length≤sizeLine) {R:Result→Shared→Prop} (hRE:∀ x s',X.xe x s'→R (.error x) s') (hR:∀ u s',Back X pins σ W e H μ s'→R (.ok (.ret (.str (listText ts) u))) s')
  (I:Inv X pins σ H s) (st:St0 W e μ H) (r:Rep W e (.lst xs) (.ref a)) (gc:GC W e (dpt (.lst xs)) g) :
  wpAny (model X.prog X.w) A.in1 (Builtin.listReprAt base ⟨[.ref a],[]⟩) (fun fin s'=>match fin with | .done f=>R (.ok f) s' | .again c'=>c'.quiet=true∧codeAny (model X.prog X.w) A c' R s') (fun y s'=>R (.error y) s') s:=by
 have hca:Clear g a:=gc.clear h I st r (Nat.le_refl _)
 have r0:=r
 obtain ⟨a',vs,hv,h1,h2⟩:=r
 cases hv
 obtain ⟨its,rv,⟨o,nn,ho,hc,_,hd⟩,hz⟩:=I.list (h.K▸h1.sq st.sub)
 have hil:its.length=xs.length:=by rw [← rv.length,h2.length]
 obtain ⟨y,l,rfl⟩:∃ y l,its=y::l:=by
  cases its with
  | nil=>cases xs with
   | nil=>exact absurd rfl hne
   | cons _ _=>simp at hil
  | cons y l=>exact ⟨y,l,rfl⟩
 refine wpAny_list_repr_head (A:=A.in1) hg (fun v rest kw hm=>listSameRef_of_ne (hca _ _ _ _ hm)) ho hd ?_
 refine wpAny_bind (m:=newList []) (wpAny_newObj_type ?_)
 refine wpAny_pure ⟨F.quiet_list_repr_loop _,?_⟩
 have hP0:H s.heap.objs.size=none:=I.hok.fresh (Nat.le_refl _)
 have J:Inv X pins σ (upd H s.heap.objs.size (.lst [])) { s with heap:=s.heap.push { cls:=.type "list",dict:=none,data:=.seq (List.toArray []) 0,slots:=#[] },toks:=s.toks }:=
  I.laid (t':=s.toks) (fun b u z=>Heap.get?_push_of_some _ z) (Nat.le_refl _) ⟨by show 0≤_; exact Nat.zero_le _,[],0,.nil,Heap.get?_push_size _ rfl⟩
 have G0:e.G s.heap.objs.size=none:=by
  cases z:e.G s.heap.objs.size with
  | none=>rfl
  | some u=>rw [st.sub _ u z] at hP0; cases hP0
 have R0:∀ j,e.r j≠some s.heap.objs.size:=fun j z=>by
  obtain ⟨u,hu⟩:=st.rH z
  rw [hP0] at hu; cases hu
 exact list_loop h sb hg hlen hT hsz hRE hP0 hR _ 0 _ e _ rfl (Nat.zero_le _) J ((Ex.refl e H).privUpd _ hP0) (st.privUpd _ G0 R0) r0 gc upd_same G0 R0
theorem tup_fold (h:Hyp W X n C Wx) {m:Nat} {g:List Code} {A:Around} (hg:A.guards=some g):∀ (l:List Value) (xs:List D) (vs:List V) (ts:List Str) (acc:Array Str) (k:Nat) (s:Shared) (e':Em) (H':Hp) (Q:(Array Str×Nat)→Shared→Prop),SubV X m (dptL xs) A→RepL W e' xs vs→Vals vs l→ts.length=xs.length →
  (∀ (i:Nat) (d:D),xs[i]?=some d→∃ t,ts[i]?=some t∧RJ W X pins σ μ m d t)→k+piled ts≤sizeLine→Inv X pins σ H' s→Ex e H e' H'→St0 W e' μ H'→GC W e' (dptL xs) g→(∀ s',Back X pins σ W e H μ s'→Q ⟨acc++ts.toArray,k+piled ts⟩ s') →
  wpAny (model X.prog X.w) A (forIn l (⟨acc,k⟩:(Array Str×Nat)) tupBody) Q X.xe s
 | l,[],vs,ts,acc,k,s,e',H',Q,sb,r,rv,hl,hT,hk,I,x,st,gc,q=>by
  rw [show vs=[] from r] at rv
  cases rv
  cases ts with
  | cons _ _=>simp at hl
  | nil =>
   have h0:=q s ⟨e',H',I,x,st⟩
   simp only [List.forIn_nil]
   exact wpAny_pure (by simpa [piled] using h0)
 | l,d::xs,vs,ts,acc,k,s,e',H',Q,sb,r,rv,hl,hT,hk,I,x,st,gc,q=>by
  obtain ⟨v,vs',rfl,r1,r2⟩:=r
  cases rv with
  | cons u1 u2 =>
   rename_i u l'
   obtain ⟨t,ht,hrep⟩:=hT 0 d rfl
   cases ts with
   | nil=>simp at hl
   | cons t' ts' =>
    cases (show t'=t by simpa using ht)
    rw [piled_cons] at hk
    rw [List.forIn_cons]
    refine wpAny_bind (wpAny_bind (hrep A g s H' e' v u (k+1) _ (sb.mono (Nat.le_max_left _ _)) hg (gc.mono (Nat.le_max_left _ _)) (by omega) I st r1 u1 fun s1 b=>wpAny_pure ?_))
    obtain ⟨e1,H1,I1,x1,st1⟩:=b
    refine tup_fold h hg l' xs vs' ts' (acc.push t) (k+(t.length+2)) s1 e1 H1 Q (sb.mono (Nat.le_max_right _ _)) (r2.ex x1) u2 (by simpa using hl) (fun i d hd=>hT (i+1) d (by simpa using hd)) (by omega) I1 (x.trans x1) st1 ((gc.mono (Nat.le_max_right _ _)).ex x1) fun s2 b2=>?_
    have h1:=q s2 b2
    have e:k+piled (t::ts')=k+(t.length+2)+piled ts':=by rw [piled_cons]; omega
    rw [e] at h1
    simpa using h1
theorem tup_at (h:Hyp W X n C Wx) {xs:List D} {ts:List Str} {a:Addr} {m base:Nat} {g:List Code} {A:Around} {id:String} {rest:List Value} (hcg:(Code.builtin id ⟨.ref a::rest,[]⟩).isGuard=true) (sb:SubV X m (dptL xs) (A.under (.builtin id ⟨.ref a::rest,[]⟩))) (hg:A.guards=some g) (hlen:ts.length=xs.length)
  (hT:∀ (i:Nat) (d:D),xs[i]?=some d→∃ t,ts[i]?=some t∧RJ W X pins σ μ m d t) (hsz:base+(tupleText ts).length≤sizeLine) {R:Result→Shared→Prop} (hRE:∀ x s',X.xe x s'→R (.error x) s') (hR:∀ u s',Back X pins σ W e H μ s'→R (.ok (.ret (.str (tupleText ts) u))) s')
  (I:Inv X pins σ H s) (st:St0 W e μ H) (r:Rep W e (.tup xs) (.ref a)) (gc:GC W e (dpt (.tup xs)) g) :
  wpOwn (model X.prog X.w) A (.builtin id ⟨.ref a::rest,[]⟩) (Builtin.tupleReprAt base ⟨[.ref a],[]⟩) (fun fin s'=>match fin with | .done f=>R (.ok f) s' | .again c'=>c'.quiet=true∧codeAny (model X.prog X.w) A c' R s') (fun y s'=>R (.error y) s') s:=by
 have hca:Clear g a:=gc.clear h I st r (Nat.le_refl _)
 have r0:=r
 obtain ⟨a',vs,hv,h1,h2⟩:=r
 cases hv
 obtain ⟨its,rv,⟨o,ho,hc,nn,hd⟩,hz⟩:=I.tuple (h.K▸sqT_sub h1 st.sub)
 have hil:its.length=xs.length:=by rw [← rv.length,h2.length]
 have hp:=piled_le_tupleText ts
 have hsz0:(tupleText ts).length≤sizeLine:=by omega
 rw [tuple_repr_tree,tupleReprUnderWay_eq]
 refine wpOwn_bind (wpOwn_stackTailAny hg (tupGuardF_off _) (tupGuardF_pos _) ?_)
 have hn:(g.any fun c=>tupGuardF (.ref a) (c,default))=false:=by
  rw [List.any_eq_false]
  intro c hcm
  rw [tupGuardF_of_clear hca c hcm]
  exact Bool.false_ne_true
 rw [hn]
 refine wpOwn_of_wpAny ?_
 show wpAny _ _ (tupleReprRest base (.ref a)) _ _ s
 unfold tupleReprRest Builtin.Tuple.tupleItemsOf
 refine wpAny_bind (wpAny_bind (wpAny_seqItems ho hd (wpAny_pure ?_)))
 rw [← Array.forIn_toList]
 refine wpAny_bind (wpAny_mono (tup_fold h (m:=m) (e:=e) (H:=H) (guards_under_guard hcg hg) its xs vs ts #[] base s e H (fun p s'=>p=⟨#[]++ts.toArray,base+piled ts⟩∧Back X pins σ W e H μ s') sb h2 rv hlen hT (by omega) I (Ex.refl e H) st ((gc.mono (j:=dptL xs) (by show dptL xs≤dptL xs+1; omega)).cons r0 (by show dptL xs < dptL xs+1; omega)) fun s' b=>⟨rfl,b⟩) ?_ fun y s' z=>hRE y s' z)
 rintro p s1 ⟨rfl,b⟩
 refine wpAny_bind (wpAny_mkStr (wpAny_pure ?_) (by simpa [tupleText,hlen,hil] using hsz0))
 obtain ⟨e1,H1,I1,x1,st1⟩:=b
 have h1:=hR s1.toks { s1 with toks:=s1.toks+1 } ⟨e1,H1,I1.tok _,x1,st1⟩
 simpa [tupleText,hlen,hil] using h1
section
variable {m:Nat} (h:Hyp W X n C Wx) (hl:(∀ f ds μ,C.rlow f ds μ = .stuck)∨∃ k,k+34≤m∧FnPs W k C.hot false C.rlow)
include h hl
theorem rj_ins {c:Nat} {fs:List D} {t:Str} (ht:reprO C μ (.ins c fs)=some t):RJ W X pins σ μ m (.ins c fs) t:=by
 have hc:dcallF C.T C.rlow 13 (.ins c fs) [] μ = .ok (.str t) μ:=by
  unfold reprO at ht
  split at ht
  ·rename_i t' m' hm
   split at ht
   ·rename_i hmu
    cases ht
    rw [hmu] at hm; exact hm
   ·cases ht
  ·cases ht
 intro A g s H e v u base Q sb hg gc hb I st r rv q
 rcases hl with hs | ⟨k,hk,hF⟩
 ·exfalso
  unfold dcallF at hc
  split at hc
  ·rw [hs] at hc; cases hc
  ·cases hc
 ·have qq:Got W e H (dcallF C.T C.rlow 13 (.ins c fs) [] μ) (fun v H'=>v = .str t∧∃ e',Ex e H e' H'∧St0 W e' μ H') (xkA Wx σ):=by
   rw [hc]
   exact fun e' H' x' st' v hv=>⟨hv,e',x',st'⟩
  obtain ⟨c',a,dx,gs,i,fa,rfl,rfl,hH,hcx,hi',cf,M,_,run⟩:=dcallFR_ok h hF (sb.room.mono hk) sb.fr (fun z=>nomatch z) sb.hd I st r .nil rv .nil qq
  obtain ⟨mm,od,F,KX,J⟩:=inst_rule I hH
  refine wpAny_pyReprUnder_ref (by omega) (under_own (by have:=sb.un; omega) F KX J (by rw [← h.txt.dun 13 "__repr__" rfl]; exact M.at_) M.fn (wpAny_mono run (fun y s' z=>?_) fun _ _ z=>z))
  obtain ⟨v',H',I',r',rfl,e',x',st'⟩:=z
  obtain ⟨tk,rfl⟩:=r'
  exact ⟨t,tk,rfl,q s' ⟨e',H',I',x',st'⟩⟩
theorem consT_some {o:Option Str} {os:Option (List Str)} {ts:List Str} (hh:consT o os=some ts):∃ t ts',o=some t∧os=some ts'∧ts=t::ts':=by
 cases o with
 | none=>cases hh
 | some t =>
  cases os with
  | none=>cases hh
  | some ts'=>cases hh; exact ⟨t,ts',rfl,rfl,rfl⟩
mutual
theorem rj_all:∀ (d:D) (t:Str),txtD (reprO C μ) d=some t→t.length≤sizeLine→RJ W X pins σ μ m d t
 | .non,t,ht,_=>by
  cases ht
  exact rj_is fun e v u r rv=>by cases (show v = .non from r); cases rv; simpa only [PyData.shown] using ReprIs.none
 | .bl b,t,ht,_=>by
  cases ht
  exact rj_is fun e v u r rv=>by cases (show v = .bl b from r); cases rv; simpa only [PyData.shown] using ReprIs.bool b
 | .int i,t,ht,_=>by
  have ht:(if i.natAbs.log2 < 1920 then some (PyData.shown (.int i)) else none)=some t:=ht
  split at ht
  ·rename_i hi
   cases ht
   exact rj_is fun e v u r rv=>by cases (show v = .int i from r); obtain ⟨tk,rfl⟩:=rv; simpa only [PyData.shown] using ReprIs.int tk hi
  ·cases ht
 | .str x,t,ht,hz=>by
  cases ht
  exact rj_is fun e v u r rv=>by cases (show v = .str x from r); obtain ⟨tk,rfl⟩:=rv; simpa only [PyData.shown] using ReprIs.str x tk (by simpa only [PyData.shown] using hz)
 | .tup xs,t,ht,hz=>by
  have ht:(txtDs (reprO C μ) xs).map tupleText=some t:=ht
  cases hq:txtDs (reprO C μ) xs with
  | none=>rw [hq] at ht; cases ht
  | some ts =>
   rw [hq] at ht; cases ht
   obtain ⟨hlen,hT⟩:=rjL_all xs ts hq fun t ht=>Nat.le_trans (tupleText_mem_le ht) hz
   intro A g s H e v u base Q sb hg gc hb I st r rv q
   have r0:=r
   obtain ⟨a,vs,rfl,h1,h2⟩:=r
   cases rv
   obtain ⟨its,rv',⟨o,ho,hc,nn,hd⟩,hz'⟩:=I.tuple (h.K▸sqT_sub h1 st.sub)
   have sb':SubV X m (dptL xs+1) A:=sb
   refine wpAny_pyReprUnder_ref (by omega) (wpAny_pyReprObjUnder_twin (twin:= "tuple.__repr__.under") ⟨o,ho,hc⟩ F.slot_tuple_repr rfl (by have:=sb.un; omega)
    (call_twin_own (F.quiet_tuple_repr_under _) F.entry_tuple_repr_under F.check_tuple_repr_under ⟨o,ho,hc⟩ F.slot_tuple_repr (F.args_tuple_repr_1 _)
     (tup_at h (R:=callEnd _ X.xe) (isGuard_tuple_repr_under _) (sb'.tupleU _) hg hlen hT hb (fun _ _ z=>z) (fun tk s' b=>⟨⟨_,_,rfl⟩,⟨_,_,rfl,q s' b⟩⟩) I st r0 gc)))
 | .lst xs,t,ht,hz=>by
  have ht:(txtDs (reprO C μ) xs).map listText=some t:=ht
  cases hq:txtDs (reprO C μ) xs with
  | none=>rw [hq] at ht; cases ht
  | some ts =>
   rw [hq] at ht; cases ht
   obtain ⟨hlen,hT⟩:=rjL_all xs ts hq fun t ht=>Nat.le_trans (listText_mem_le ht) hz
   intro A g s H e v u base Q sb hg gc hb I st r rv q
   have r0:=r
   obtain ⟨a,vs,rfl,h1,h2⟩:=r
   cases rv
   obtain ⟨its,rv',⟨o,nn,ho,hc,_,hd⟩,hz'⟩:=I.list (h.K▸h1.sq st.sub)
   have hil:its.length=xs.length:=by rw [← rv'.length,h2.length]
   by_cases hne:xs=[]
   ·subst hne
    have e1:its=[]:=List.length_eq_zero_iff.mp hil
    have e2:ts=[]:=List.length_eq_zero_iff.mp hlen
    subst e1 e2
    rw [listText_nil] at q
    exact wpAny_pyReprUnder_ref (by omega) (wpAny_pyReprObjUnder_list_empty ⟨o,ho,hc⟩ (by have:=sb.un; omega) ho hd ⟨_,_,rfl,q _ ⟨e,H,I.tok _,Ex.refl e H,st⟩⟩)
   ·have sb':SubV X m (dptL xs+1) A:=sb
    refine wpAny_pyReprUnder_ref (by omega) (wpAny_pyReprObjUnder_twin (twin:= "list.__repr__.under") ⟨o,ho,hc⟩ F.slot_list_repr.toG rfl (by have:=sb.un; omega)
     (call_twin_plain F.plain_list_repr_under F.entry_list_repr_under F.check_list_repr_under ⟨o,ho,hc⟩ F.slot_list_repr.toG (F.args_list_repr_1 _)
      (list_at h hne (R:=callEnd _ X.xe) sb' hg hlen hT hb (fun _ _ z=>z) (fun tk s' b=>⟨⟨_,_,rfl⟩,⟨_,_,rfl,q s' b⟩⟩) I st r0 gc)))
 | .ins c fs,t,ht,_=>rj_ins h hl ht
 | .obj _,_,ht,_=>by cases ht
 | .bor _ _,_,ht,_=>by cases ht
 | .opq,_,ht,_=>by cases ht
theorem rjL_all:∀ (ds:List D) (ts:List Str),txtDs (reprO C μ) ds=some ts→(∀ t∈ts,t.length≤sizeLine)→ts.length=ds.length∧∀ (i:Nat) (d:D),ds[i]?=some d→∃ t,ts[i]?=some t∧RJ W X pins σ μ m d t
 | [],ts,ht,_=>by
  cases ht
  exact ⟨rfl,fun i d z=>by simp at z⟩
 | d::ds,ts,ht,hz=>by
  have ht:consT (txtD (reprO C μ) d) (txtDs (reprO C μ) ds)=some ts:=ht
  obtain ⟨t,ts',e1,e2,rfl⟩:=consT_some h hl ht
  have r1:=rj_all d t e1 (hz t List.mem_cons_self)
  obtain ⟨l2,r2⟩:=rjL_all ds ts' e2 fun z hz'=>hz z (List.mem_cons_of_mem _ hz')
  refine ⟨by simp [l2],fun i d' hd=>?_⟩
  cases i with
  | zero=>cases hd; exact ⟨t,rfl,r1⟩
  | succ i=>exact r2 i d' (by simpa using hd)
end
end
end
end Ev
set_option maxRecDepth 100000
set_option maxHeartbeats 2000000
namespace EvW
open PySem PySem.Spec PyProof.Rows L2 EvH HotX
section
variable {prog:Program} {w:World} {A:Around} {E:Value→Shared→Prop} {s:Shared}
end
end EvW
set_option maxRecDepth 100000
set_option maxHeartbeats 2000000
namespace Ev
open PySem PySem.Spec PyProof.Rows L2
section
variable {W:Wd} {X:Cx} {n:Nat} {C:Cl} {Wx:WX} {H0:En} {pins:List (Addr×Obj)} {σ:L2.St} {H H1:Hp} {s:Shared} {e e1:Em} {μ:Mu} {a b c:Expr} {A B D':E} {pos p:Pos} {es:List Expr} {ys:Es}
theorem ty_ok (h:Hyp W X n C Wx) (st:St0 W e μ H) {d:D} {v:V} {t:Ty} (hd:RepH W e H d v) (ht:tyOf μ d=some t):TyX X.K H v (tyV W t)∧tyIn W.T t=true:=by
 have insT:∀ {c:Nat} {a dx:Addr} {gs:List (Str×V)} {i:ClI},H a=some (.ins (W.ca c) dx gs)→W.T.cls[c]?=some i→i.isexc=false→TyX X.K H (.ref a) (tyV W (.ins c))∧tyIn W.T (.ins c)=true:=by
  intro c a dx gs i hH hi hx
  have cf:=h.txt.cls c i hi hx
  refine ⟨.base (.ins hH (by rw [h.K]; exact cf.cls) (by rw [h.K]; exact cf.cla) (by rw [h.K]; exact h.txt.ccg) (by rw [h.K]; exact h.txt.cct) (by rw [h.K]; exact cf.mro)),?_⟩
  show (W.T.cls[c]?).isSome=true
  rw [hi]; rfl
 cases d with
 | non=>cases ht; cases (show v = .non from hd); exact ⟨.base .non,rfl⟩
 | bl b=>cases ht; cases (show v = .bl b from hd); exact ⟨.base (.bl b),rfl⟩
 | int b=>cases ht; cases (show v = .int b from hd); exact ⟨.base (.int b),rfl⟩
 | str b=>cases ht; cases (show v = .str b from hd); exact ⟨.base (.str b),rfl⟩
 | tup xs =>
  cases ht
  obtain ⟨a,vs,rfl,h1,_⟩:=hd
  rcases sqT_sub h1 st.sub with (h1 | ⟨o,h1⟩) | ⟨o,its,m,h1,h2,_⟩
  ·exact ⟨.base (.tup h1),rfl⟩
  ·exact ⟨.fTuple h1,rfl⟩
  ·rw [← h.K] at h1; exact ⟨.kTuple h1 h2,rfl⟩
 | lst xs =>
  cases ht
  obtain ⟨a,vs,rfl,h1,_⟩:=hd
  rcases h1.sq st.sub with (h1 | ⟨o,h1⟩) | ⟨o,its,m,h1,h2,_⟩
  ·exact ⟨.base (.lst h1),rfl⟩
  ·exact ⟨.base (.frz h1),rfl⟩
  ·rw [← h.K] at h1; exact ⟨.kList h1 h2,rfl⟩
 | opq=>cases ht
 | bor k xs =>
  cases ht
  obtain ⟨a,vs,rfl,h1,_⟩:=hd
  exact ⟨.base (.lst h1),rfl⟩
 | ins c fs =>
  cases ht
  obtain ⟨a,dx,gs,vs,i,rfl,h1,h2,h3,_⟩:=hd
  exact insT (st.sub _ _ h1) h2 h3
 | obj o =>
  obtain ⟨a,rfl,ha⟩:=hd
  have ht:(match μ[o]? with | some (.lst _)=>some Ty.lst | some (.ins c _)=>some (.ins c) | some (.dct _)=>some .dct | some (.exn _ _)=>none | none=>none)=some t:=ht
  cases q:μ[o]? with
  | none=>rw [q] at ht; cases ht
  | some so =>
   rw [q] at ht
   obtain ⟨a',ha',hr⟩:=st.cell o _ q
   rw [ha] at ha'; cases ha'
   cases so with
   | lst ys =>
    cases ht
    obtain ⟨vs,h1,_⟩:=hr
    exact ⟨.base (.lst h1),rfl⟩
   | ins c fs =>
    cases ht
    obtain ⟨dx,gs,i,h1,h2,h3,_⟩:=hr
    exact insT h1 h2 h3
   | dct _ =>
    cases ht
    obtain ⟨ks,hr,_⟩:=hr
    exact ⟨.base (.dK hr),rfl⟩
   | exn _ _=>cases ht
def kdVV (W:Wd):Kd→V
 | .int => .ty "int"
 | .str => .ty "str"
 | .bool => .ty "bool"
 | .list => .ty "list"
 | .tuple => .ty "tuple"
 | .cls c => .ref (W.ca c)
 | .verr => .ty "ValueError"
 | .arerr => .ty "ArithmeticError"
 | .lkerr => .ty "LookupError"
theorem kd_cls (k:Kd):ClsV (kdVV W k) (kdV W k):=by cases k <;> constructor
def KdName (X:Cx) (T:Tb) (k:Kd):Expr→Prop
 | .Name x _=>Gl X x∧(x == ("__debug__" : Str))=false∧(match k with
  | .cls c=>(T.cls[c]?).map (·.name)=some x
  | k=>(kdN k).map Str.ofString=some x)
 | _=>False
theorem pe_kd (h:Hyp W X n C Wx) {k:Kd} {x:Expr} (hk:KdName X W.T k x):PE X x (tC (kdVV W k))∧kdIn W.T k=true∧noStar x=true:=by
 cases x with
 | Name x pos =>
  obtain ⟨hg,hd,hk⟩:=hk
  have bl:∀ (nm:String),(nm = "int" ∨ nm = "str" ∨ nm = "bool" ∨ nm = "list" ∨ nm = "tuple" ∨ nm = "ValueError" ∨ nm = "ArithmeticError" ∨ nm = "LookupError")→some (Str.ofString nm)=some x→PE X (.Name x pos) (tC (.ty nm)):=by
   intro nm hn hx
   cases hx
   rcases hn with rfl | rfl | rfl | rfl | rfl | rfl | rfl | rfl <;>
    exact pe_bltn (u:=.type _) hg (by rw [h.mg]; exact h.txt.blt _ (by simp [BLT])) (by kernel_rfl) rfl (by decide +kernel) hd
  cases k with
  | cls c =>
   have hk:(W.T.cls[c]?).map (·.name)=some x:=hk
   cases hi:W.T.cls[c]? with
   | none=>rw [hi] at hk; cases hk
   | some i =>
    rw [hi] at hk
    have hk:i.name=x:=by simpa using hk
    subst hk
    exact ⟨pe_glob (u:=.ref (W.ca c)) hg (by rw [h.mg]; exact (h.txt.clsg c i hi).1) rfl hd,by show (W.T.cls[c]?).isSome=true; rw [hi]; rfl,rfl⟩
  | int=>exact ⟨bl "int" (by simp) hk,rfl,rfl⟩
  | str=>exact ⟨bl "str" (by simp) hk,rfl,rfl⟩
  | bool=>exact ⟨bl "bool" (by simp) hk,rfl,rfl⟩
  | list=>exact ⟨bl "list" (by simp) hk,rfl,rfl⟩
  | tuple=>exact ⟨bl "tuple" (by simp) hk,rfl,rfl⟩
  | verr=>exact ⟨bl "ValueError" (by simp) hk,rfl,rfl⟩
  | arerr=>exact ⟨bl "ArithmeticError" (by simp) hk,rfl,rfl⟩
  | lkerr=>exact ⟨bl "LookupError" (by simp) hk,rfl,rfl⟩
 | _=>exact hk.elim
theorem snd_isin (h:Hyp W X n C Wx) (pn:Pn W X C H0) {k:Kd} {cx:Expr} {x:Str} (hx:x = "isinstance") (hg:Gl X x) (hk:KdName X W.T k cx) (hs:noStar a=true) (ha:PE X a (rE W C Wx H0 A)) (hvar:∀ i,A.isVar=some i→∃ x p,a = .Name x p∧X.N[i]?=some x∧Vis X.env.scope x∧(x == ("__debug__" : Str))=false∧(x == ("__classdict__" : Str))=false) :
  PE X (.Call (.Name x p) [a,cx] [] pos) (rE W C Wx H0 (.isin A false [k])):=by
 refine ⟨fun pins s σ H Q I ⟨e,μ,σd,st,lo,q⟩=>?_⟩
 have q:Aft W e H (match A.isVar.bind fun i=>getExn σd i with | some c => .ok (.bl ([k].any (isTy C.T (.ins c)))) μ | none=>(evE C A σd μ).bind fun x m=>match tyOf m x with | some t => .ok (.bl ([k].any (isTy C.T t))) m | none => .stuck) (fun d _ e' H'=>∀ v,RepH W e' H' d v→Q v H') (xkA Wx σ):=q
 cases hge:A.isVar.bind fun i=>getExn σd i with
 | some c =>
  rw [hge] at q
  cases hv0:A.isVar with
  | none=>rw [hv0] at hge; cases hge
  | some i =>
   rw [hv0] at hge
   have hge:getExn σd i=some c:=hge
   obtain ⟨y,py,rfl,hN,hvis,hd1,hd2⟩:=hvar i hv0
   unfold getExn at hge
   split at hge
   ·rename_i c' fs' hat
    cases hge
    obtain ⟨v,hv1,a',dx,gs,i',rfl,hx0,h1,h2,h2x,h3,_⟩:=lo.at_ i _ hat
    have ef:=h.txt.exc c i' h2 h2x
    obtain ⟨oe,hp,o1,o2,vs,o3⟩:=pn.pin _ _ _ hx0
    obtain ⟨pk,ki,ns⟩:=pe_kd h hk
    have pa:PA X [.Name y py,cx] (tCons (tVar i) (tCons (tC (kdVV W k)) tNil)):=pa_cons (pe_var hN hvis hd1 hd2) (pa_cons pk pa_nil (star_no ns)) (star_no hs)
    have cr:CallR X (.builtin "isinstance") (fun xs H' Q'=>xs=[.ref a',kdVV W k]∧(∃ gs',H' dx=some (.xd gs'))∧Q' (.bl (isTy W.T (.ins c) k)) H'):=by
     intro pins2 s2 σ2 H2 xs us Q2 I2 r2 ⟨ex,⟨gs2,hdx⟩,q2⟩
     subst ex
     obtain ⟨u1,u2,rfl,ru1,ru2⟩:=vals2 r2
     cases ru1
     have ek:=(kd_cls (W:=W) k).eq ru2
     subst ek
     obtain ⟨ha0,_⟩:=I2.pin (a',oe) (List.mem_append_left _ hp)
     have hx:ObjOk X.prog X.w H2 s2.heap dx (.xd gs2):=I2.hok dx _ hdx
     obtain ⟨mA,hns,hr⟩:=hx
     obtain ⟨od,ho,hlk⟩:=lookIn_ns hns
     have J:PySem.W.InstAt s2.heap a' oe (W.ca c) (some od):=⟨ha0,o1,by unfold PySem.W.notCls; rw [o3] <;> rfl,by rw [o2]; exact ho⟩
     have xf:=ef.xf
     have e1:=ef.inst
     have e2:=ef.cls
     have e3:=ef.top
     have e4:=h.txt.ccg
     have e5:=h.txt.cct
     have e6:=h.txt.isi (.ins c) k (by show (W.T.cls[c]?).isSome=true; rw [h2]; rfl) ki
     rw [← h.K] at xf e1 e2 e3 e4 e5 e6
     exact PySem.W.kia_one (PySem.W.kitx_exc e1 xf.ga xf.gg xf.exC e2 e4 e5 e3) I2.kIn J e6 (fun z=>nomatch z) fun tk=>⟨.bl _,H2,I2.kept (t':=tk) fun _ _ z=>z,rfl,q2⟩
    refine (pe_callB cr hg (by rw [h.mg,hx]; exact h.txt.blt _ (by simp [BLT])) (by rw [hx]; kernel_rfl) pa (by rw [hx]; decide +kernel) (by rw [hx]; decide +kernel) (star_no hs) (any_no (es:=[cx]) (by simp [ns]))).run pins s σ H Q I ?_
    refine ⟨_,hv1,rfl,⟨gs,h1⟩,?_⟩
    have:=q.now st (.bl ([k].any (isTy C.T (.ins c)))) rfl
    rw [h.T] at this
    simpa using this
   ·cases hge
 | none =>
 rw [hge] at q
 clear hge
 obtain ⟨pk,ki,ns⟩:=pe_kd h hk
 have pa:PA X [a,cx] (tCons (rE W C Wx H0 A) (tCons (tC (kdVV W k)) tNil)):=pa_cons ha (pa_cons pk pa_nil (star_no ns)) (star_no hs)
 refine (pe_callB call_isi hg (by rw [h.mg,hx]; exact h.txt.blt _ (by simp [BLT])) (by rw [hx]; kernel_rfl) pa (by rw [hx]; decide +kernel) (by rw [hx]; decide +kernel) (star_no hs) (any_no (es:=[cx]) (by simp [ns]))).run pins s σ H Q I ?_
 refine rE.at st lo (Aft.bind q) fun d m e' H' v x st' lo' r hv=>?_
 have r:Aft W e' H' (match tyOf m d with | some t => .ok (.bl ([k].any (isTy C.T t))) m | none => .stuck) (fun d _ e' H'=>∀ v,RepH W e' H' d v→Q v H') (xkA Wx σ):=r
 cases ht:tyOf m d with
 | none=>rw [ht] at r; exact r.elim
 | some t =>
  rw [ht] at r
  obtain ⟨h1,h2⟩:=ty_ok h st' hv ht
  refine ⟨v,kdVV W k,_,_,isTy W.T t k,rfl,kd_cls k,h1,by rw [h.K]; exact h.txt.isi t k h2 ki,?_⟩
  have:=r.now st' (.bl ([k].any (isTy C.T t))) rfl
  rw [h.T] at this
  simpa using this
theorem cut_rep {xs:List D} {vs:List V} {lo hi:Option Int} (r:RepL W e xs vs):RepL W e (cut xs lo hi) (cutV vs lo hi):=by
 unfold cut cutV
 rw [r.length]
 exact RepL.take _ (RepL.drop _ r)
def rO (W:Wd) (C:Cl) (Wx:WX) (H0:En) (a:Eo):TO:=fun σ H Q=>∃ e μ σd,St0 W e μ H∧Lo W e H0 σd σ H∧Aft W e H (evEo C a σd μ) (fun o _ _ H'=>Q o H') (xkA Wx σ)
theorem snd_onone:PO X none (rO W C Wx H0 .none):=⟨fun pins s σ H Q I ⟨e,μ,σd,st,lo,q⟩=>po_none.run pins s σ H Q I (q.now st)⟩
theorem snd_osome (ha:PE X a (rE W C Wx H0 A)):PO X (some a) (rO W C Wx H0 (.some A)):=by
 refine ⟨fun pins s σ H Q I ⟨e,μ,σd,st,lo,q⟩=>?_⟩
 refine (po_some ha).run pins s σ H Q I (rE.at st lo (Aft.bind q) fun d m e' H' v x st' lo' r hv=>?_)
 cases d with
 | int i=>exact ⟨i,hv,r.now st'⟩
 | _=>exact r.elim
theorem snd_sl (h:Hyp W X n C Wx) {lo hi:Option Expr} {L U:Eo} {p2:Pos} (ha:PE X a (rE W C Wx H0 A)) (hl:PO X lo (rO W C Wx H0 L)) (hu:PO X hi (rO W C Wx H0 U)):PE X (.Subscript a (.Slice lo hi none p2) pos) (rE W C Wx H0 (.sl A L U)):=by
 refine ⟨fun pins s σ H Q I ⟨e,μ,σd,st,lo,q⟩=>?_⟩
 refine (pe_slice ((sl_list.or sl_tupA).or sl_str) ha hl hu).run pins s σ H Q I (rE.at st lo (Aft.bind q) fun d m e' H' v x st' lo' r hv=>?_)
 refine ⟨e',m,σd,st',lo',(Aft.bind r).imp fun l m2 e2 H2 x2 st2 r2=>⟨e2,m2,σd,st2,lo'.ex x2,(Aft.bind r2).imp fun u m3 e3 H3 x3 st3 r3=>?_⟩⟩
 have hv3:=(hv.ex x2).ex x3
 have r3:Aft W e3 H3 (match getSl d l u with | some d => .ok d m3 | none => .stuck) (fun d _ e' H'=>∀ v,RepH W e' H' d v→Q v H') (xkA Wx σ):=r3
 cases d with
 | lst xs =>
  obtain ⟨p,vs,rfl,h1,h2⟩:=hv3
  exact .inl <| .inl ⟨p,vs,rfl,by rw [h.K]; exact h1.sq st3.sub,Got.newL (Got.of r3) st3 (cut_rep h2)⟩
 | bor k xs =>
  obtain ⟨p,vs,rfl,h1,h2,_⟩:=hv3
  exact .inl <| .inl ⟨p,vs,rfl,.of h1,Got.newL (Got.of r3) st3 (cut_rep h2)⟩
 | tup xs =>
  obtain ⟨p,vs,rfl,h1,h2⟩:=hv3
  have r3:Aft W e3 H3 (.ok (.tup (cut xs l u)) m3) (fun d _ e' H'=>∀ v,RepH W e' H' d v→Q v H') (xkA Wx σ):=r3
  refine .inl <| .inr ⟨p,vs,rfl,by rw [h.K]; exact sqT_sub h1 st3.sub,fun z=>?_,fun _=>Got.newT (Got.of r3) st3 (cut_rep h2)⟩
  rw [h2.length] at z
  have ec:cut xs l u=xs:=by
   unfold cut
   rw [z.1,z.2]; simp
  rw [ec] at r3
  exact r3.now st3 _ ⟨p,vs,rfl,h1,h2⟩
 | str z =>
  have r3:Aft W e3 H3 (match (if z.length≤16777216 then some (Ev.D.str (cutT z l u)) else none) with | some d => .ok d m3 | none => .stuck) (fun d _ e' H'=>∀ v,RepH W e' H' d v→Q v H') (xkA Wx σ):=r3
  cases (show v = .str z from hv3)
  by_cases hz:z.length≤16777216
  ·rw [if_pos hz] at r3
   exact .inr ⟨z,rfl,hz,r3.now st3 _ rfl⟩
  ·rw [if_neg hz] at r3
   exact r3.elim
 | _=>exact r3.elim
end
end Ev
set_option maxRecDepth 100000
set_option maxHeartbeats 2000000
namespace Ev
open PySem PySem.Spec PyProof.Rows L2
section
variable {W:Wd} {X:Cx} {n:Nat} {C:Cl} {Wx:WX} {H0:En} {pins:List (Addr×Obj)} {σ:L2.St} {H H1:Hp} {s:Shared} {e e1:Em} {μ:Mu} {pos p:Pos}
def tFs (W:Wd) (C:Cl) (Wx:WX) (H0:En):Es→List TE
 | .nil=>[]
 | .cons true a es=>tFmt (rE W C Wx H0 a)::tFs W C Wx H0 es
 | .cons false a es=>rE W C Wx H0 a::tFs W C Wx H0 es
end
end Ev
set_option maxRecDepth 100000
set_option maxHeartbeats 2000000
namespace Ev
open PySem PySem.Spec PyProof.Rows L2
theorem wipe_set {σ:L2.St} {i:Nat} {x:Option V}:∀ {vs:List Nat},i∈vs→wipe (σ.set i x) vs=wipe σ vs
 | [],h=>absurd h (by simp)
 | v::vs,h=>by
  have comm:∀ ws:List Nat,wipe (σ.set i x) ws=(wipe σ ws).set i x∨wipe (σ.set i x) ws=wipe σ ws:=by
   intro ws
   induction ws with
   | nil=>exact .inl rfl
   | cons w ws ih =>
    show (wipe (σ.set i x) ws).set w none=((wipe σ ws).set w none).set i x∨(wipe (σ.set i x) ws).set w none=(wipe σ ws).set w none
    rcases ih with ih | ih
    ·rw [ih]
     by_cases hw:w=i
     ·subst hw; right; rw [List.set_set]
     ·left; rw [List.set_comm _ _ (Ne.symm hw)]
    ·right; rw [ih]
  show (wipe (σ.set i x) vs).set v none=(wipe σ vs).set v none
  by_cases hi:i∈vs
  ·rw [wipe_set hi]
  ·have hv:i=v:=by simp only [List.mem_cons] at h; exact h.resolve_right hi
   subst hv
   rcases comm vs with h | h
   ·rw [h,List.set_set]
   ·rw [h]
def Only (t:Tg) (σ σ':L2.St):Prop:=∀ vs,tgIn vs t=true→wipe σ' vs=wipe σ vs
def OnlyS (t:Tgs) (σ σ':L2.St):Prop:=∀ vs,tgsIn vs t=true→wipe σ' vs=wipe σ vs
section
variable {W:Wd} {X:Cx} {n:Nat} {C:Cl} {Wx:WX} {H0:En} {pins:List (Addr×Obj)} {σ:L2.St} {H H1:Hp} {s:Shared} {e e1:Em} {μ:Mu} {a b c:Expr} {A B D':E} {pos p:Pos} {es:List Expr} {ys:Es}
theorem Lo.set {σd:Sg} (l:Lo W e H0 σd σ H) {d:D} {v:V} (i:Nat) (r:Rep W e d v):Lo W e H0 (σd.set i (some (.val d))) (σ.set i (some v)) H:=by
 refine ⟨by simp [l.len],fun j q h=>?_,fun j k q q' w hjk h1 h2 p1 p2 h3=>?_⟩
 ·by_cases hj:j=i
  ·subst hj
   by_cases hl:j < σd.length
   ·rw [List.getElem?_set_self hl] at h; cases h
    exact ⟨v,by rw [List.getElem?_set_self (by rw [l.len]; exact hl)],RepV.to r⟩
   ·rw [List.getElem?_eq_none (by simpa using hl)] at h; cases h
  ·rw [List.getElem?_set_ne (Ne.symm hj)] at h ⊢
   exact l.at_ j q h
 ·have nj:j≠i:=fun z=>by
   subst z
   by_cases hl:j < σd.length
   ·rw [List.getElem?_set_self hl] at h1; cases h1; cases p1
   ·rw [List.getElem?_eq_none (by simpa using hl)] at h1; cases h1
  have nk:k≠i:=fun z=>by
   subst z
   by_cases hl:k < σd.length
   ·rw [List.getElem?_set_self hl] at h2; cases h2; cases p2
   ·rw [List.getElem?_eq_none (by simpa using hl)] at h2; cases h2
  rw [List.getElem?_set_ne (Ne.symm nj)] at h1 h3
  rw [List.getElem?_set_ne (Ne.symm nk)] at h2 ⊢
  exact l.ne j k q q' w hjk h1 h2 p1 p2 h3
theorem Lo.wipe {σd:Sg} (l:Lo W e H0 σd σ H):∀ vs,Lo W e H0 (wipeD σd vs) (wipe σ vs) H
 | []=>l
 | v::vs=>by
  have l:=Lo.wipe l vs
  show Lo W e H0 ((wipeD σd vs).set v none) ((L2.wipe σ vs).set v none) H
  have back:∀ {j:Nat} {q:L},((wipeD σd vs).set v none)[j]?=some (some q)→j≠v∧(wipeD σd vs)[j]?=some (some q):=by
   intro j q h
   by_cases hj:j=v
   ·subst hj
    by_cases hl:j < (wipeD σd vs).length
    ·rw [List.getElem?_set_self hl] at h; cases h
    ·rw [List.getElem?_eq_none (by simpa using hl)] at h; cases h
   ·rw [List.getElem?_set_ne (Ne.symm hj)] at h
    exact ⟨hj,h⟩
  refine ⟨by simp [l.len],fun j q h=>?_,fun j k q q' w hjk h1 h2 p1 p2 h3=>?_⟩
  ·obtain ⟨hj,h⟩:=back h
   rw [List.getElem?_set_ne (Ne.symm hj)]
   exact l.at_ j q h
  ·obtain ⟨nj,h1⟩:=back h1
   obtain ⟨nk,h2⟩:=back h2
   rw [List.getElem?_set_ne (Ne.symm nj)] at h3
   rw [List.getElem?_set_ne (Ne.symm nk)]
   exact l.ne j k q q' w hjk h1 h2 p1 p2 h3
def rG (W:Wd) (H0:En) (t:Tg):TG:=fun v σ H Q=>∃ e μ σd d σd',St0 W e μ H∧Lo W e H0 σd σ H∧Rep W e d v∧bindT t d σd=some σd'∧∀ σ',Lo W e H0 σd' σ' H→Only t σ σ'→Q σ' H
def rGs (W:Wd) (H0:En) (t:Tgs):TGs:=fun vs σ H Q=>∃ e μ σd ds σd',St0 W e μ H∧Lo W e H0 σd σ H∧RepL W e ds vs∧bindTs t ds σd=some σd'∧∀ σ',Lo W e H0 σd' σ' H→OnlyS t σ σ'→Q σ' H
theorem snd_gname (h:Hyp W X n C Wx) {i:Nat} {x:Str} (hi:X.N[i]?=some x) (hx:Loc X.env.scope x) (hf:X.fn x=true∨X.env.scope.names.lookup x=some .local):PG X (.Name x pos) (rG W H0 (.name i)):=by
 refine ⟨fun pins s σ H v u Q I r ⟨e,μ,σd,d,σd',st,lo,rd,hb,k⟩=>?_⟩
 refine (pg_name h.nd hi hx hf).run pins s σ H v u Q I r ?_
 have hb:(if nbD d then some (σd.set i (some (.val d))) else none)=some σd':=hb
 rw [if_pos rd.nb] at hb
 cases hb
 exact k _ (lo.set i rd) fun vs hv=>wipe_set (by simpa [tgIn] using hv)
theorem asg_len:∀ {es:List Expr} {env:Env},(assignEach es env).length=es.length
 | [],_=>rfl
 | x::xs,env=>by cases x <;> (show (assignEach xs env).length+1=xs.length+1) <;> rw [asg_len]
theorem asg_none:∀ {es:List Expr} {env:Env},es.all noStar=true→(assignEach es env).findIdx? (·.1)=none
 | [],_,_=>rfl
 | x::xs,env,h=>by
  rw [List.all_cons,Bool.and_eq_true] at h
  have ih:=asg_none (env:=env) h.2
  have e0:assignEach (x::xs) env=(false,assign x env)::assignEach xs env:=by cases x <;> first | rfl | cases h.1
  rw [e0,List.findIdx?_cons,ih]; rfl
theorem asg_cons {x:Expr} {xs:List Expr} {env:Env} (h:noStar x=true):(assignEach (x::xs) env).map (·.2)=assign x env::(assignEach xs env).map (·.2):=by
 cases x <;> first | rfl | cases h
theorem snd_gnil:PGs X [] (rGs W H0 .nil):=by
 refine ⟨fun pins s σ H vs us Q I r ⟨e,μ,σd,ds,σd',st,lo,rd,hb,k⟩=>?_⟩
 cases ds with
 | nil =>
  cases hb
  exact pgs_nil.run pins s σ H vs us Q I r ⟨rd,k _ lo fun _ _=>rfl⟩
 | cons _ _=>cases hb
theorem snd_gcons {x:Expr} {xs:List Expr} {t:Tg} {ts:Tgs} (hs:noStar x=true) (h1:PG X x (rG W H0 t)) (h2:PGs X xs (rGs W H0 ts)):PGs X (x::xs) (rGs W H0 (.cons t ts)):=by
 refine ⟨fun pins s σ H vs us Q I r ⟨e,μ,σd,ds,σd',st,lo,rd,hb,k⟩=>?_⟩
 cases ds with
 | nil=>cases hb
 | cons d ds =>
  obtain ⟨v,vr,rfl,r1,r2⟩:=rd
  have hb:(bindT t d σd).bind (fun σ'=>bindTs ts ds σ')=some σd':=hb
  cases hq:bindT t d σd with
  | none=>rw [hq] at hb; cases hb
  | some σ1 =>
   rw [hq] at hb
   refine (pgs_cons h1 h2 (asg_cons hs)).run pins s σ H _ us Q I r ⟨v,vr,rfl,e,μ,σd,d,σ1,st,lo,r1,hq,fun σ' lo' on=>⟨e,μ,σ1,ds,σd',st,lo',r2,hb,fun σ'' lo'' on'=>k σ'' lo'' fun vs hv=>?_⟩⟩
   have hv:(tgIn vs t&&tgsIn vs ts)=true:=hv
   rw [Bool.and_eq_true] at hv
   rw [on' vs hv.2,on vs hv.1]
theorem snd_gtup (h:Hyp W X n C Wx) {ts:Tgs} {kk:Nat} (hs:es.all noStar=true) (hp:PGs X es (rGs W H0 ts)) (hlen:∀ ds σd σd',bindTs ts ds σd=some σd'→ds.length=es.length):PG X (.Tuple es kk pos) (rG W H0 (.tup ts)):=by
 refine ⟨fun pins s σ H v u Q I r ⟨e,μ,σd,d,σd',st,lo,rd,hb,k⟩=>?_⟩
 cases d with
 | tup xs =>
  obtain ⟨a,vs,rfl,h1,h2⟩:=rd
  exact (EvW.pg_tupW (n:=es.length) h.warmW hp asg_len (asg_none hs)).run pins s σ H _ u Q I r ⟨a,vs,rfl,by rw [h.K]; exact sqT_sub h1 st.sub,by rw [h2.length]; exact hlen _ _ _ hb,e,μ,σd,xs,σd',st,lo,h2,hb,k⟩
 | lst xs =>
  obtain ⟨a,vs,rfl,h1,h2⟩:=rd
  exact (EvW.pg_lstW (n:=es.length) h.warmW hp asg_len (asg_none hs)).run pins s σ H _ u Q I r ⟨a,vs,rfl,by rw [h.K]; exact h1.sq st.sub,by rw [h2.length]; exact hlen _ _ _ hb,e,μ,σd,xs,σd',st,lo,h2,hb,k⟩
 | _=>cases hb
end
end Ev
set_option maxRecDepth 100000
set_option maxHeartbeats 2000000
namespace EvW
open PySem PySem.Spec PyProof.Rows L2 EvH
section
variable {prog:Program} {w:World} {A:Around} {E:Value→Shared→Prop} {s:Shared}
theorem nextOf_warm {it l:Addr} {i:Nat} {xs:Array Value} {Q:Value→Shared→Prop} (hw:WarmAt A s.heap) (hit:s.heap.IsListIter it l i) (hl:s.heap.IsList l xs) (hx:xs[i]?=none)
  (hE:∀ h' e,(∀ b o,b≠it→s.heap.get? b=some o→h'.get? b=some o)→(∃ o,h'.get? e=some o∧o.cls = .type "StopIteration")→E (.ref e) { s with heap:=h' }):wpAny (model prog w) A (Builtin.SmallTypes.nextOf (.ref it)) Q E s:=by
 obtain ⟨o,ho,hc,hd⟩:=id hit
 obtain ⟨ol,hol,_,nl,hdl⟩:=hl
 have nc:¬ HasCtx s.heap it:=no_ctx ho hd (by simp)
 unfold Builtin.SmallTypes.nextOf
 refine wpAny_bind (wpAny_callSpecial?_slot (name:=Str.ofString "__next__") hit.typeIs slot_listiter_next (wpAny_call_entry slot_listiter_next hit.typeIs entry_listiter_next ?_ (args_listiter_next _)))
 show wpAny _ _ (field (.ref it) 0 >>= _) _ _ s
 refine wpAny_bind (wpAny_field ho hd (x:=.ref l) rfl ?_)
 show wpAny _ _ (if (Value.ref l == Value.none)=true then _ else _) _ _ s
 rw [if_neg (show ¬ ((Value.ref l == Value.none)=true) from Bool.false_ne_true)]
 show wpAny _ _ (field (.ref it) 1 >>= _) _ _ s
 refine wpAny_bind (wpAny_field ho hd (x:=.int i 0) rfl ?_)
 show wpAny _ _ (seqItems? (.ref l) >>= _) _ _ s
 refine wpAny_bind (wpAny_seqItems hol hdl ?_)
 simp only [Int.toNat_natCast,hx]
 refine wpAny_bind (wpAny_rule (wpAny_bind (wpAny_setField ho hd (by simp) ?_)))
 have k:∀ b o',b≠it→s.heap.get? b=some o'→(s.heap.update it (Obj.mapFields (·.setIfInBounds 0 Value.none))).get? b=some o':=fun b o' hb e=>by
  rw [Heap.get?_update_other _ _ (Ne.symm hb)]; exact e
 refine stop_warm (A:=A.in1) (s:={ s with heap:=s.heap.update it (Obj.mapFields (·.setIfInBounds 0 Value.none)) }) (hw.but nc k) fun h' a kk ⟨oa,ha,hca⟩=>?_
 exact hE h' a (fun b o' hb e=>kk b o' (k b o' hb e)) ⟨oa,ha,hca⟩
theorem enum_end_warm {e it l:Addr} {i:Nat} {xs:Array Value} {old:Value} {Q:Option Value→Shared→Prop} (hw:WarmAt A s.heap) (he:IsEnum s.heap e it i old) (hit:s.heap.IsListIter it l i) (hl:s.heap.IsList l xs) (hx:xs[i]?=none)
  (hQ:∀ h',(∀ b o,b≠it→s.heap.get? b=some o→h'.get? b=some o)→Q none { s with heap:=h' }):wpAny (model prog w) A (pyNext (.ref e)) Q E s:=by
 have hT:s.TypeIs (.ref e) "enumerate":=⟨_,he,rfl⟩
 unfold pyNext
 refine wpAny_bind (wpAny_attempt (wpAny_callSpecial?_slot (name:=Str.ofString "__next__") hT F.slot_enumerate_next (wpAny_call_entry F.slot_enumerate_next hT F.entry_enumerate_next ?_ (F.args_enumerate_next_1 _))))
 show wpAny _ _ (field (.ref e) 2 >>= _) _ _ _
 refine wpAny_bind (wpAny_field he rfl (x:=.ref it) rfl (wpAny_bind (nextOf_warm hw.in1 hit hl hx fun h' x k hst=>?_)))
 obtain ⟨o,ho,hc⟩:=hst
 exact wpAny_bind (wpAny_isInstance (T:= "StopIteration") (b:=true) ⟨o,ho,hc⟩ isSubtype_stop (wpAny_pure (hQ h' k)))
end
end EvW
namespace EvW
open PySem PySem.Spec PyProof.Rows L2 EvH
theorem turn_enumW {P:Program} {w:World} {K:PySem.W.Frag} {tg:Expr} {elts:List Expr} {kk:Nat} {tpos:Pos} (ht:tg = .Tuple elts kk tpos) (a e it:Addr) :
  TurnW P w K tg (Ite K a) [e,it] e (fun i h=>(∃ old,IsEnum h e it ((i:Nat):Int) old)∧h.IsListIter it a i∧e≠it) where
 mem:=by simp
 obj:=(turn_enum (P:=P) (w:=w) (K:=K) (elts:=elts) (kk:=kk) (tpos:=tpos) a e it).obj
 keep:=(turn_enum (P:=P) (w:=w) (K:=K) (elts:=elts) (kk:=kk) (tpos:=tpos) a e it).keep
 item:=by
  subst ht
  rintro X rfl rfl rfl hc i pins s σ H E I hf ⟨⟨old,he⟩,hit,hne⟩ ⟨xs,x,hq,hx⟩
  obtain ⟨its,rv,p,hz⟩:=I.list hq
  obtain ⟨u,hu,ru⟩:=rv.get hx
  have hel:=Heap.lt_size he
  have hil:it < s.heap.objs.size:=by obtain ⟨_,q,_⟩:=hit; exact Heap.lt_size q
  have mem2:∀ b∈[e,it],b < s.heap.objs.size:=fun b hb=>by
   rcases (by simpa using hb:b=e∨b=it) with rfl | rfl
   ·exact hel
   ·exact hil
  refine wpAny_pyNext_enum_item he hit p.isList (x:=u) (by simpa using hu) hne fun g1 ho hit1 hT hsz hk=>⟨_,rfl,wpAny_letOwnedTupleGo_enum (s:={ s with heap:=g1,toks:=s.toks+1 }) ho fun g2 he2 sb=>?_⟩
  have hT2:g2.get? s.heap.objs.size=some { cls:=.type "tuple",data:=.seq #[.int i s.toks,u] }:=(sb.2 _ (Nat.ne_of_gt hel)).trans hT
  have I1:Inv X pins σ (upd H s.heap.objs.size (.tup [.int (i:Nat),x])) { s with heap:=g2,toks:=s.toks+1 }:=
   I.turnedNew (ch:=[e,it]) (fun b ob hb q=>(sb.2 b (fun z=>hb (by simp [z]))).trans (hk b ob (fun z=>hb (by simp [z])) (fun z=>hb (by simp [z])) q)) hf (Nat.le_refl _)
    ⟨by show 2≤sizeLine; decide,[.int i s.toks,u],.cons ⟨_,rfl⟩ (.cons ru .nil),⟨_,hT2,rfl,_,rfl⟩⟩
  refine ⟨.ref s.heap.objs.size,_,I1,rfl,⟨_,x,rfl,I.hok.fresh (Nat.le_refl _),rfl,fun ys hy=>by rw [I.list_inj hy hq]; exact hx⟩,⟨⟨u,?_⟩,hit1.at fun o q=>(sb.2 it (Ne.symm hne)).trans q,hne⟩,fun b hb=>?_⟩
  ·rw [show ((i+1:Nat):Int)=(i:Int)+1 by omega]; exact he2
  ·rw [upd_ne (Nat.ne_of_lt (mem2 b hb))]; exact (hf b hb).1
 done:=by
  rintro X rfl rfl rfl hc i pins s σ H E I hf ⟨⟨old,he⟩,hit,hne⟩ ⟨xs,hq,hx⟩
  obtain ⟨its,rv,p,hz⟩:=I.list hq
  obtain ⟨f0,f1,f2,f3,f4,f5⟩:=hf it (by simp)
  have hl:=rv.length
  exact enum_end_warm (hc.at_ I) he hit p.isList (by simp; omega) fun h1 eb=>⟨rfl,I.turned (t':=s.toks) (fun b o hb q=>eb b o hb q) f0 f1 f3 f4 f5⟩
 self:=(turn_enum (P:=P) (w:=w) (K:=K) (elts:=elts) (kk:=kk) (tpos:=tpos) a e it).self
section
variable {X:Cx}
end
end EvW
set_option maxRecDepth 100000
set_option maxHeartbeats 2000000
namespace EvW
open PySem PySem.Spec PyProof.Rows L2 EvH
theorem meets_enum1 {v:Value} {o:Obj} {H:Heap→Prop} (B:Begins v o H) :
  Meets (Builtin.«enumerate.__new__» ⟨[.type "enumerate",v],[]⟩) (fun _ R s=>H s.heap ∧
   R (.ok (.ret (.ref (s.heap.push o).objs.size))) { s with heap:=(s.heap.push o).push { cls:=.type "enumerate",data:=.fields #[.none,.bool false,.ref s.heap.objs.size,rawInt 0,.none,.none] } }):=
 .of_wp fun prog w A R s h=>by
  obtain ⟨hp,g,d,tk,os⟩:=s; obtain ⟨h1,h⟩:=h
  have hsub:=sub_enumerate
  have q1:∀ {A':Around} {E:Value→Shared→Prop} {Q:Value→Shared→Prop},Q (.ref hp.objs.size) ⟨hp.push o,g,d,tk,os⟩→wpAny (model prog w) A' (pyIter v) Q E ⟨hp,g,d,tk,os⟩:=
   fun q=>B.iter prog w _ _ ⟨hp,g,d,tk,os⟩ _ h1 q
  wp_walk using q1
  refine wpAny_stack_any fun st=>wpAny_pure ?_
  split
  ·rename_i c _ _ _ _ _
   cases (c == Value.type "enumerate")
   ·wp_walk using q1
    exact ⟨_,rfl,h⟩
   ·wp_walk using q1
    exact ⟨_,rfl,h⟩
  ·wp_walk using q1
   exact ⟨_,rfl,h⟩
section
variable {prog:Program} {w:World} {A:Around} {E:Value→Shared→Prop} {s:Shared}
theorem call_enum1 {v:Value} {o:Obj} {H:Heap→Prop} {Q:Value→Shared→Prop} (B:Begins v o H) (h1:H s.heap)
  (h:∀ h',IsEnum h' (s.heap.objs.size+1) s.heap.objs.size 0 .none→h'.get? s.heap.objs.size=some o→h'.objs.size=s.heap.objs.size+2 →
   (∀ b o,s.heap.get? b=some o→h'.get? b=some o)→Q (.ref (s.heap.objs.size+1)) { s with heap:=h' }) :
  wpAny (model prog w) A (call (.type "enumerate") [v]) Q E s:=by
 refine callType_new F.called_enumerate (by decide) (F.typeCall_enumerate_1 _) (F.newCall_enumerate_1 _) (fun obj=>F.args_object_init_2 obj _) F.entry_enumerate_new (meets_enum1 B) ⟨h1,?_⟩
 have hz:(s.heap.push o).objs.size=s.heap.objs.size+1:=Heap.size_push ..
 show _∧_
 rw [hz]
 have he:IsEnum ((s.heap.push o).push { cls:=.type "enumerate",data:=.fields #[.none,.bool false,.ref s.heap.objs.size,rawInt 0,.none,.none] }) (s.heap.objs.size+1) s.heap.objs.size 0 .none:=by
  have:=Heap.get?_push_size (s.heap.push o) (o:={ cls:=.type "enumerate",data:=.fields #[.none,.bool false,.ref s.heap.objs.size,rawInt 0,.none,.none] }) rfl
  rw [hz] at this; exact this
 exact ⟨⟨_,he,rfl⟩,h _ he (Heap.get?_push_of_some _ (Heap.get?_push_size _ B.free)) (by rw [Heap.size_push,hz]) fun b o x=>Heap.get?_push_of_some _ (Heap.get?_push_of_some _ x)⟩
theorem nextOf_warmT {it t:Addr} {i:Nat} {xs:Array Value} {Q:Value→Shared→Prop} (hw:WarmAt A s.heap) (hit:s.heap.IsTupleIter it t i) (ht:s.heap.IsTuple t xs) (hx:xs[i]?=none)
  (hE:∀ h' e,(∀ b o,b≠it→s.heap.get? b=some o→h'.get? b=some o)→(∃ o,h'.get? e=some o∧o.cls = .type "StopIteration")→E (.ref e) { s with heap:=h' }):wpAny (model prog w) A (Builtin.SmallTypes.nextOf (.ref it)) Q E s:=by
 obtain ⟨o,ho,hc,hd⟩:=id hit
 obtain ⟨ol,hol,_,nl,hdl⟩:=ht
 have nc:¬ HasCtx s.heap it:=no_ctx ho hd (by simp)
 unfold Builtin.SmallTypes.nextOf
 refine wpAny_bind (wpAny_callSpecial?_slot (name:=Str.ofString "__next__") hit.typeIs F.slot_tuple_iterator_next (wpAny_call_entry F.slot_tuple_iterator_next hit.typeIs F.entry_tuple_iterator_next ?_ (F.args_tuple_iterator_next_1 _)))
 show wpAny _ _ (field (.ref it) 0 >>= _) _ _ s
 refine wpAny_bind (wpAny_field ho hd (x:=.ref t) rfl ?_)
 show wpAny _ _ (if (Value.ref t == Value.none)=true then _ else _) _ _ s
 rw [if_neg (show ¬ ((Value.ref t == Value.none)=true) from Bool.false_ne_true)]
 show wpAny _ _ (field (.ref it) 1 >>= _) _ _ s
 refine wpAny_bind (wpAny_field ho hd (x:=.int i 0) rfl ?_)
 show wpAny _ _ (seqItems? (.ref t) >>= _) _ _ s
 refine wpAny_bind (wpAny_seqItems hol hdl ?_)
 simp only [Int.toNat_natCast,hx]
 refine wpAny_bind (wpAny_rule (wpAny_bind (wpAny_setField ho hd (by simp) ?_)))
 have k:∀ b o',b≠it→s.heap.get? b=some o'→(s.heap.update it (Obj.mapFields (·.setIfInBounds 0 Value.none))).get? b=some o':=fun b o' hb e=>by
  rw [Heap.get?_update_other _ _ (Ne.symm hb)]; exact e
 refine stop_warm (A:=A.in1) (s:={ s with heap:=s.heap.update it (Obj.mapFields (·.setIfInBounds 0 Value.none)) }) (hw.but nc k) fun h' a kk ⟨oa,ha,hca⟩=>?_
 exact hE h' a (fun b o' hb e=>kk b o' (k b o' hb e)) ⟨oa,ha,hca⟩
theorem enum_end_warmT {e it l:Addr} {i:Nat} {xs:Array Value} {old:Value} {Q:Option Value→Shared→Prop} (hw:WarmAt A s.heap) (he:IsEnum s.heap e it i old) (hit:s.heap.IsTupleIter it l i) (hl:s.heap.IsTuple l xs) (hx:xs[i]?=none)
  (hQ:∀ h',(∀ b o,b≠it→s.heap.get? b=some o→h'.get? b=some o)→Q none { s with heap:=h' }):wpAny (model prog w) A (pyNext (.ref e)) Q E s:=by
 have hT:s.TypeIs (.ref e) "enumerate":=⟨_,he,rfl⟩
 unfold pyNext
 refine wpAny_bind (wpAny_attempt (wpAny_callSpecial?_slot (name:=Str.ofString "__next__") hT F.slot_enumerate_next (wpAny_call_entry F.slot_enumerate_next hT F.entry_enumerate_next ?_ (F.args_enumerate_next_1 _))))
 show wpAny _ _ (field (.ref e) 2 >>= _) _ _ _
 refine wpAny_bind (wpAny_field he rfl (x:=.ref it) rfl (wpAny_bind (nextOf_warmT hw.in1 hit hl hx fun h' x k hst=>?_)))
 obtain ⟨o,ho,hc⟩:=hst
 exact wpAny_bind (wpAny_isInstance (T:= "StopIteration") (b:=true) ⟨o,ho,hc⟩ isSubtype_stop (wpAny_pure (hQ h' k)))
end
def hdl (A:Around):List Addr:=match A.handled with
 | some (.ref x)=>[x]
 | _=>[]
theorem draws_tup {prog:Program} {w:World} {A:Around} (it t:Addr) (hne:t≠it) (items:Array Value) :
  Draws prog w A it (it::t::hdl A) items.size (fun i v=>items[i]?=some v) (fun i h=>h.IsTupleIter it t i∧h.IsTuple t items∧WarmAt A h) where
 live:=fun _ _ st=>let ⟨o,ho,_⟩:=st.1; ⟨o,ho⟩
 frame:=fun _ _ _ st hk=>⟨st.1.at fun o e=>hk it (by simp) o e,st.2.1.at fun o e=>hk t (by simp) o e,by
  rcases st.2.2 with q | ⟨x,hh,o,vs,g,d,c⟩
  ·exact .inl q
  ·exact .inr ⟨x,hh,o,vs,hk x (by simp [hdl,hh]) o g,d,c⟩⟩
 item:=fun i s Q E hi st hQ=>by
  refine wpAny_nextOf_tuple_item st.1 st.2.1 (x:=items[i]) (by simp [hi]) fun h' hit' hs'=>?_
  have nc:¬ HasCtx s.heap it:=by obtain ⟨o,ho,hc,hd⟩:=st.1; exact no_ctx ho hd (by simp)
  exact hQ _ h' s.toks (by simp [hi]) ⟨hit',st.2.1.extBut hs'.extBut hne,st.2.2.but nc hs'.extBut⟩ hs'
 done:=fun s Q E st hE=>nextOf_warmT st.2.2 st.1 st.2.1 (by simp) hE
def Itet (K:PySem.W.Frag) (a:Addr):It:=
 ⟨fun i H=>∃ (xs:List V) (x:V),SqT K H a xs∧xs[i]?=some x,fun i H v H'=>∃ T x,v = .ref T∧H T=none∧H'=upd H T (.tup [.int (i:Nat),x])∧∀ xs,SqT K H a xs→xs[i]?=some x,fun i H=>∃ xs:List V,SqT K H a xs∧xs.length≤i⟩
theorem turn_enumT {P:Program} {w:World} {K:PySem.W.Frag} {tg:Expr} {elts:List Expr} {kk:Nat} {tpos:Pos} (ht:tg = .Tuple elts kk tpos) (a e it:Addr) :
  TurnW P w K tg (Itet K a) [e,it] e (fun i h=>(∃ old,IsEnum h e it ((i:Nat):Int) old)∧h.IsTupleIter it a i∧e≠it) where
 mem:=by simp
 obj:=fun i h st b hb=>by
  obtain ⟨⟨old,he⟩,⟨o,ho,hc,hd⟩,_⟩:=st
  have e':b=e∨b=it:=by simpa using hb
  rcases e' with z | z
  ·rw [z]; exact ⟨_,he,fun v q=>nomatch q⟩
  ·rw [z]; exact ⟨o,ho,fun v q=>by rw [hd] at q; cases q⟩
 keep:=fun i h h' st k=>let ⟨⟨old,he⟩,hi,hne⟩:=st; ⟨⟨old,k e (by simp) _ he⟩,hi.at fun o q=>k it (by simp) o q,hne⟩
 item:=by
  subst ht
  rintro X rfl rfl rfl hc i pins s σ H E I hf ⟨⟨old,he⟩,hit,hne⟩ ⟨xs,x,hq,hx⟩
  obtain ⟨its,rv,p,hz⟩:=I.tuple hq
  have hT:s.heap.IsTuple a its.toArray:=p
  obtain ⟨u,hu,ru⟩:=rv.get hx
  have hel:=Heap.lt_size he
  have hil:it < s.heap.objs.size:=by obtain ⟨_,q,_⟩:=hit; exact Heap.lt_size q
  have mem2:∀ b∈[e,it],b < s.heap.objs.size:=fun b hb=>by
   rcases (by simpa using hb:b=e∨b=it) with rfl | rfl
   ·exact hel
   ·exact hil
  have hai:a≠it:=by
   rintro rfl
   obtain ⟨o1,g1,c1,_⟩:=hT
   obtain ⟨o2,g2,c2,_⟩:=hit
   rw [g1] at g2; cases g2
   rw [c1] at c2; simp at c2
  have hw:WarmAt X.A s.heap:=hc.at_ I
  have hef:e∉it::a::hdl X.A.in1:=by
   intro hm
   rcases List.mem_cons.mp hm with z | hm
   ·exact hne z
   rcases List.mem_cons.mp hm with z | hm
   ·obtain ⟨o1,g1,c1,_⟩:=hT
    rw [← z,he] at g1; cases g1
    simp at c1
   ·rcases hw with q | ⟨x0,hh,o,vs,g,d,c⟩
    ·rw [show hdl X.A.in1=[] from by unfold hdl; rw [show X.A.in1.handled=none from q]] at hm
     cases hm
    ·rw [show hdl X.A.in1=[x0] from by unfold hdl; rw [show X.A.in1.handled=some (.ref x0) from hh]] at hm
     have z:e=x0:=by simpa using hm
     subst z
     rw [he] at g; cases g
     cases d
     simp at c
  refine wpAny_pyNext_enum_itemC (draws_tup (A:=X.A.in1) it a hai its.toArray) he ⟨hit,hT,hw.in1⟩ (i:=i) (by have:=(List.getElem?_eq_some_iff.mp hu).1; simpa using this) hne hef fun u1 g1 tk hP ho st1 hTu hsz hk=>⟨_,rfl,wpAny_letOwnedTupleGo_enum (s:={ s with heap:=g1,toks:=tk+1 }) ho fun g2 he2 sb=>?_⟩
  have hu1:u1=u:=by
   have z:its[i]?=some u1:=by simpa using hP
   rw [hu] at z; cases z; rfl
  subst hu1
  have hT2:g2.get? s.heap.objs.size=some { cls:=.type "tuple",data:=.seq #[.int i tk,u1] }:=(sb.2 _ (Nat.ne_of_gt hel)).trans hTu
  have I1:Inv X pins σ (upd H s.heap.objs.size (.tup [.int (i:Nat),x])) { s with heap:=g2,toks:=tk+1 }:=
   I.turnedNew (ch:=[e,it]) (fun b ob hb q=>(sb.2 b (fun z=>hb (by simp [z]))).trans (hk b ob (fun z=>hb (by simp [z])) (fun z=>hb (by simp [z])) q)) hf (Nat.le_refl _)
    ⟨by show 2≤sizeLine; decide,[.int i tk,u1],.cons ⟨_,rfl⟩ (.cons ru .nil),⟨_,hT2,rfl,_,rfl⟩⟩
  refine ⟨.ref s.heap.objs.size,_,I1,rfl,⟨_,x,rfl,I.hok.fresh (Nat.le_refl _),rfl,fun ys hy=>by rw [I.tuple_inj hy hq]; exact hx⟩,⟨⟨u1,?_⟩,st1.1.at fun o q=>(sb.2 it (Ne.symm hne)).trans q,hne⟩,fun b hb=>?_⟩
  ·rw [show ((i+1:Nat):Int)=(i:Int)+1 by omega]; exact he2
  ·rw [upd_ne (Nat.ne_of_lt (mem2 b hb))]; exact (hf b hb).1
 done:=by
  rintro X rfl rfl rfl hc i pins s σ H E I hf ⟨⟨old,he⟩,hit,hne⟩ ⟨xs,hq,hx⟩
  obtain ⟨its,rv,p,hz⟩:=I.tuple hq
  obtain ⟨f0,f1,f2,f3,f4,f5⟩:=hf it (by simp)
  have hl:=rv.length
  exact enum_end_warmT (hc.at_ I) he hit (show s.heap.IsTuple a its.toArray from p) (by simp; omega) fun h1 eb=>⟨rfl,I.turned (t':=s.toks) (fun b o hb q=>eb b o hb q) f0 f1 f3 f4 f5⟩
 self:=fun A i s Q E st h=>let ⟨⟨_,he⟩,_⟩:=st; wpAny_pyIter_enum he h
def iEnumA (K:PySem.W.Frag) (ta:TA):TI:=fun σ H R=>ta σ H fun vs H1=>∃ a,vs=[.ref a]∧(((∃ xs,SqL K H1 a xs)∧R (Ite K a) H1)∨((∃ xs,SqT K H1 a xs)∧R (Itet K a) H1))
theorem pi_enumA {X:Cx} {tg e:Expr} {ta:TA} {p pos tpos:Pos} {elts:List Expr} {kk:Nat} (ht:tg = .Tuple elts kk tpos) (hg:Gl X "enumerate") (hm:X.mg "enumerate" = none) (ha:PA X [e] ta) (hs:starEach [e] X.env=[(false,eval e X.env)]) :
  PIW X tg (.Call (.Name "enumerate" p) [e] [] pos) (iEnumA X.K ta):=by
 refine ⟨fun pins s σ H R I h=>Call_ (ld_blt I hg hm boot_enumerate (PyProof.Rows.callWith_type1 (thn (ha.run pos pins s σ H _ I h) fun us s1 ⟨vs,H1,I1,r1,a,ex,hq⟩=>?_) hs rfl))⟩
 subst ex
 obtain ⟨u,rfl,ru⟩:=vals1 r1
 cases ru
 have fp:∀ b∈[s1.heap.objs.size+1,s1.heap.objs.size],FpOk X pins H1 b:=fun b hb=>by
  have hle:s1.heap.objs.size≤b:=by
   rcases (by simpa using hb:b=s1.heap.objs.size+1∨b=s1.heap.objs.size) with rfl | rfl
   ·exact Nat.le_add_right _ _
   ·exact Nat.le_refl _
  exact I1.fpOk hle (I1.hok.fresh hle)
 rcases hq with ⟨⟨xs,hq⟩,q⟩ | ⟨⟨xs,hq⟩,q⟩
 ·obtain ⟨its,rv,p',hz⟩:=I1.list hq
  refine call_enumerate_list p'.isList fun g he hit hsz hk=>wpAny_pyIter_enum he ?_
  exact ⟨s1.heap.objs.size+1,[s1.heap.objs.size+1,s1.heap.objs.size],_,_,H1,rfl,I1.kept (t':=s1.toks) hk,turn_enumW ht a (s1.heap.objs.size+1) s1.heap.objs.size,⟨⟨.none,he⟩,hit,Nat.succ_ne_self _⟩,fp,q⟩
 ·obtain ⟨its,rv,p',hz⟩:=I1.tuple hq
  refine call_enum1 (begins_tuple a its.toArray) (show s1.heap.IsTuple a its.toArray from p') fun g he hit hsz hk=>wpAny_pyIter_enum he ?_
  exact ⟨s1.heap.objs.size+1,[s1.heap.objs.size+1,s1.heap.objs.size],_,_,H1,rfl,I1.kept (t':=s1.toks) hk,turn_enumT ht a (s1.heap.objs.size+1) s1.heap.objs.size,⟨⟨.none,he⟩,⟨_,hit,rfl,rfl⟩,Nat.succ_ne_self _⟩,fp,q⟩
end EvW
set_option maxRecDepth 100000
set_option maxHeartbeats 2000000
namespace EvW
open PySem PySem.Spec PyProof.Rows L2 EvH
def IterAt:Bool→Heap→Addr→Addr→Nat→Prop
 | true,h,it,a,i=>h.IsTupleIter it a i
 | false,h,it,a,i=>h.IsListIter it a i
def SeqAt:Bool→Heap→Addr→Array Value→Prop
 | true,h,a,xs=>h.IsTuple a xs
 | false,h,a,xs=>h.IsList a xs
theorem IterAt.at {t:Bool} {h h':Heap} {it a:Addr} {i:Nat} (x:IterAt t h it a i) (k:∀ o,h.get? it=some o→h'.get? it=some o):IterAt t h' it a i:=by
 cases t <;> (obtain ⟨o,ho,r⟩:=x; exact ⟨o,k o ho,r⟩)
theorem SeqAt.at {t:Bool} {h h':Heap} {a:Addr} {xs:Array Value} (x:SeqAt t h a xs) (k:∀ o,h.get? a=some o→h'.get? a=some o):SeqAt t h' a xs:=by
 cases t <;> (obtain ⟨o,ho,r⟩:=x; exact ⟨o,k o ho,r⟩)
theorem IterAt.get {t:Bool} {h:Heap} {it a:Addr} {i:Nat} (x:IterAt t h it a i):∃ o,h.get? it=some o∧o.data = .fields #[.ref a,.int i 0]:=by
 cases t <;> (obtain ⟨o,ho,_,hd⟩:=x; exact ⟨o,ho,hd⟩)
theorem SeqAt.get {t:Bool} {h:Heap} {a:Addr} {xs:Array Value} (x:SeqAt t h a xs):∃ o,h.get? a=some o∧∃ n,o.data = .seq xs n:=by
 cases t <;> (obtain ⟨o,ho,_,hd⟩:=x; exact ⟨o,ho,hd⟩)
section
variable {prog:Program} {w:World} {A:Around} {E:Value→Shared→Prop} {s:Shared}
section
variable {t1 t2:Bool} {z TI TO i1 i2 l1 l2:Addr} {k1 k2:Nat} {xs ys:Array Value} {f0:Value} {f:Bool}
end
end
end EvW
set_option maxRecDepth 100000
set_option maxHeartbeats 2000000
namespace EvW
open PySem PySem.Spec PyProof.Rows L2 EvH
section
variable {prog:Program} {w:World} {A:Around} {E:Value→Shared→Prop} {s:Shared}
section
variable {t1 t2:Bool} {e z TI TO i1 i2 l1 l2:Addr} {k:Nat} {c:Int} {xs ys:Array Value} {old:Value}
end
end
end EvW
set_option maxRecDepth 100000
set_option maxHeartbeats 2000000
namespace EvW
open PySem PySem.Spec PyProof.Rows L2 EvH
section
variable {P:Program} {w:World} {K:PySem.W.Frag} {tg:Expr} {elts:List Expr} {kk:Nat} {tpos:Pos} {t1 t2:Bool} {a b e z TI TO i1 i2:Addr}
end
section
variable {X:Cx} {tg e e2:Expr} {ta:TA} {p pos tpos p2 pos2:Pos} {elts:List Expr} {kk:Nat}
end
end EvW
set_option maxRecDepth 100000
set_option maxHeartbeats 2000000
namespace Ev
open PySem PySem.Spec PyProof.Rows L2
structure Gr (e e':Em):Prop where
 g:∀ a o,e.G a=some o→e'.G a=some o
 r:∀ i a,e.r i=some a→e'.r i=some a
theorem Gr.refl (e:Em):Gr e e:=⟨fun _ _ h=>h,fun _ _ h=>h⟩
theorem Gr.trans {e e1 e2:Em} (x:Gr e e1) (y:Gr e1 e2):Gr e e2:=⟨fun a o h=>y.g a o (x.g a o h),fun i a h=>y.r i a (x.r i a h)⟩
theorem Ex.gr {e e':Em} {H H':Hp} (x:Ex e H e' H'):Gr e e':=⟨x.g,x.r⟩
def Later (brw:Bool) (e:Em) (H:Hp) (e':Em) (H':Hp):Prop:=if brw then Ex e H e' H' else Gr e e'
theorem Later.gr {brw:Bool} {e e':Em} {H H':Hp} (l:Later brw e H e' H'):Gr e e':=by
 cases brw with
 | true=>exact Ex.gr (H:=H) (H':=H') l
 | false=>exact l
structure Wk (W:Wd) (brw:Bool) (J:L2.It) (xs:List D) (e:Em) (H:Hp):Prop where
 stop:∀ i e' m H',Later brw e H e' H'→St0 W e' m H'→xs.length≤i→J.stop i H'
 go:∀ i e' m H',Later brw e H e' H'→St0 W e' m H'→i < xs.length→J.go i H'
 yld:∀ i e' m H' v H'',Later brw e H e' H'→St0 W e' m H'→i < xs.length→J.yld i H' v H''→∃ e'' d,xs[i]?=some d∧Rep W e'' d v∧Ex e' H' e'' H''∧St0 W e'' m H''
def rI (W:Wd) (C:Cl) (Wx:WX) (H0:En) (brw:Bool) (a:Ev.It):TI:=fun σ H R=>∃ e μ σd,St0 W e μ H∧Lo W e H0 σd σ H∧Aft W e H (evIt C brw a σd μ) (fun xs m e1 H1=>∀ (J:L2.It),Wk W brw J xs e1 H1→R J H1) (xkA Wx σ)
section
variable {W:Wd} {X:Cx} {n:Nat} {C:Cl} {Wx:WX} {H0:En} {pins:List (Addr×Obj)} {σ:L2.St} {H H1:Hp} {s:Shared} {e e1:Em} {μ:Mu} {a b c tg:Expr} {A B D':E} {pos p:Pos} {es:List Expr} {ys:Es}
theorem wk_list (h:Hyp W X n C Wx) {brw:Bool} {xs:List D} {vs:List V} {q:Addr} (r:RepL W e xs vs) (l:∀ e' m H',Later brw e H e' H'→St0 W e' m H'→SqL W.K H' q vs):Wk W brw (Itl W.K q) xs e H:=by
 refine ⟨fun i e' m H' x st hi=>⟨vs,l e' m H' x st,by rw [r.length]; exact hi⟩,fun i e' m H' x st hi=>?_,fun i e' m H' v H'' x st hi y=>?_⟩
 ·have hi':i < vs.length:=by rw [r.length]; exact hi
  exact ⟨vs,vs[i],l e' m H' x st,List.getElem?_eq_getElem hi'⟩
 ·obtain ⟨rfl,hy⟩:=y
  obtain ⟨d,hd,rd⟩:=r.getV (hy vs (l e' m _ x st))
  exact ⟨e',d,hd,rd.mono x.gr.g x.gr.r d v,Ex.refl e' H'',st⟩
theorem wk_tup (h:Hyp W X n C Wx) {brw:Bool} {xs:List D} {vs:List V} {q:Addr} (r:RepL W e xs vs) (l:∀ e' m H',Later brw e H e' H'→St0 W e' m H'→SqT W.K H' q vs):Wk W brw (Itt W.K q) xs e H:=by
 refine ⟨fun i e' m H' x st hi=>⟨vs,l e' m H' x st,by rw [r.length]; exact hi⟩,fun i e' m H' x st hi=>?_,fun i e' m H' v H'' x st hi y=>?_⟩
 ·have hi':i < vs.length:=by rw [r.length]; exact hi
  exact ⟨vs,vs[i],l e' m H' x st,List.getElem?_eq_getElem hi'⟩
 ·obtain ⟨rfl,hy⟩:=y
  obtain ⟨d,hd,rd⟩:=r.getV (hy vs (l e' m _ x st))
  exact ⟨e',d,hd,rd.mono x.gr.g x.gr.r d v,Ex.refl e' H'',st⟩
def iSq (K:PySem.W.Frag) (tl:TE):TI:=fun σ H R=>tl σ H fun x H1=>∃ a,x = .ref a∧(((∃ xs,SqL K H1 a xs)∧R (Itl K a) H1)∨((∃ xs,SqT K H1 a xs)∧R (Itt K a) H1))
theorem pi_sq {l:Expr} {tl:TE} (hl:PE X l tl):EvW.PIW X tg l (iSq X.K tl):=by
 refine ⟨fun pins s σ H R I h=>?_⟩
 refine thn (hl.run pins s σ H _ I h) fun v s1 ⟨x,H1,I1,r1,q1⟩=>?_
 obtain ⟨a,rfl,q1⟩:=q1
 cases r1
 rcases q1 with ⟨⟨xs,hq⟩,q⟩ | ⟨⟨xs,hq⟩,q⟩
 ·obtain ⟨its,rv,p,hz⟩:=I1.list hq
  refine wpAny_pyIter_list p.isList ?_
  refine ⟨s1.heap.objs.size,[s1.heap.objs.size],_,_,H1,rfl,I1.kept (t':=s1.toks) fun b o e=>Heap.get?_push_of_some _ e,EvW.turn_listW a _,⟨_,Heap.get?_push_size _ rfl,rfl,rfl⟩,fun b hb=>?_,q⟩
  have e:b=s1.heap.objs.size:=by simpa using hb
  subst e
  exact I1.fpOk (Nat.le_refl _) (I1.hok.fresh (Nat.le_refl _))
 ·obtain ⟨its,rv,p,hz⟩:=I1.tuple hq
  refine wpAny_pyIter_tuple p ?_
  refine ⟨s1.heap.objs.size,[s1.heap.objs.size],_,_,H1,rfl,I1.kept (t':=s1.toks) fun b o e=>Heap.get?_push_of_some _ e,EvW.turn_tupleW a _,⟨_,Heap.get?_push_size _ rfl,rfl,rfl⟩,fun b hb=>?_,q⟩
  have e:b=s1.heap.objs.size:=by simpa using hb
  subst e
  exact I1.fpOk (Nat.le_refl _) (I1.hok.fresh (Nat.le_refl _))
theorem snd_sq (h:Hyp W X n C Wx) {brw:Bool} {l:Expr} (hl:PE X l (rE W C Wx H0 A)):EvW.PIW X tg l (rI W C Wx H0 brw (.seq A)):=by
 refine ⟨fun pins s σ H R I ⟨e,μ,σd,st,lo,q⟩=>?_⟩
 refine (pi_sq hl).run pins s σ H R I (rE.at st lo (Aft.bind q) fun d m e' H' v x st' lo' r hv=>?_)
 have r:Aft W e' H' (match walk brw d with | some xs => .ok xs m | none => .stuck) (fun xs m e1 H1=>∀ (J:L2.It),Wk W brw J xs e1 H1→R J H1) (xkA Wx σ):=r
 cases d with
 | lst xs =>
  obtain ⟨p,vs,rfl,h1,h2⟩:=hv
  have r:=r.now st'
  refine ⟨p,rfl,.inl ⟨⟨vs,by rw [h.K]; exact h1.sq st'.sub⟩,?_⟩⟩
  rw [h.K]
  exact r _ (wk_list h h2 fun e2 m2 H2 x2 st2=>(h1.mono x2.gr.g).sq st2.sub)
 | tup xs =>
  obtain ⟨p,vs,rfl,h1,h2⟩:=hv
  have r:=r.now st'
  refine ⟨p,rfl,.inr ⟨⟨vs,by rw [h.K]; exact sqT_sub h1 st'.sub⟩,?_⟩⟩
  rw [h.K]
  exact r _ (wk_tup h h2 fun e2 m2 H2 x2 st2=>sqT_sub (sqT_sub h1 x2.gr.g) st2.sub)
 | bor k xs =>
  obtain ⟨p,vs,rfl,h1,h2,h3⟩:=hv
  cases brw with
  | false=>exact r.elim
  | true =>
   have r:=r.now st'
   refine ⟨p,rfl,.inl ⟨⟨vs,.of h1⟩,?_⟩⟩
   rw [h.K]
   exact r _ (wk_list h h2 fun e2 m2 H2 x2 st2 => .of (Ex.keep (e:=e') (H:=H') (e':=e2) (H':=H2) x2 p _ h1 h3))
 | _=>exact r.elim
theorem enumD_len:∀ (xs:List D) (k:Nat),(enumD k xs).length=xs.length
 | [],_=>rfl
 | x::xs,k=>by show (enumD (k+1) xs).length+1=_; rw [enumD_len]; rfl
theorem enumD_get:∀ {xs:List D} {k i:Nat} {d:D},xs[i]?=some d→(enumD k xs)[i]?=some (.tup [.int ((k+i:Nat):Int),d])
 | [],_,_,_,h=>by simp at h
 | x::xs,k,0,d,h=>by
  have h:some x=some d:=h
  cases h; rfl
 | x::xs,k,i+1,d,h=>by
  have h:xs[i]?=some d:=by simpa using h
  show (enumD (k+1) xs)[i]?=_
  rw [enumD_get h,show k+1+i=k+(i+1) by omega]
theorem pair_out {e':Em} {m:Mu} {H' H'':Hp} {T:Addr} {d1 d2:Ev.D} {x1 x2:V} (st:St0 W e' m H') (hn:H' T=none) (hu:H''=upd H' T (.tup [x1,x2])) (r1:Rep W e' d1 x1) (r2:Rep W e' d2 x2):∃ e'',Rep W e'' (.tup [d1,d2]) (.ref T)∧Ex e' H' e'' H''∧St0 W e'' m H'':=by
 subst hu
 obtain ⟨x,st2⟩:=st.frozen (.tup [x1,x2]) hn
 exact ⟨_,⟨T,[x1,x2],rfl,.inl (.inl upd_same),.cons (r1.ex x) (.cons (r2.ex x) .nil)⟩,x,st2⟩
theorem wk_enum (h:Hyp W X n C Wx) {brw:Bool} {xs:List D} {vs:List V} {q:Addr} (r:RepL W e xs vs) (l:∀ e' m H',Later brw e H e' H'→St0 W e' m H'→SqL W.K H' q vs):Wk W brw (Ite W.K q) (enumD 0 xs) e H:=by
 have hlen:(enumD 0 xs).length=vs.length:=by rw [enumD_len,r.length]
 refine ⟨fun i e' m H' x st hi=>⟨vs,l e' m H' x st,by rw [← hlen]; exact hi⟩,fun i e' m H' x st hi=>?_,fun i e' m H' v H'' x st hi y=>?_⟩
 ·rw [hlen] at hi
  exact ⟨vs,vs[i],l e' m H' x st,List.getElem?_eq_getElem hi⟩
 ·obtain ⟨T,x1,rfl,hn,hu,hy⟩:=y
  obtain ⟨d,hd,rd⟩:=r.getV (hy vs (l e' m _ x st))
  obtain ⟨e2,k1,k2,k3⟩:=pair_out (d1:=.int (i:Int)) st hn hu (show Rep W e' (.int (i:Int)) (.int (i:Nat)) from rfl) (rd.mono x.gr.g x.gr.r d x1)
  exact ⟨e2,_,by have:=enumD_get (k:=0) hd; simpa using this,k1,k2,k3⟩
theorem wk_enumT (h:Hyp W X n C Wx) {brw:Bool} {xs:List D} {vs:List V} {q:Addr} (r:RepL W e xs vs) (l:∀ e' m H',Later brw e H e' H'→St0 W e' m H'→SqT W.K H' q vs):Wk W brw (EvW.Itet W.K q) (enumD 0 xs) e H:=by
 have hlen:(enumD 0 xs).length=vs.length:=by rw [enumD_len,r.length]
 refine ⟨fun i e' m H' x st hi=>⟨vs,l e' m H' x st,by rw [← hlen]; exact hi⟩,fun i e' m H' x st hi=>?_,fun i e' m H' v H'' x st hi y=>?_⟩
 ·rw [hlen] at hi
  exact ⟨vs,vs[i],l e' m H' x st,List.getElem?_eq_getElem hi⟩
 ·obtain ⟨T,x1,rfl,hn,hu,hy⟩:=y
  obtain ⟨d,hd,rd⟩:=r.getV (hy vs (l e' m _ x st))
  obtain ⟨e2,k1,k2,k3⟩:=pair_out (d1:=.int (i:Int)) st hn hu (show Rep W e' (.int (i:Int)) (.int (i:Nat)) from rfl) (rd.mono x.gr.g x.gr.r d x1)
  exact ⟨e2,_,by have:=enumD_get (k:=0) hd; simpa using this,k1,k2,k3⟩
theorem walkL_at (h:Hyp W X n C Wx) {brw:Bool} {d:Ev.D} {v:V} {xs:List D} {m:Mu} {e':Em} {H':Hp} (st':St0 W e' m H') (hv:RepH W e' H' d v) (hw:walkL brw d=some xs) :
  ∃ p vs,v = .ref p∧SqL W.K H' p vs∧RepL W e' xs vs∧∀ e2 m2 H2,Later brw e' H' e2 H2→St0 W e2 m2 H2→SqL W.K H2 p vs:=by
 cases d with
 | lst ys =>
  cases hw
  obtain ⟨p,vs,rfl,h1,h2⟩:=hv
  exact ⟨p,vs,rfl,h1.sq st'.sub,h2,fun e2 m2 H2 x2 st2=>(h1.mono x2.gr.g).sq st2.sub⟩
 | bor k ys =>
  obtain ⟨p,vs,rfl,h1,h2,h3⟩:=hv
  cases brw with
  | false=>cases hw
  | true =>
   cases hw
   exact ⟨p,vs,rfl,.of h1,h2,fun e2 m2 H2 x2 st2 => .of (Ex.keep (e:=e') (H:=H') (e':=e2) (H':=H2) x2 p _ h1 h3)⟩
 | _=>cases hw
theorem snd_enum (h:Hyp W X n C Wx) {brw:Bool} {l:Expr} {x:Str} {elts:List Expr} {kk:Nat} {tpos:Pos} (ht:tg = .Tuple elts kk tpos) (hx:x = "enumerate") (hg:Gl X x) (hs:noStar l=true) (hl:PE X l (rE W C Wx H0 A)):EvW.PIW X tg (.Call (.Name x p) [l] [] pos) (rI W C Wx H0 brw (.enum A)):=by
 subst hx
 refine ⟨fun pins s σ H R I ⟨e,μ,σd,st,lo,q⟩=>?_⟩
 have pa:PA X [l] (tCons (rE W C Wx H0 A) tNil):=pa_cons hl pa_nil (star_no hs)
 refine (EvW.pi_enumA ht hg (by rw [h.mg]; exact h.txt.blt _ (by simp [BLT])) pa (star_no hs)).run pins s σ H R I (rE.at st lo (Aft.bind q) fun d m e' H' v x st' lo' r hv=>?_)
 have r:Aft W e' H' (match walk brw d with | some xs => .ok (enumD 0 xs) m | none => .stuck) (fun xs m e1 H1=>∀ (J:L2.It),Wk W brw J xs e1 H1→R J H1) (xkA Wx σ):=r
 have lst:∀ xs,walkL brw d=some xs→walk brw d=some xs→∃ a,[v]=[V.ref a]∧(((∃ xs,SqL X.K H' a xs)∧R (Ite X.K a) H')∨((∃ xs,SqT X.K H' a xs)∧R (EvW.Itet X.K a) H')):=fun xs hw hw2=>by
  rw [hw2] at r
  obtain ⟨a,vs,rfl,k1,k2,k3⟩:=walkL_at h st' hv hw
  refine ⟨a,rfl,.inl ⟨⟨vs,by rw [h.K]; exact k1⟩,?_⟩⟩
  rw [h.K]
  exact r.now st' _ (wk_enum h k2 k3)
 cases d with
 | lst xs=>exact lst xs rfl rfl
 | bor k xs =>
  cases brw with
  | true=>exact lst xs rfl rfl
  | false=>exact r.elim
 | tup xs =>
  obtain ⟨p,vs,rfl,h1,h2⟩:=hv
  refine ⟨p,rfl,.inr ⟨⟨vs,by rw [h.K]; exact sqT_sub h1 st'.sub⟩,?_⟩⟩
  rw [h.K]
  exact Aft.now r st' _ (wk_enumT h h2 fun e2 m2 H2 x2 st2=>sqT_sub (sqT_sub h1 x2.gr.g) st2.sub)
 | _=>exact r.elim
theorem Hyp.blk (h:Hyp W X n C Wx) (s0:Shared) (H2:Hp) (scope:Scope) (env:Env) (fp:List Addr):Hyp W (EvW.blkW X s0 H2 scope env fp) n C (fun _ _ _ _=>False):=by
 refine ⟨h.prog,h.w,h.K,h.mg,h.base,h.T,h.txt,h.warm,h.room,h.guards,h.nd,h.top,?_,PassesOwn.never,h.call,h.low,h.make,h.hcall,h.hlow,h.hmake,h.rlow,h.hrlow⟩
 rintro u s' ⟨_,_,_,_,_,_,_,_,_,_,_,_,_,_,_,_,z⟩
 exact z
def rTo (W:Wd) (C:Cl) (Wx:WX) (H0:En) (a:To):TT:=fun σ H Q=>∃ e μ σd,St0 W e μ H∧Lo W e H0 σd σ H∧Aft W e H (evTo C a σd μ) (fun b _ _ H'=>Q b H') (xkA Wx σ)
theorem snd_tnone:PTs X [] (rTo W C Wx H0 .none):=⟨fun pins s σ H Q I ⟨e,μ,σd,st,lo,q⟩=>pts_nil.run pins s σ H Q I (q.now st)⟩
theorem snd_tsome {t:T} (ha:PT X a (rT W C Wx H0 t)):PTs X [a] (rTo W C Wx H0 (.some t)):=⟨fun pins s σ H Q I ⟨e,μ,σd,st,lo,q⟩=>(pts_one ha).run pins s σ H Q I ⟨e,μ,σd,st,lo,q⟩⟩
theorem wipe_wipe:∀ {vs:List Nat} {σ:L2.St},wipe (wipe σ vs) vs=wipe σ vs:=by
 have mem:∀ (vs:List Nat) (σ:L2.St) (v:Nat),v∈vs→(wipe σ vs).set v none=wipe σ vs:=by
  intro vs
  induction vs with
  | nil=>intro σ v h; exact absurd h (by simp)
  | cons w vs ih =>
   intro σ v h
   show ((wipe σ vs).set w none).set v none=(wipe σ vs).set w none
   by_cases hw:v=w
   ·subst hw; rw [List.set_set]
   ·have:v∈vs:=by simp only [List.mem_cons] at h; exact h.resolve_left hw
    rw [List.set_comm _ _ (Ne.symm hw),ih σ v this]
 have gen:∀ (vs ws:List Nat) (σ:L2.St),(∀ v∈vs,v∈ws)→wipe (wipe σ ws) vs=wipe σ ws:=by
  intro vs
  induction vs with
  | nil=>intro ws σ _; rfl
  | cons v vs ih =>
   intro ws σ h
   show (wipe (wipe σ ws) vs).set v none=wipe σ ws
   rw [ih ws σ (fun u hu=>h u (List.mem_cons_of_mem _ hu))]
   exact mem ws σ v (h v List.mem_cons_self)
 exact fun {vs σ}=>gen vs vs σ fun _ h=>h
theorem compL_cons {turn:D→Mu→Res (Option D)} {x:D} {xs ds:List D} {m m':Mu} (h:compL turn (x::xs) m = .ok ds m'):∃ r m2 rs,turn x m = .ok r m2∧compL turn xs m2 = .ok rs m'∧ds=consO r rs:=by
 have h:(turn x m).bind (fun r m=>(compL turn xs m).bind fun rs m => .ok (consO r rs) m) = .ok ds m':=h
 cases h1:turn x m with
 | ok r m2 =>
  rw [h1] at h
  have h:(compL turn xs m2).bind (fun rs m => .ok (consO r rs) m) = .ok ds m':=h
  cases h2:compL turn xs m2 with
  | ok rs m3 =>
   rw [h2] at h
   cases h
   exact ⟨r,m2,rs,rfl,h2,rfl⟩
  | _=>rw [h2] at h; cases h
 | _=>rw [h1] at h; cases h
abbrev Wf:WX:=fun _ _ _ _=>False
theorem Aft.eq {α:Type} {r:Res α} {K:α→Mu→Em→Hp→Prop} {E:XK} (q:Aft W e H r K E):Aft W e H r (fun a m _ _=>r = .ok a m) E:=by
 cases r with
 | ok a m=>exact fun _ _ _ _=>rfl
 | exc c fs m=>exact q
 | stuck=>exact q.elim
theorem lc_ok (h:Hyp W X n C Wx) {t:Tg} {it:Ev.It} {cond:To} {vs:List Nat} {Q:VK} {σd:Sg} {R:Ev.D→Mu→Prop} (hin:tgIn vs t=true) (st:St0 W e μ H) (lo:Lo W e H0 σd σ H) (q:Aft W e H (evE C (.comp A t it cond vs) σd μ) (fun d m _ _=>R d m) (xkA Wx σ))
  (fin:∀ ds m' e' H' vacc p0,Ex e H e' H'→St0 W e' m' H'→H p0=none→H' p0=some (.lst vacc)→RepL W e' ds vacc→e'.G p0=none→(∀ j,e'.r j≠some p0)→R (.lst ds) m'→Q (.ref p0) H') :
  tLc (rI W C Wx H0 true it) (rG W H0 t) (rTo W C Wf H0 cond) (rE W C Wf H0 A) vs σ H Q:=by
 refine ⟨e,μ,σd,st,lo,(Aft.bind q).imp fun xs m e1 H1 x1 st1 r J wk p0 hD=>?_⟩
 clear q
 have lo1:=lo.ex x1
 split at r
 ·rename_i hlim
  generalize hturn:(fun (x:D) (m:Mu)=>match bindT t x (wipeD σd vs) with
    | some σ'=>(evTo C cond σ' m).bind fun b m=>if b=true then (evE C A σ' m).bind fun d m=>if nbD d=true then Res.ok (some d) m else .stuck else .ok none m
    | none => .stuck)=turn at r
  cases hres:compL turn xs m with
  | exc c fs m2=>rw [hres] at r; exact r.elim
  | stuck=>rw [hres] at r; exact r.elim
  | ok ds m' =>
   rw [hres] at r
   have r:Aft W e1 H1 (.ok (.lst ds) m') (fun d m _ _=>R d m) (xkA Wx σ):=r
   have hle:xs.length≤16777216:=of_decide_eq_true hlim
   refine ⟨fun i k H'=>k=xs.length - i∧i≤xs.length∧∃ e' μi acc vacc rs,Ex e1 H1 e' H'∧St0 W e' μi H'∧H' p0=some (.lst vacc)∧RepL W e' acc vacc∧e'.G p0=none∧(∀ j,e'.r j≠some p0)∧compL turn (xs.drop i) μi = .ok rs m'∧acc++rs=ds∧acc.length≤i,
    ⟨_,rfl,Nat.zero_le _,e1,m,[],[],ds,?_,?_,upd_same,rfl,?_,?_,hres,rfl,Nat.le_refl _⟩,fun i k H' ⟨hk,hile,e',μi,acc,vacc,rs,x',st',hDv,racc,p1,p2,hc,hds,hlen⟩=>?_⟩
   ·exact (st1.grown (H1:=upd H1 p0 (.lst [])) fun b u z=>by rw [upd_ne (ne_of_none z hD)]; exact z).1
   ·exact (st1.grown (H1:=upd H1 p0 (.lst [])) fun b u z=>by rw [upd_ne (ne_of_none z hD)]; exact z).2
   ·cases z:e1.G p0 with
    | none=>rfl
    | some u=>rw [st1.sub p0 u z] at hD; cases hD
   ·intro j z
    obtain ⟨u,hu⟩:=st1.rH z
    rw [hD] at hu; cases hu
   ·by_cases hix:i < xs.length
    ·right
     refine ⟨wk.go i e' μi H' x' st' hix,fun H''=>i+1≤xs.length∧∃ e' μi acc vacc rs,Ex e1 H1 e' H''∧St0 W e' μi H''∧H'' p0=some (.lst vacc)∧RepL W e' acc vacc∧e'.G p0=none∧(∀ j,e'.r j≠some p0)∧compL turn (xs.drop (i+1)) μi = .ok rs m'∧acc++rs=ds∧acc.length≤i+1,
      fun H'' nx=>⟨xs.length - (i+1),by omega,rfl,nx⟩,fun x H2 y=>?_⟩
     obtain ⟨e2,d,hd,rd,x2,st2⟩:=wk.yld i e' μi H' x H2 x' st' hix y
     have hdrop:xs.drop i=d::xs.drop (i+1):=by
      rw [List.drop_eq_getElem_cons hix]
      rw [List.getElem?_eq_getElem hix] at hd
      rw [Option.some.inj hd]
     rw [hdrop] at hc
     obtain ⟨ro,m2,rs',ht1,hc2,hrs⟩:=compL_cons hc
     rw [← hturn] at ht1
     have ht1:(match bindT t d (wipeD σd vs) with
      | some σ'=>(evTo C cond σ' μi).bind fun b m=>if b=true then (evE C A σ' m).bind fun d m=>if nbD d=true then Res.ok (some d) m else .stuck else .ok none m
      | none => .stuck) = .ok ro m2:=ht1
     cases hb:bindT t d (wipeD σd vs) with
     | none=>rw [hb] at ht1; cases ht1
     | some σ' =>
      rw [hb] at ht1
      have ht1:((evTo C cond σ' μi).bind fun b m=>if b=true then (evE C A σ' m).bind fun d m=>if nbD d=true then Res.ok (some d) m else .stuck else .ok none m) = .ok ro m2:=ht1
      have x12:=x'.trans x2
      obtain ⟨d1,d2,d3⟩:=x2.priv hDv p1 p2
      refine ⟨e2,μi,wipeD σd vs,d,σ',st2,(lo1.ex x12).wipe vs,rd,hb,fun σ2 lo2 on=>⟨by rw [on vs hin,wipe_wipe],?_⟩⟩
      cases hcond:evTo C cond σ' μi with
      | exc _ _ _=>rw [hcond] at ht1; cases ht1
      | stuck=>rw [hcond] at ht1; cases ht1
      | ok b m3 =>
       rw [hcond] at ht1
       have ht1:(if b=true then (evE C A σ' m3).bind fun d m=>if nbD d=true then Res.ok (some d) m else .stuck else .ok none m3) = .ok ro m2:=ht1
       refine ⟨e2,μi,σ',st2,lo2,?_⟩
       rw [hcond]
       intro e3 H3 x3 st3
       obtain ⟨d4,d5,d6⟩:=x3.priv d1 d2 d3
       cases b with
       | false =>
        cases ht1
        exact ⟨hix,e3,_,acc,vacc,rs',x12.trans x3,st3,d4,(racc.ex x2).ex x3,d5,d6,hc2,by rw [← hds,hrs]; rfl,by omega⟩
       | true =>
        have ht1:((evE C A σ' m3).bind fun d m=>if nbD d=true then Res.ok (some d) m else .stuck) = .ok ro m2:=ht1
        cases hel:evE C A σ' m3 with
        | exc _ _ _=>rw [hel] at ht1; cases ht1
        | stuck=>rw [hel] at ht1; cases ht1
        | ok d' m4 =>
         rw [hel] at ht1
         have ht1:(if nbD d'=true then Res.ok (some d') m4 else .stuck) = .ok ro m2:=ht1
         split at ht1
         ·rename_i hnb
          cases ht1
          refine ⟨e3,m3,σ',st3,lo2.ex x3,?_⟩
          rw [hel]
          intro e4 H4 x4 st4 y hy
          obtain ⟨d7,d8,d9⟩:=x4.priv d4 d5 d6
          have hvl:vacc.length=acc.length:=racc.length
          refine ⟨vacc,d7,by rw [sizeLine_eq,hvl]; omega,hix,e4,_,acc++[d'],vacc++[y],rs',((x12.trans x3).trans x4).privUpd _ hD,st4.privUpd _ d8 d9,upd_same,?_,d8,d9,hc2,(by rw [← hds,hrs]; simp [consO]),by simp; omega⟩
          exact RepL.append (((racc.ex x2).ex x3).ex x4) (.cons (RepH.of hnb hy) .nil)
         ·cases ht1
    ·left
     have hi':xs.length≤i:=by omega
     refine ⟨wk.stop i e' μi H' x' st' hi',?_⟩
     rw [List.drop_of_length_le hi'] at hc
     cases hc
     have hp0:H p0=none:=none_back x1.dom hD
     exact fin ds m' e' H' vacc p0 (x1.trans x') st' hp0 hDv (by rw [← hds,List.append_nil]; exact racc) p1 p2 (r e' H' x' st')
 ·exact r.elim
theorem snd_comp (h:Hyp W X n C Wx) {t:Tg} {it:Ev.It} {cond:To} {vs:List Nat} {elt iter:Expr} {ifs:List Expr} {scope:Scope} {own:List (Str×Nat)} (hi:EvW.PIW X tg iter (rI W C Wx H0 true it)) (ok:BlkOk X.N X.env.scope scope own) (hvs:own.map (·.2)=vs) (hin:tgIn vs t=true)
  (hg:∀ (s:Shared) (H:Hp) (C':Addr) (cl:List (Str×Addr)) (fp:List Addr),PG (EvW.blkW X s H scope (compEnvC scope cl C' X.env) fp) tg (rG W H0 t)) (ht:∀ (s:Shared) (H:Hp) (C':Addr) (cl:List (Str×Addr)) (fp:List Addr),PTs (EvW.blkW X s H scope (compEnvC scope cl C' X.env) fp) ifs (rTo W C Wf H0 cond))
  (he:∀ (s:Shared) (H:Hp) (C':Addr) (cl:List (Str×Addr)) (fp:List Addr),PE (EvW.blkW X s H scope (compEnvC scope cl C' X.env) fp) elt (rE W C Wf H0 A)) (hs:∀ x,foldedSetIterable iter X.env x=pure x) :
  PE X (.ListComp elt [⟨tg,iter,ifs,0⟩] scope pos) (rE W C Wx H0 (.comp A t it cond vs)):=by
 refine ⟨fun pins s σ H Q I ⟨e,μ,σd,st,lo,q⟩=>?_⟩
 refine (EvW.pe_lcW h.warmW h.nd hi ok hg ht he hs).run pins s σ H Q I ?_
 rw [hvs]
 refine lc_ok h hin st lo q.eq fun ds m' e' H' vacc p0 x' st' hp0 hDv racc p1 p2 hr=>?_
 rw [hr] at q
 have st2:=st'.frozenAt (.lst vacc) p1 p2
 have hup:upd H' p0 (.lst vacc)=H':=by
  funext b
  by_cases hb:b=p0
  ·rw [hb,upd_same,hDv]
  ·rw [upd_ne hb]
 rw [hup] at st2
 have mono:∀ b u,e'.G b=some u→upd e'.G p0 (.lst vacc) b=some u:=fun b u q=>by rw [upd_ne (ne_of_none q p1)]; exact q
 refine q ⟨upd e'.G p0 (.lst vacc),e'.r⟩ H' ?_ st2 (.ref p0) ⟨p0,vacc,rfl,.inl (.inl upd_same),?_⟩
 ·refine ⟨fun b u q=>mono b u (x'.g b u q),x'.r,fun b u q=>?_,x'.rn,x'.keep,x'.dom⟩
  by_cases hb:b=p0
  ·rw [hb]; exact .inr hp0
  ·have q:upd e'.G p0 (.lst vacc) b=some u:=q
   rw [upd_ne hb] at q; exact x'.gn b u q
 ·exact RepL.mono (e:=e') (e':=⟨upd e'.G p0 (.lst vacc),e'.r⟩) mono (fun _ _ q=>q) _ _ racc
end
end Ev
set_option maxRecDepth 100000
set_option maxHeartbeats 2000000
namespace EvW
open PySem PySem.Spec PyProof.Rows L2 EvH
structure Zip3Apart (z TI TO i1 i2 i3 l1 l2 l3:Addr):Prop where
 TIz:TI≠z
 TOz:TO≠z
 TITO:TI≠TO
 i1z:i1≠z
 i2z:i2≠z
 i3z:i3≠z
 TIi1:TI≠i1
 TIi2:TI≠i2
 TIi3:TI≠i3
 TOi1:TO≠i1
 TOi2:TO≠i2
 TOi3:TO≠i3
 i12:i1≠i2
 i13:i1≠i3
 i23:i2≠i3
 l1z:l1≠z
 l2z:l2≠z
 l2TO:l2≠TO
 l2i1:l2≠i1
 l3z:l3≠z
 l3TO:l3≠TO
 l3i1:l3≠i1
 l3i2:l3≠i2
section
variable {prog:Program} {w:World} {A:Around} {E:Value→Shared→Prop} {s:Shared} {t1 t2 t3:Bool} {z TI TO i1 i2 i3 l1 l2 l3:Addr} {k1 k2 k3:Nat} {xs ys zs:Array Value}
end
section
variable {P:Program} {w:World} {K:PySem.W.Frag} {tg:Expr} {elts:List Expr} {kk:Nat} {tpos:Pos} {t1 t2 t3:Bool} {a b c z TI TO i1 i2 i3:Addr}
end
section
variable {X:Cx} {tg:Expr} {elts:List Expr} {kk:Nat} {tpos p pos:Pos} {e e2 e3:Expr} {ta:TA}
end
end EvW
set_option maxRecDepth 100000
set_option maxHeartbeats 2000000
namespace Ev
open PySem PySem.Spec PyProof.Rows L2
section
variable {W:Wd} {X:Cx} {n:Nat} {C:Cl} {Wx:WX} {H0:En} {e:Em} {H:Hp} {tg:Expr} {A B D3:E} {p pos:Pos}
end
end Ev
set_option maxRecDepth 100000
set_option maxHeartbeats 2000000
namespace EvW
open PySem PySem.Spec PyProof.Rows L2 EvH
section
variable {X:Cx} {tg:Expr}
end
end EvW
namespace Ev
open PySem PySem.Spec PyProof.Rows L2
section
variable {W:Wd} {X:Cx} {n:Nat} {C:Cl} {Wx:WX} {H0:En} {pins:List (Addr×Obj)} {σ:L2.St} {H H1:Hp} {s:Shared} {e e1:Em} {μ:Mu} {a b c tg:Expr} {A B D':E} {pos p:Pos}
end
end Ev
set_option maxRecDepth 100000
set_option maxHeartbeats 4000000
namespace Ev
open PySem PySem.Spec PyProof.Rows L2
theorem kw_names {env:Env} {pos:Pos}:∀ kws:List Keyword,(backToKw pos (keywordEach kws env)).map (·.1)=kws.map (·.arg)
 | []=>rfl
 | ⟨n,e,p⟩::r=>congrArg (n :: ·) (kw_names r)
theorem kw_all {env:Env} {pos:Pos} {kws:List Keyword} {ns:List Str} (h:kws.map (·.arg)=ns.map some):(backToKw pos (keywordEach kws env)).all (·.1.isSome)=true∧(backToKw pos (keywordEach kws env)).filterMap (·.1)=ns∧(backToKw pos (keywordEach kws env)).any (·.1.isNone)=false:=by
 have e:=(kw_names (env:=env) (pos:=pos) kws).trans h
 generalize backToKw pos (keywordEach kws env)=L at e
 have e1:L.all (·.1.isSome)=(L.map (·.1)).all Option.isSome:=by rw [List.all_map]; rfl
 have e2:L.filterMap (·.1)=(L.map (·.1)).filterMap id:=by rw [List.filterMap_map]; rfl
 have e3:L.any (·.1.isNone)=(L.map (·.1)).any Option.isNone:=by rw [List.any_map]; rfl
 rw [e1,e2,e3,e]
 refine ⟨?_,?_,?_⟩
 ·rw [List.all_map]; exact List.all_eq_true.mpr fun _ _=>rfl
 ·rw [List.filterMap_map]
  exact List.filterMap_some
 ·rw [List.any_map]; exact List.any_eq_false.mpr fun _ _=>by simp
theorem vals_rev:∀ {vs:List V} {us:List Value},Vals vs us→Vals vs.reverse us.reverse
 | _,_,.nil => .nil
 | _,_,.cons r t=>by
  rw [List.reverse_cons,List.reverse_cons]
  exact Vals.append (vals_rev t) (.cons r .nil)
theorem rep_rev {W:Wd} {e:Em}:∀ {ds:List D} {vs:List V},RepL W e ds vs→RepL W e ds.reverse vs.reverse
 | [],_,h=>by rw [show _=[] from h]; exact RepL.nil
 | d::ds,_,h=>by
  obtain ⟨v,r,rfl,h1,h2⟩:=h
  rw [List.reverse_cons,List.reverse_cons]
  exact (rep_rev h2).append (.cons h1 RepL.nil)
section
variable {W:Wd} {X:Cx} {n:Nat} {C:Cl} {Wx:WX} {H0:En} {pins:List (Addr×Obj)} {σ:L2.St} {H:Hp} {s:Shared} {e:Em} {μ:Mu} {p pos:Pos} {a:Expr} {A:E} {kws:List Keyword} {ys:Es}
theorem snd_knil:PK X [] (rA W C Wx H0 .nil):=⟨fun pos pins s σ H Q I ⟨e,μ,σd,st,lo,q⟩=>pk_nil.run pos pins s σ H Q I (q.now st [] rfl)⟩
theorem snd_kcons {x:Expr} {nm:Option Str} {kp:Pos} (ha:PE X x (rE W C Wx H0 A)) (hr:PK X kws (rA W C Wx H0 ys)):PK X (⟨nm,x,kp⟩::kws) (rA W C Wx H0 (.cons false A ys)):=by
 refine ⟨fun pos pins s σ H Q I ⟨e,μ,σd,st,lo,q⟩=>?_⟩
 refine (pk_cons ha hr).run pos pins s σ H Q I (rE.at st lo (Aft.bind q) fun d m e' H' v x st' lo' r hv=>?_)
 exact ⟨e',m,σd,st',lo',(Aft.bind r).imp fun ds m2 e2 H2 x2 st2 r2 vs hvs=>r2.now st2 _ ⟨v,vs,rfl,hv.ex x2,hvs⟩⟩
theorem kw_call {f:Value} {first:List Value} {ns:List Str} {Q:VK} (hk:PySem.W.keepIn X.K f=true) (hn:kws.map (·.arg)=ns.map some) (ha:PK X kws (rA W C Wx H0 ys)) {σd:Sg} (I:Inv X pins σ H s) (st:St0 W e μ H) (lo:Lo W e H0 σd σ H) {R:List D→Mu→Em→Hp→Prop}
  (q:Aft W e H (evEs C ys σd μ) R (xkA Wx σ))
  (k:∀ ds m e' H' vs us s1,Ex e H e' H'→St0 W e' m H'→RepHL W e' H' ds vs→Inv X pins σ H' s1→Vals vs us→R ds m e' H'→wpAny (model X.prog X.w) X.A (call f (first++[]) (ns.zip us)) (EP X pins σ Q) X.xe s1) :
  wpAny (model X.prog X.w) X.A (callWith pos f first (backTo pos (starEach [] X.env)) (backToKw pos (keywordEach kws X.env))) (EP X pins σ Q) X.xe s:=by
 obtain ⟨a1,a2,a3⟩:=kw_all (env:=X.env) (pos:=pos) hn
 refine PySem.W.callWith_KW0 (h₀:=X.base) I.ok.mod.kin hk a1 (thn (ha.run pos pins s σ H (fun vs H'=>∃ ds m e',Ex e H e' H'∧St0 W e' m H'∧RepHL W e' H' ds vs∧R ds m e' H') I (rA.at st lo q fun d m e' H' v x st' _ r hv=>⟨d,m,e',x,st',hv,r⟩)) fun us s1 ⟨vs,H1,I1,r,ds,m,e',x,st',hv,rr⟩=>⟨I1.kIn,?_⟩) (by rw [a3]; rfl)
 rw [a2]
 exact k ds m e' H1 vs us s1 x st' hv I1 r rr
theorem run_fnKw {k:Nat} {i:FnI} {F:List D→Mu→Res D} (h:Hyp W X n C Wx) (hr:L2H.RoomH (k+34) X.A) (fp:FnP W k C.hot C.rep i F) {ds:List D} {vs:List V} {us ws:List Value} {Q:VK}
  (I:Inv X pins σ H s) (r:Vals vs (us++ws.reverse)) (hl:us.length+ws.length=i.np) (st:St0 W e μ H) (rd:RepL W e ds vs) (q:Got W e H (F ds μ) Q (xkA Wx σ)) :
  wpAny (model X.prog X.w) X.A (call (.ref (fadr W.K W.T i.loc)) us (((i.names.take i.np).drop us.length).reverse.zip ws)) (EP X pins σ Q) X.xe s:=by
 obtain ⟨fd,ok,_,kb⟩:=fp.ok
 have hv:vs.length=i.np:=by rw [r.length,List.length_append,List.length_reverse]; exact hl
 have F':FnG C.hot C.rep X.prog X.w X.K X.mg X.base (L2N.CX X.prog X.w) (k+34) (fadr W.K W.T i.loc) fd (i.names.take i.np) (spF W i.np F):=by rw [h.prog,h.w,h.K,h.mg,h.base]; exact ok
 have sp:spF W i.np F vs H Q (xkA Wx σ):=⟨e,μ,ds,hv,st,RepVL.to rd,q⟩
 have hb:BindsTo s fd ⟨us,((i.names.take i.np).drop us.length).reverse.zip ws⟩ ((i.names.take i.np).zip (us++ws.reverse)):=kb s us ws (by rw [← h.K]; exact I.kIn) (by rw [fp.np]; exact hl)
 refine wpAny_call (codeAny_mono (F'.run X.A X.stack s H ⟨us,_⟩ (us++ws.reverse) vs Q _ (fun z=>h.guards z) hr (h.lull rfl I) I.env0 hb r sp) fun r s' hq=>?_)
 cases r with
 | error x=>exact h.takes _ _ (L2N.XE.of_call I (fun _ _ _ z=>z) hq)
 | ok fl =>
  cases fl with
  | ret u=>exact I.after hq
  | next=>exact False.elim hq
  | brk=>exact False.elim hq
  | cont=>exact False.elim hq
theorem snd_callr (h:Hyp W X n C Wx) {f:Nat} {x:Str} {i:FnI} (hg:Gl X x) (hi:W.T.fns[f]?=some i) (hl:i.loc=(x,none)) (hd:(x == ("__debug__" : Str))=false) (hn:kws.map (·.arg)=(i.names.take i.np).reverse.map some) (ha:PK X kws (rA W C Wx H0 ys)) :
  PE X (.Call (.Name x p) [] kws pos) (rE W C Wx H0 (.callr f ys)):=by
 refine ⟨fun pins s σ H Q I ⟨e,μ,σd,st,lo,q⟩=>?_⟩
 obtain ⟨h1,h2⟩:=h.txt.glob f i x hi hl
 refine wpAny_Call_Name_kw (ld_glob (u:=.ref (fadr W.K W.T i.loc)) I hg (by rw [h.mg]; exact h1) ?_ hd)
 refine kw_call (first:=[]) (by rw [h.K]; exact h2) hn ha I st lo (Aft.bind q) fun ds m e' H' vs us s1 x' st' hv I' r z=>?_
 split at z
 ·rename_i hc
  obtain ⟨hnb,hnp⟩:=(Bool.and_eq_true _ _▸hc:ds.all nbD=true∧_)
  have hnp:=of_decide_eq_true hnp
  rw [h.T,hi] at hnp
  have hnp:i.np=ds.length:=by simpa using hnp
  rcases h.call f ds.reverse m with hs | ⟨i',hi',_,fp⟩
  ·rw [hs] at z; exact z.elim
  ·rw [hi] at hi'; cases hi'
   have rl:=RepHL.of hnb hv
   exact run_fnKw h h.room fp I' (us:=[]) (ws:=us) (vals_rev r) (by have e1:=rl.length; have e2:=r.length; rw [hnp,List.length_nil]; omega) st' (rep_rev rl) (.of z)
 ·exact z.elim
theorem snd_maker (h:Hyp W X n C Wx) {k:Nat} {i:ClI} {j:FnI} {x:Str} (hg:Gl X x) (hi:W.T.cls[k]?=some i) (hl:i.name=x) (hj:W.T.fns[i.init]?=some j) (hd:(x == ("__debug__" : Str))=false) (hn:kws.map (·.arg)=((j.names.take j.np).drop 1).reverse.map some) (ha:PK X kws (rA W C Wx H0 ys)) :
  PE X (.Call (.Name x p) [] kws pos) (rE W C Wx H0 (.maker k ys)):=by
 subst hl
 refine ⟨fun pins s σ H Q I ⟨e,μ,σd,st,lo,q⟩=>?_⟩
 obtain ⟨h1,h2⟩:=h.txt.clsg k i hi
 refine wpAny_Call_Name_kw (ld_glob (u:=.ref (W.ca k)) I hg (by rw [h.mg]; exact h1) ?_ hd)
 refine kw_call (first:=[]) (by rw [h.K]; exact h2) hn ha I st lo (Aft.bind q) fun ds m e' H' vs us s1 x' st' hv I' r z=>?_
 split at z
 ·rename_i hc
  obtain ⟨hnb,hnp⟩:=(Bool.and_eq_true _ _▸hc:ds.all nbD=true∧_)
  have hnp:=of_decide_eq_true hnp
  rw [h.T,hi] at hnp
  have hnp:j.np=ds.length+1:=by simpa [hj] using hnp
  have rl:=RepHL.of hnb hv
  have l1:ds.length=us.length:=by have e1:=rl.length; have e2:=r.length; omega
  refine make_okG h hi (us:=us.reverse) (us0:=[]) (fun j' fd dd hj' _ kb s' v hK hlen=>?_) I' st' (rep_rev rl) (vals_rev r) (.of z)
  rw [hj] at hj'; cases hj'
  have lt:(j.names.take j.np).length≤j.np:=by rw [List.length_take]; omega
  have ld:dd=[]:=by
   rw [List.length_append,List.length_cons,List.length_reverse] at hlen
   exact List.length_eq_zero_iff.mp (by omega)
  subst ld
  rw [List.append_nil] at hlen ⊢
  have b:=kb s' [v] us hK (by rw [← hlen]; simp; omega)
  exact b
 ·exact z.elim
theorem meth_evalK {o:Expr} {m:Str} {apos:Pos} {env:Env} {ns:List Str} (hb:baseOk o=true) (hl:(apos.endLine == pos.line)=true) (hn:kws.map (·.arg)=ns.map some) (h29:decide (kws.length < 29)=true) :
  eval (.Call (.Attribute o m apos) [] kws pos) env=(do
   let ov ← eval o env
   standAt apos.atName
   let (f,first) ← holding [ov] (getMethod ov m (do return (← importBound o env).getD true))
   callWith pos f first (backTo pos (starEach [] env)) (backToKw pos (keywordEach kws env))):=by
 have e0:eval (.Call (.Attribute o m apos) [] kws pos) env=(do
   let ov ← attributeBase o m env (eval o env)
   standAt apos.atName
   methodCall o m apos pos env ov (0+kws.length) (backTo pos (starEach [] env)) (backToKw pos (keywordEach kws env))):=by rfl
 have e1:methodCallForm (0+kws.length) (backTo pos (starEach [] env)) (backToKw pos (keywordEach kws env))=true:=by
  obtain ⟨a1,_,_⟩:=kw_all (env:=env) (pos:=pos) hn
  have h29:=of_decide_eq_true h29
  unfold methodCallForm
  rw [a1]
  simp [starEach,backTo]
  split <;> omega
 rw [e0]
 unfold methodCall
 rw [e1,base_ok hb]
 unfold calleeOf methodCallPos
 simp only [if_true,hl,Bool.not_true,Bool.false_or]
 rfl
theorem snd_methr (h:Hyp W X n C Wx) {k:Nat} {m:Str} {ns:List Str} {apos:Pos} (hm:an W.T k=m) (hb:baseOk a=true) (hl:(apos.endLine == pos.line)=true) (hn:kws.map (·.arg)=ns.reverse.map some) (h29:decide (kws.length < 29)=true) (ho:PE X a (rE W C Wx H0 A)) (ha:PK X kws (rA W C Wx H0 ys)) :
  PE X (.Call (.Attribute a m apos) [] kws pos) (rE W C Wx H0 (.methr A k ns ys)):=by
 subst hm
 refine ⟨fun pins s σ H Q I ⟨e,μ,σd,st,lo,q⟩=>?_⟩
 refine PySem.W.methodCall_KW (thn (ho.run pins s σ H (fun v H'=>∃ e' m d,St0 W e' m H'∧Lo W e' H0 σd σ H'∧RepH W e' H' d v∧Aft W e' H' _ _ (xkA Wx σ)) I (rE.at st lo (Aft.bind q) fun d m e' H' v _ st' lo' r hv=>⟨e',m,d,st',lo',hv,r⟩)) fun u s1 ⟨x,H1,I1,rx,e1,m1,d1,st1,lo1,hd1,q1⟩=>?_) (meth_evalK hb hl hn h29)
 cases hc:clsOf m1 d1 with
 | none=>rw [hc] at q1; exact q1.elim
 | some c =>
  rw [hc] at q1
  have q1:Aft W e1 H1 (match mthd C.T c k with | some f=>(evEs C ys σd m1).bind fun vs m2=>if (vs.all nbD&&decide ((C.T.fns[f]?).map (fun i=>(i.names.take i.np).drop 1)=some ns)&&decide ((C.T.fns[f]?).map (·.np)=some (vs.length+1)))=true then C.call f (d1::vs.reverse) m2 else .stuck | none => .stuck) (fun d _ e' H'=>∀ v,RepH W e' H' d v→Q v H') (xkA Wx σ):=q1
  cases hm:mthd C.T c k with
  | none=>rw [hm] at q1; exact q1.elim
  | some f =>
   rw [hm] at q1
   have hnb:nbD d1=true:=by cases d1 <;> first | rfl | cases hc
   obtain ⟨a',dx,gs,i,rfl,hH,hi,hx,hno⟩:=inst_at st1 (RepH.of hnb hd1) hc
   cases rx
   have cf:=h.txt.cls c i hi hx
   have hm':i.meths.lookup k=some f:=by
    unfold mthd at hm
    rw [h.T,hi] at hm
    exact hm
   obtain ⟨j,hj,hM,hne⟩:=cf.meth k f hm'
   refine getmeth_ok I1 hH (by rw [h.K]; exact cf.cls) (by rw [h.K]; exact hM) (hno _ hne) ?_
   refine kw_call (first:=[.ref a']) (by rw [h.K]; exact hM.kp) hn ha I1 st1 lo1 (Aft.bind q1) fun ds m e' H' vs us s2 x' st' hv I' r z=>?_
   split at z
   ·rename_i hc
    obtain ⟨hc,hnp⟩:=(Bool.and_eq_true _ _▸hc:_∧_)
    obtain ⟨hz,hns⟩:=(Bool.and_eq_true _ _▸hc:ds.all nbD=true∧_)
    have hnp:=of_decide_eq_true hnp
    have hns:=of_decide_eq_true hns
    rw [h.T,hj] at hnp hns
    have hnp:j.np=ds.length+1:=by simpa using hnp
    have hns:(j.names.take j.np).drop 1=ns:=by simpa using hns
    rcases h.call f (d1::ds.reverse) m with hs | ⟨i',hi',_,fp⟩
    ·rw [hs] at z; exact z.elim
    ·rw [hj] at hi'; cases hi'
     have rl:=RepHL.of hz hv
     have z':=run_fnKw h h.room fp I' (us:=[.ref a']) (ws:=us) (Q:=Q) (Paired.cons (show RelV (V.ref a') (Value.ref a') from rfl) (vals_rev r)) (by have e1:=rl.length; have e2:=r.length; rw [hnp,List.length_singleton]; omega) st' (.cons ((RepH.of hnb hd1).ex x') (rep_rev rl)) (.of z)
     rw [List.length_singleton,hns] at z'
     exact z'
   ·exact z.elim
end
end Ev
set_option maxRecDepth 100000
set_option maxHeartbeats 2000000
namespace Ev
open PySem PySem.Spec PyProof.Rows L2
def AftS (W:Wd) (e0:Em) (H0:En) (e:Em) (r:SR) (D:Ends) (Wx:WX):Prop:=match r with
 | .nx σd' m=>∀ e' H' σ',Ex e0 H0.h e' H'→Gr e e'→St0 W e' m H'→Lo W e' H0 σd' σ' H'→D.nx σ' H'
 | .brk σd' m=>∀ e' H' σ',Ex e0 H0.h e' H'→Gr e e'→St0 W e' m H'→Lo W e' H0 σd' σ' H'→D.bk σ' H'
 | .ret d _ m=>∀ e' H' v,Ex e0 H0.h e' H'→Gr e e'→St0 W e' m H'→Rep W e' d v→D.rt v H'
 | .exc c fs σd' m=>∀ e' H' σ' cls d,Ex e0 H0.h e' H'→Gr e e'→St0 W e' m H'→Lo W e' H0 σd' σ' H'→Exa W e' H' c fs cls d→Wx cls d σ' H'
 | .stuck=>False
def rS (W:Wd) (C:Cl) (Wx:WX) (e0:Em) (H0:En) (a:S):TS:=fun D σ H=>∃ e μ σd,Ex e0 H0.h e H∧St0 W e μ H∧Lo W e H0 σd σ H∧AftS W e0 H0 e (exS C a σd μ) D Wx
def rSs (W:Wd) (C:Cl) (Wx:WX) (e0:Em) (H0:En) (a:Ss):TS:=fun D σ H=>∃ e μ σd,Ex e0 H0.h e H∧St0 W e μ H∧Lo W e H0 σd σ H∧AftS W e0 H0 e (exSs C a σd μ) D Wx
section
variable {W:Wd} {X:Cx} {n:Nat} {C:Cl} {Wx:WX} {e0:Em} {H0:En} {pins:List (Addr×Obj)} {σ:L2.St} {H H1:Hp} {s:Shared} {e e1:Em} {μ:Mu} {a b c tg:Expr} {A B:E} {pos p:Pos} {es:List Expr} {ys:Es} {D:Ends}
theorem AftS.later {r:SR} (g:Gr e e1) (q:AftS W e0 H0 e r D Wx):AftS W e0 H0 e1 r D Wx:=by
 cases r with
 | nx=>exact fun e' H' σ' x y=>q e' H' σ' x (g.trans y)
 | brk=>exact fun e' H' σ' x y=>q e' H' σ' x (g.trans y)
 | ret=>exact fun e' H' v x y=>q e' H' v x (g.trans y)
 | exc=>exact fun e' H' σ' cls d x y=>q e' H' σ' cls d x (g.trans y)
 | stuck=>exact q.elim
theorem AftS.of_st {α:Type} {r:Res α} {σd:Sg} {f:α→Mu→SR} (x0:Ex e0 H0.h e H) (lo:Lo W e H0 σd σ H) (q:AftS W e0 H0 e (r.st σd f) D Wx):Aft W e H r (fun a m e' H'=>AftS W e0 H0 e' (f a m) D Wx) (xkA Wx σ):=by
 cases r with
 | ok a m=>exact fun e' H' x st=>AftS.later x.gr q
 | exc c fs m=>exact fun e' H' cls d x st z=>q e' H' σ cls d (x0.trans x) x.gr st (lo.ex x) z
 | stuck=>exact q.elim
theorem AftS.nxt {σd:Sg} {m:Mu} (q:AftS W e0 H0 e (.nx σd m) D Wx) (x:Ex e0 H0.h e H) (st:St0 W e m H) (lo:Lo W e H0 σd σ H):D.nx σ H:=q e H σ x (Gr.refl e) st lo
theorem snd_ss_nil:PSs X [] (rSs W C Wx e0 H0 .nil):=⟨fun pins s σ H D I ⟨e,μ,σd,x,st,lo,q⟩=>pss_nil.run pins s σ H D I (q.nxt x st lo)⟩
theorem snd_ss {st0:Stmt} {rest:List Stmt} {a:S} {as:Ss} (h1:PS X st0 (rS W C Wx e0 H0 a)) (h2:PSs X rest (rSs W C Wx e0 H0 as)):PSs X (st0::rest) (rSs W C Wx e0 H0 (.cons a as)):=by
 refine ⟨fun pins s σ H D I ⟨e,μ,σd,x,st,lo,q⟩=>(pss_cons h1 h2).run pins s σ H D I ⟨e,μ,σd,x,st,lo,?_⟩⟩
 have q:AftS W e0 H0 e ((exS C a σd μ).seq fun σ' m=>exSs C as σ' m) D Wx:=q
 cases hr:exS C a σd μ with
 | nx σ1 m1 =>
  rw [hr] at q
  exact fun e' H' σ' x' g st' lo'=>⟨e',m1,σ1,x',st',lo',AftS.later g q⟩
 | brk=>rw [hr] at q; exact q
 | ret=>rw [hr] at q; exact q
 | exc=>rw [hr] at q; exact q
 | stuck=>rw [hr] at q; exact q.elim
theorem snd_never {st0:Stmt} {a:S} (h:∀ σd μ,exS C a σd μ = .stuck):PS X st0 (rS W C Wx e0 H0 a):=⟨fun pins s σ H D I ⟨e,μ,σd,x,st,lo,q⟩=>by rw [h] at q; exact q.elim⟩
theorem snd_ret (he:PE X a (rE W C Wx H0 A)):PS X (.Return (some a) pos) (rS W C Wx e0 H0 (.ret A)):=by
 refine ⟨fun pins s σ H D I ⟨e,μ,σd,x,st,lo,q⟩=>(ps_ret he).run pins s σ H D I ?_⟩
 refine rE.at st lo (AftS.of_st x lo q) fun d m e' H' v x' st' lo' r hv=>?_
 have r:AftS W e0 H0 e' (if nbD d=true then .ret d σd m else .stuck) D Wx:=r
 split at r
 ·rename_i hnb
  exact r e' H' v (x.trans x') (Gr.refl e') st' (RepH.of hnb hv)
 ·exact r.elim
theorem snd_asg {t:Tg} (hst:noStar tg=true) (he:PE X a (rE W C Wx H0 A)) (hg:PG X tg (rG W H0 t)) (hs:swapsWithSole [tg] a pos.line X.env=pure false) (hw:swappedStores [tg] a X.env=pure none):PS X (.Assign [tg] a pos) (rS W C Wx e0 H0 (.asg t A)):=by
 refine ⟨fun pins s σ H D I ⟨e,μ,σd,x,st,lo,q⟩=>(ps_asg he hg hs hw (h1:=asg_cons hst)).run pins s σ H D I ?_⟩
 refine rE.at st lo (AftS.of_st x lo q) fun d m e' H' v x' st' lo' r hv=>?_
 have r:AftS W e0 H0 e' (match bindT t d σd with | some σ' => .nx σ' m | none => .stuck) D Wx:=r
 cases hb:bindT t d σd with
 | none=>rw [hb] at r; exact r.elim
 | some σ1 =>
  rw [hb] at r
  have hnb:nbD d=true:=by
   cases d with
   | bor k xs=>cases t with
    | name i=>cases hb
    | tup ts=>cases hb
   | opq=>cases t with
    | name i=>cases hb
    | tup ts=>cases hb
   | _=>rfl
  exact ⟨e',m,σd,d,σ1,st',lo',RepH.of hnb hv,hb,fun σ' lo2 _=>r.nxt (x.trans x') st' lo2⟩
theorem snd_if {cc:T} {u v:List Stmt} {us vs:Ss} (hc:PT X c (rT W C Wx H0 cc)) (ha:PSs X u (rSs W C Wx e0 H0 us)) (hb:PSs X v (rSs W C Wx e0 H0 vs)):PS X (.If c u v pos) (rS W C Wx e0 H0 (.ite cc us vs)):=by
 refine ⟨fun pins s σ H D I ⟨e,μ,σd,x,st,lo,q⟩=>(ps_if hc ha hb).run pins s σ H D I ⟨e,μ,σd,st,lo,(AftS.of_st x lo q).imp fun t m e' H' x' st' r=>?_⟩⟩
 cases t with
 | true=>exact ⟨e',m,σd,x.trans x',st',lo.ex x',r⟩
 | false=>exact ⟨e',m,σd,x.trans x',st',lo.ex x',r⟩
theorem snd_for {t:Tg} {it:Ev.It} {iter:Expr} {body:List Stmt} {bs:Ss} (h:Hyp W X n C Wx) (hi:EvW.PIW X tg iter (rI W C Wx H0 false it)) (hg:PG X tg (rG W H0 t)) (hb:PSs X body (rSs W C Wx e0 H0 bs)) (hs:∀ x,foldedSetIterable iter X.env x=pure x):PS X (.For tg iter body [] pos) (rS W C Wx e0 H0 (.for_ t it bs)):=by
 refine ⟨fun pins s σ H D I ⟨e,μ,σd,x,st,lo,q⟩=>(EvW.ps_forW h.own h.warmW hi hg hb hs).run pins s σ H D I ⟨e,μ,σd,st,lo,(AftS.of_st x lo q).imp fun xs m e1 H1 x1 st1 r J wk=>?_⟩⟩
 generalize hturn:(fun (x:Ev.D) (σ:Sg) (m:Mu)=>match bindT t x σ with
   | some σ'=>exSs C bs σ' m
   | none=>SR.stuck)=turn at r
 refine ⟨fun i k σ H=>k=xs.length - i∧i≤xs.length∧∃ e' μ' σd',Ex e0 H0.h e' H∧Gr e1 e'∧St0 W e' μ' H∧Lo W e' H0 σd' σ H∧AftS W e0 H0 e' (forL turn (xs.drop i) σd' μ') D Wx,⟨_,rfl,Nat.zero_le _,e1,m,σd,x.trans x1,Gr.refl e1,st1,lo.ex x1,r⟩,fun i k σ H ⟨hk,hile,e',μ',σd',x',g,st',lo',q'⟩=>?_⟩
 by_cases hix:i < xs.length
 ·right
  refine ⟨wk.go i e' μ' H g st' hix,fun σ H=>i+1≤xs.length∧∃ e' μ' σd',Ex e0 H0.h e' H∧Gr e1 e'∧St0 W e' μ' H∧Lo W e' H0 σd' σ H∧AftS W e0 H0 e' (forL turn (xs.drop (i+1)) σd' μ') D Wx,fun σ' H' z=>⟨xs.length - (i+1),by omega,rfl,z⟩,fun v H2 y=>?_⟩
  obtain ⟨e2,d,hd,rd,x2,st2⟩:=wk.yld i e' μ' H v H2 g st' hix y
  have hdrop:xs.drop i=d::xs.drop (i+1):=by
   rw [List.drop_eq_getElem_cons hix]
   rw [List.getElem?_eq_getElem hix] at hd
   rw [Option.some.inj hd]
  rw [hdrop] at q'
  have q':AftS W e0 H0 e' (match turn d σd' μ' with
   | .nx σ' m'=>forL turn (xs.drop (i+1)) σ' m'
   | .brk σ' m' => .nx σ' m'
   | r=>r) D Wx:=q'
  have ht:turn d σd' μ'=(match bindT t d σd' with | some σ'=>exSs C bs σ' μ' | none=>SR.stuck):=by rw [← hturn]
  rw [ht] at q'
  cases hbt:bindT t d σd' with
  | none=>rw [hbt] at q'; exact q'.elim
  | some σ1 =>
   rw [hbt] at q'
   refine ⟨e2,μ',σd',d,σ1,st2,lo'.ex x2,rd,hbt,fun σ2 lo2 _=>⟨e2,μ',σ1,x'.trans x2,st2,lo2,?_⟩⟩
   have q':AftS W e0 H0 e' (match exSs C bs σ1 μ' with
    | .nx σ' m'=>forL turn (xs.drop (i+1)) σ' m'
    | .brk σ' m' => .nx σ' m'
    | r=>r) D Wx:=q'
   have q':=AftS.later x2.gr q'
   have g2:=g.trans x2.gr
   cases hr:exSs C bs σ1 μ' with
   | nx σ3 m3=>rw [hr] at q'; exact fun e3 H3 σ4 x3 g3 st3 lo3=>⟨hix,e3,m3,σ3,x3,g2.trans g3,st3,lo3,AftS.later g3 q'⟩
   | brk σ3 m3=>rw [hr] at q'; exact fun e3 H3 σ4 x3 g3 st3 lo3=>q' e3 H3 σ4 x3 g3 st3 lo3
   | ret=>rw [hr] at q'; exact q'
   | exc=>rw [hr] at q'; exact q'
   | stuck=>rw [hr] at q'; exact q'.elim
 ·left
  have hi':xs.length≤i:=by omega
  rw [List.drop_of_length_le hi'] at q'
  exact ⟨wk.stop i e' μ' H g st' hi',q'.nxt x' st' lo'⟩
end
end Ev
set_option maxRecDepth 100000
set_option maxHeartbeats 2000000
namespace Ev
open PySem PySem.Spec PyProof.Rows L2 EvT
section
variable {W:Wd} {X:Cx} {n:Nat} {C:Cl} {Wx:WX} {e0:Em} {H0:En} {pins:List (Addr×Obj)} {σ:L2.St} {H H1:Hp} {s:Shared} {e e1:Em} {μ:Mu} {A:E} {pos p:Pos} {D:Ends}
def spX (C:Addr) (f:Str):Sp:=fun vs H Q _=>∃ (a:Addr) (v:V),vs=[.ref a,v]∧H a=some (exo a C none)∧∀ dx,H dx=none→dx≠a→Q .non (upd (upd H dx (exd dx [(f,v)])) a (exo a C (some dx)))
theorem xinit_ok {K:PySem.W.Frag} {mg:Str→Option Value} {P:Program} {w:World} {base:Heap} {b:Bk} {CA fI:Addr} {f:Str} {N:List Str} {sc:Scope} {body:List Stmt} {x qual:Str} {params:Arguments} {dvs:List V} {fd:FuncData} {k:Nat} {hot rep:Bool} {cX:CXT}
  (T:ExT K CA b) (hno:PySem.W.findIn K (.ref CA) f=some none) (xb:XBody K mg b f N sc body) (F:FunD K x qual params body sc dvs [] fI fd) (S:FnScope N (N.take 2) sc):FnG hot rep P w K mg base cX (k+1) fI fd (N.take 2) (spX CA f):=by
 obtain ⟨sf,vl,bn,txt,j,p1,p2,p3,p4,p5,p6,p7,p8,p9,p10,rfl,rfl,hl,l1,l2,g1,d0,d1,d2,d3,d4,hB⟩:=xb
 refine fnG_of F S (fun vs H Q E ⟨a,v,h,_⟩=>by rw [h]; rfl) fun cdv A outer s H vs Q E X hX hgu hr ⟨a,v,hvs,hH,hq⟩=>?_
 subst hvs
 have hXN:X.N=[sf,vl]∧X.env.scope=sc∧X.K=K∧X.mg=mg:=by
  rcases hX with rfl | ⟨_,p,_,rfl⟩ <;> exact ⟨rfl,rfl,rfl,rfl⟩
 obtain ⟨hN,hsc,hK,hmg⟩:=hXN
 have v1:Vis X.env.scope sf:=by rw [hsc]; exact .inl l1
 have v2:Vis X.env.scope vl:=by rw [hsc]; exact .inl l2
 have gB:Gl X bn:=by show X.env.scope.names.lookup bn=_; rw [hsc]; exact g1
 have e1:PE X (.Name sf p3) (tVar 0):=pe_var (i:=0) (by rw [hN]; rfl) v1 d1 d2
 have pa:PA X [.Name sf p3,.Constant (.str txt) j p4] (tCons (tVar 0) (tCons (tC (.str txt)) tNil)):=pa_cons e1 (pa_cons pe_str pa_nil)
 have s1:=ps_expr (pos:=p6) (pe_binit (pos:=p5) (p1:=p1) (p2:=p2) gB d0 (by rw [hK,hmg]; exact hB) pa (meth_eval (o:=.Name bn p1) rfl hl rfl (by simp)) rfl rfl) rfl
 have s2:=ps_put (pos:=p10) (b:=b) (f:=f) (p':=p8) (pe_var (pos:=p7) (i:=0) (by rw [hN]; rfl) v1 d1 d2) (pe_var (pos:=p9) (i:=1) (by rw [hN]; rfl) v2 d3 d4) rfl
 refine ⟨_,pss_cons s1 (pss_cons s2 pss_nil),?_⟩
 have es:L2.start [sf,vl] [V.ref a,v]=[some (.ref a),some v]:=rfl
 rw [es]
 refine ⟨.ref a,rfl,a,CA,[.str txt],rfl,by simp,by rw [hK]; exact T,hH,?_⟩
 exact ⟨v,rfl,.ref a,rfl,a,CA,rfl,by rw [hK]; exact T,by rw [hK]; exact hno,hH,fun dx h1 h2=>hq dx h1 h2⟩
end
end Ev
set_option maxRecDepth 100000
set_option maxHeartbeats 4000000
namespace PySem
namespace EvX
open PySem PySem.HandSPX PySem.Builtin PySem.Builtin.ObjectAttr
section
variable {M:Model} {prog:Program} {w:World} {A:Around} {E:Value→Shared→Prop} {R:Result→Shared→Prop} {h:Heap} {g:Array GenState} {d:Drawn} {t:Nat} {os:OsState}
variable {nm q:Str} {C N:Addr} {bs bm bmB:List Value} {hdct:Bool} {sn:List Str} {sub:List Value} {ab:Bool} {col:Option Bool} {dd:Option Addr} {k0 k1 k2 k3 k5:Option Value} {B newId initId:String} {kw:List (Str×Value)}
theorem xk_check (F:ExcBaseFacts B newId initId bmB) (hT:∀ X:String,bm.contains (.type X)=bmB.contains (.type X)) {Q:Unit→Shared→Prop}
  (hC:h.get? C=some (excClassObj nm q C N bs bm hdct sn sub ab col dd k0 k1 k2 k3 k5 newId)) (hq:Q () ⟨h,g,d,t,os⟩):wpAny M A (checkBuiltinCall newId ⟨[.ref C],kw⟩) Q E ⟨h,g,d,t,os⟩:=by
 have cB:(Value.ref C::bm).contains (.type B)=true:=by rw [List.contains_cons,hT,F.hasB,Bool.or_true]
 have st:=F.noStar
 simp only [checkBuiltinCall,F.newKind,F.newSplit,F.newRow]
 repeat (first | refine wpAny_loadPart_at hC ?_ | (refine wpAny_isSubtype_exc hC ?_; rw [cB]) | refine wpAny_staticBase_exc hC ?_ | refine wpAny_madeBy_exc hC ?_ | simp only [bne_self_eq_false,Bool.false_eq_true,if_false] | wp_step)
 exact hq
theorem xk_new (F:ExcBaseFacts B newId initId bmB) (hT:∀ X:String,bm.contains (.type X)=bmB.contains (.type X))
  (hC:h.get? C=some (excClassObj nm q C N bs bm hdct sn sub ab col dd k0 k1 k2 k3 k5 newId))
  (hq:R (.ok (.ret (.ref (h.objs.size+1)))) ⟨(h.push (PySem.W.kdv_tup [])).push (excO C h.objs.size),g,d,t,os⟩):codeAny (model prog w) A (.builtin newId ⟨[.ref C],kw⟩) R ⟨h,g,d,t,os⟩:=by
 have en:=F.ends
 have cB:(Value.ref C::bm).contains (.type B)=true:=by rw [List.contains_cons,hT,F.hasB,Bool.or_true]
 have cA:(Value.ref C::bm).contains (.type "AttributeError")=false:=by rw [List.contains_cons,hT,F.noAttr]; rfl
 have cN:(Value.ref C::bm).contains (.type "NameError")=false:=by rw [List.contains_cons,hT,F.noName]; rfl
 have sl:([]:List Value).length≤sizeLine:=Nat.zero_le _
 refine codeAny_builtinAt F.entry ?_
 unfold Builtin.«BaseException.__new__»
 refine wpAt_bind ?_
 show wpAt _ _ _ (stack >>= _) _ _ _
 refine wpAt_bind (wpAt_stack fun p below=>wpAt_of_wpAny ?_)
 wp_walk
 refine wpAt_of_wpAny ?_
 rw [F.owner]
 repeat (first | with_reducible refine wpAny_madeHere_exc F.canon hC ?_ | with_reducible refine wpAny_loadPart_at hC ?_ | (with_reducible refine wpAny_isSubtype_exc hC ?_; first | rw [cB] | rw [cA] | rw [cN]) | wp_step)
 show R _ _
 rw [Heap.size_push]
 exact hq
theorem xk_type (F:ExcBaseFacts B newId initId bmB) (hT:∀ X:String,bm.contains (.type X)=bmB.contains (.type X)) {fI:Addr} {Q:Fin→Shared→Prop}
  (hC:h.get? C=some (excClassObj nm q C N bs bm hdct sn sub ab col dd k0 k1 k2 k3 k5 newId))
  (hi:PySem.W.Looks (model prog w) h (typeLookup (.ref C) "__init__") (some (.ref fI))) (hb:∀ self,PySem.W.Looks (model prog w) h (bindSpecial (.ref fI) self) (.ref fI,[self]))
  (hq:codeAny (model prog w) A (.call (.ref fI) ⟨[.ref (h.objs.size+1)],kw⟩)
   (fun r s'=>match r with | .ok (.ret v)=>v = .none∧Q (.done (.ret (.ref (h.objs.size+1)))) s' | .ok _=>False | .error e=>E e s')
   ⟨(h.push (PySem.W.kdv_tup [])).push (excO C h.objs.size),g,d,t,os⟩):wpAny (model prog w) A (Builtin.«type.__call__» ⟨[.ref C],kw⟩) Q E ⟨h,g,d,t,os⟩:=by
 repeat (first | with_reducible refine wpAny_loadPart_at hC ?_ | with_reducible refine wpAny_madeBy_exc hC ?_ | wp_step)
 refine codeAny_call_builtin_code (Code.quiet_builtin _ F.quiet) (xk_check F hT hC ?_)
 refine xk_new F hT hC ?_
 show wpAny _ _ _ _ _ _
 have k:∀ b o,h.get? b=some o→((h.push (PySem.W.kdv_tup [])).push (excO C h.objs.size)).get? b=some o:=fun b o e=>Heap.get?_push_of_some _ (Heap.get?_push_of_some _ e)
 have c1:=k _ _ hC
 have hg:((h.push (PySem.W.kdv_tup [])).push (excO C h.objs.size)).get? (h.objs.size+1)=some (excO C h.objs.size):=by heap_get
 have cC:(Value.ref C::bm).contains (.ref C)=true:=by simp
 have i1:=hi.keeps k
 have b1:=(hb (.ref (h.objs.size+1))).keeps k
 unfold isInstance
 repeat (first | with_reducible refine wpAny_loadPart_at hg ?_ | (with_reducible refine wpAny_isSubtype_exc c1 ?_; rw [cC]) | wp_step)
 show wpAny _ _ (typeLookup (.ref C) _) _ _ _
 refine i1.at (wpAny_holding (wpAny_bind (b1.at (wpAny_bind (wpAny_call (codeAny_mono hq fun r s' z=>?_))))))
 rcases r with e | (v | _ | _ | _) <;> first | exact z | exact z.elim | skip
 obtain ⟨rfl,z⟩:=z
 first
  | exact wpAny_pure (wpAny_pure z)
  | (wp_walk; exact z)
theorem xk_call (F:ExcBaseFacts B newId initId bmB) (hT:∀ X:String,bm.contains (.type X)=bmB.contains (.type X)) {fI:Addr}
  (hC:h.get? C=some (excClassObj nm q C N bs bm hdct sn sub ab col dd k0 k1 k2 k3 k5 newId))
  (hi:PySem.W.Looks (model prog w) h (typeLookup (.ref C) "__init__") (some (.ref fI))) (hb:∀ self,PySem.W.Looks (model prog w) h (bindSpecial (.ref fI) self) (.ref fI,[self]))
  (hq:codeAny (model prog w) (A.under (.builtin "type.__call__" ⟨[.ref C],kw⟩)) (.call (.ref fI) ⟨[.ref (h.objs.size+1)],kw⟩) (PySem.W.InitBack (h.objs.size+1) R)
   ⟨(h.push (PySem.W.kdv_tup [])).push (excO C h.objs.size),g,d,t,os⟩):codeAny (model prog w) A (.call (.ref C) ⟨[],kw⟩) R ⟨h,g,d,t,os⟩:=by
 have f1:=tc_lookup
 have f2:=tc_bind (.ref C)
 have ty:(⟨h,g,d,t,os⟩:Shared).TypeIs (.ref C) "type":=⟨_,hC,rfl⟩
 refine codeAny_of_tree ?_
 show wpAny _ _ (callAny (.ref C) _) _ _ _
 repeat (any_goals (first | assumption | with_reducible refine wpAny_loadPart_at hC ?_ | wp_step))
 refine ⟨rfl,?_⟩
 refine codeAny_call_builtin_at (Code.quiet_builtin _ (by decide +kernel)) entry_typeCall (wpAny_check_type_call_sub hC (xk_type F hT hC hi hb ?_))
 exact codeAny_mono hq fun r s' z=>by rcases r with e | (v | _ | _ | _) <;> exact z
end
end EvX
end PySem
set_option maxRecDepth 100000
set_option maxHeartbeats 4000000
namespace Ev
open PySem PySem.Spec PyProof.Rows L2 EvT
section
variable {W:Wd} {X:Cx} {n:Nat} {C:Cl} {Wx:WX} {H0:En} {pins:List (Addr×Obj)} {σ:L2.St} {H:Hp} {s:Shared} {e:Em} {μ:Mu} {p pos:Pos} {a:Expr} {A:E} {kws:List Keyword}
theorem mkx_core (h:Hyp W X n C Wx) {c:Nat} {i:ClI} (hi:W.T.cls[c]?=some i) (hx:i.isexc=true) (hne:i.flds≠[]) {d:D} {v:V} {u:Value} {us0:List Value} {kw:List (Str×Value)} {Q:VK} (I:Inv X pins σ H s) (st:St0 W e μ H) (hd:RepH W e H d v) (ru:RelV v u)
  (hB:∀ (j:FnI) (fd:FuncData),W.T.fns[i.init]?=some j→j.np=2→Binds W.K fd (j.names.take 2) []→KwB W.K fd (j.names.take 2)→(j.names.take 2).length=2→∀ (s':Shared) (x:Value),W.K.In s'.heap→BindsTo s' fd ⟨x::us0,kw⟩ ((j.names.take 2).zip [x,u]))
  (hC:(us0=[u]∧kw=[])∨us0=[])
  (q:Aft W e H (mkxR C.T c d μ) (fun d _ e' H'=>∀ v,RepH W e' H' d v→Q v H') (xkA Wx σ)):wpAny (model X.prog X.w) X.A (call (.ref (W.ca c)) us0 kw) (EP X pins σ Q) X.xe s:=by
 obtain ⟨b,k,j,body,scope,T,hfl,hno,hj,hin,hty,ft,hnp,hdf,xb⟩:=(h.txt.exc c i hi hx).made hne
 obtain ⟨xn,qual,params,dvs,fd,F,bi,kb⟩:=ft.ex
 generalize fadr W.K W.T j.loc=fa at hin hty F
 rw [← h.K] at T hno hin hty
 have xb:XBody X.K X.mg b (an W.T k) j.names scope body:=by rw [h.K,h.mg]; exact xb
 obtain ⟨nm,qq,N,bs,bm,sn,sub,ab,col,dd,k0,k1,k2,k3,k5,hCl,hbm⟩:=T.cls
 have hsc:=ft.sc
 rw [hnp] at hsc bi kb
 have F:FunD X.K xn qual params body scope dvs [] fa fd:=by rw [h.K]; exact F
 unfold mkxR at q
 split at q
 ·rename_i hnb
  have ex:excOf C.T c [d]=some [(k,d)]:=by
   unfold excOf
   rw [h.T,hi]
   dsimp only
   rw [hfl]; rfl
  rw [ex] at q
  have q:Aft W e H (.ok (.obj μ.length) (μ++[.exn c [(k,d)]])) (fun d _ e' H'=>∀ v,RepH W e' H' d v→Q v H') (xkA Wx σ):=q
  have rdv:=RepH.of hnb hd
  obtain ⟨hp,g,dr,tk,os⟩:=s
  have hsz:hp.objs.size≤hp.objs.size+1:=Nat.le_succ _
  have hn:H (hp.objs.size+1)=none:=I.hok.fresh hsz
  have kk:∀ b o,hp.get? b=some o→((hp.push (PySem.W.kdv_tup us0)).push (PySem.HandSPX.excO (W.ca c) hp.objs.size)).get? b=some o:=fun b o e=>Heap.get?_push_of_some _ (Heap.get?_push_of_some _ e)
  have hget:((hp.push (PySem.W.kdv_tup us0)).push (PySem.HandSPX.excO (W.ca c) hp.objs.size)).get? (hp.objs.size+1)=some (PySem.HandSPX.excO (W.ca c) hp.objs.size):=by heap_get
  have I2:Inv X pins σ (upd H (hp.objs.size+1) (exo (hp.objs.size+1) (W.ca c) none)) ⟨(hp.push (PySem.W.kdv_tup us0)).push (PySem.HandSPX.excO (W.ca c) hp.objs.size),g,dr,tk,os⟩:=
   I.laid (t':=tk) (a:=hp.objs.size+1) (o:=exo (hp.objs.size+1) (W.ca c) none) (h':=(hp.push (PySem.W.kdv_tup us0)).push (PySem.HandSPX.excO (W.ca c) hp.objs.size)) kk hsz (exo_ok hget)
  have FG:=xinit_ok (P:=X.prog) (w:=X.w) (base:=X.base) (k:=n) (hot:=C.hot) (rep:=C.rep) (cX:=L2N.CX X.prog X.w) T hno xb F hsc
  obtain ⟨de,dve,hve,hre,hbi⟩:=bi 0 (Nat.zero_le _)
  have hde:de=[]:=by
   have z:=hre e
   rw [hdf] at z
   have z:dve=[]:=z
   subst z
   cases hve; rfl
  subst hde
  have l2:(j.names.take 2).length=2:=by rw [← hnp]; exact ft.np
  have r2:Vals [V.ref (hp.objs.size+1),v] [Value.ref (hp.objs.size+1),u]:=.cons rfl (.cons ru .nil)
  generalize ha:hp.objs.size+1=ad at *
  have spx:spX (W.ca c) (an W.T k) [V.ref ad,v] (upd H ad (exo ad (W.ca c) none)) (fun v0 H2=>v0 = .non∧Q (.ref ad) H2) (fun _ _ _=>False):=by
   refine ⟨_,v,rfl,upd_same,fun dx hdx hne=>⟨rfl,?_⟩⟩
   rw [upd_ne hne] at hdx
   obtain ⟨x1,s1⟩:=st.frozen (exd dx [(an W.T k,v)]) hdx
   have hk:∀ b u,upd H dx (exd dx [(an W.T k,v)]) b=some u→upd (upd (upd H ad (exo ad (W.ca c) none)) dx (exd dx [(an W.T k,v)])) ad (exo ad (W.ca c) (some dx)) b=some u:=fun b u z=>by
    have n2:b≠ad:=fun w=>by
     rw [w,upd_ne (Ne.symm hne),hn] at z; cases z
    rw [upd_ne n2]
    by_cases hb:b=dx
    ·subst hb
     rw [upd_same] at z ⊢; exact z
    ·rw [upd_ne hb] at z ⊢
     rw [upd_ne n2]; exact z
   obtain ⟨e',x2,s2,g1,g2⟩:=s1.celled (a:=ad) (o:=exo ad (W.ca c) (some dx)) (so:=.exn c [(k,d)]) (by rw [upd_ne (Ne.symm hne)]; exact hn) upd_same hk fun e' x'=>by
    refine ⟨dx,[(an W.T k,v)],i,upd_same,x'.g _ _ upd_same,hi,hx,?_⟩
    rw [hfl]
    refine ⟨fun k' d' hl=>?_,fun nm' hk'=>?_⟩
    ·by_cases hkk:k'=k
     ·subst hkk
      have hl:some d=some d':=by simpa [List.lookup] using hl
      cases hl
      exact ⟨List.mem_singleton.mpr rfl,v,by simp [List.lookup],(rdv.ex x1).ex x'⟩
     ·have e9:(k' == k)=false:=by simpa using hkk
      simp [List.lookup,e9] at hl
    ·have hne9:an W.T k≠nm':=hk' k (List.mem_singleton.mpr rfl) (by simp [List.lookup])
     have e9:(nm' == an W.T k)=false:=by simpa using Ne.symm hne9
     simp [List.lookup,e9]
   exact q e' _ (x1.trans x2) s2 _ ⟨ad,rfl,g1⟩
  have run:∀ {A':Around},A'=X.A.under (.builtin "type.__call__" ⟨.ref (W.ca c)::us0,kw⟩)→codeAny (model X.prog X.w) A' (.call (.ref fa) ⟨.ref ad::us0,kw⟩) (PySem.W.InitBack ad (fun r s'=>match r with
    | .ok (.ret v)=>EP X pins σ Q v s'
    | .ok _=>False
    | .error x=>X.xe x s')) ⟨(hp.push (PySem.W.kdv_tup us0)).push (PySem.HandSPX.excO (W.ca c) hp.objs.size),g,dr,tk,os⟩:=by
   rintro A' rfl
   refine codeAny_mono (FG.run _ X.stack _ _ ⟨Value.ref ad::us0,kw⟩ [Value.ref ad,u] _ _ (fun _ _ _=>False) (fun z=>make_guards (h.guards z)) (RoomH.makeK (k:=n+1) (h.room.mono (by omega)) (W.ca c) us0 kw) (h.lull rfl I2) (I2.env0.make (W.ca c) us0 kw)
    (hB j fd hj hnp hbi kb l2 _ _ (by rw [← h.K]; exact I2.kIn)) r2 spx) fun r s2 hq2=>?_
   cases r with
   | error er =>
    obtain ⟨_,_,_,_,_,_,_,_,_,_,_,_,z⟩:=hq2
    exact z.elim
   | ok fl =>
    cases fl with
    | ret u2 =>
     obtain ⟨v2,H2,I3,rv2,ev,q3⟩:=I2.after hq2
     subst ev
     exact ⟨rv2,⟨V.ref ad,H2,I3,rfl,q3⟩⟩
    | next=>exact False.elim hq2
    | brk=>exact False.elim hq2
    | cont=>exact False.elim hq2
  subst ha
  refine wpAny_call ?_
  rcases hC with ⟨rfl,rfl⟩ | rfl
  ·exact PySem.HandSPX.call_own b.base (fun Y=>by rw [off_has,hbm]) (I.kIn _ _ hCl) (PySem.W.looks_findIn I.kIn hin) (fun self=>PySem.W.bind_fn I.kIn self hty) (by show 1≤sizeLine; rw [sizeLine_eq]; omega) (run rfl)
  ·exact PySem.EvX.xk_call b.base (fun Y=>by rw [off_has,hbm]) (I.kIn _ _ hCl) (PySem.W.looks_findIn I.kIn hin) (fun self=>PySem.W.bind_fn I.kIn self hty) (run rfl)
 ·exact q.elim
theorem snd_mkx (h:Hyp W X n C Wx) {c:Nat} {i:ClI} {y:Str} (hi:W.T.cls[c]?=some i) (hx:i.isexc=true) (hne:i.flds≠[]) (hn:i.name=y) (hg:Gl X y) (hd:(y == ("__debug__" : Str))=false) (hs:noStar a=true) (ha:PE X a (rE W C Wx H0 A)) :
  PE X (.Call (.Name y p) [a] [] pos) (rE W C Wx H0 (.mkx false c A)):=by
 subst hn
 refine ⟨fun pins s σ H Q I ⟨e,μ,σd,st,lo,q⟩=>?_⟩
 obtain ⟨gm,gk⟩:=h.txt.clsg c i hi
 refine wpAny_Call_Name_kw (ld_glob I hg (by rw [h.mg]; exact gm) ?_ hd)
 refine PySem.W.callWith_K (h₀:=X.base) I.ok.mod.kin (by rw [h.K]; exact gk) (thn ((pa_cons ha pa_nil (star_no hs)).run pos pins s σ H (fun vs H'=>∃ v d m e',vs=[v]∧St0 W e' m H'∧RepH W e' H' d v∧Aft W e' H' (mkxR C.T c d m) (fun d _ e' H'=>∀ v,RepH W e' H' d v→Q v H') (xkA Wx σ)) I (rE.at st lo (Aft.bind q) fun d m e' H' v _ st' _ r hv=>⟨v,d,m,e',rfl,st',hv,r⟩)) fun us s1 ⟨vs,H1,I1,r1,v,d,m,e1,ev,st1,hv,q1⟩=>⟨I1.kIn,?_⟩) (star_no hs) rfl
 subst ev
 obtain ⟨u,rfl,ru⟩:=vals1 r1
 refine mkx_core h hi hx hne I1 st1 hv ru (fun j fd hj hnp hb kb l2 s' x hK=>?_) (.inl ⟨rfl,rfl⟩) q1
 exact hb s' [x,u] hK (by rw [l2]; rfl)
theorem snd_mkxk (h:Hyp W X n C Wx) {c:Nat} {i:ClI} {j:FnI} {y nm:Str} {kp:Pos} (hi:W.T.cls[c]?=some i) (hx:i.isexc=true) (hne:i.flds≠[]) (hn:i.name=y) (hj:W.T.fns[i.init]?=some j) (hnm:(j.names.take 2).drop 1=[nm]) (hg:Gl X y) (hd:(y == ("__debug__" : Str))=false) (ha:PE X a (rE W C Wx H0 A)) :
  PE X (.Call (.Name y p) [] [⟨some nm,a,kp⟩] pos) (rE W C Wx H0 (.mkx true c A)):=by
 subst hn
 refine ⟨fun pins s σ H Q I ⟨e,μ,σd,st,lo,q⟩=>?_⟩
 obtain ⟨gm,gk⟩:=h.txt.clsg c i hi
 refine wpAny_Call_Name_kw (ld_glob I hg (by rw [h.mg]; exact gm) ?_ hd)
 obtain ⟨a1,a2,a3⟩:=kw_all (env:=X.env) (pos:=pos) (kws:=[⟨some nm,a,kp⟩]) (ns:=[nm]) rfl
 refine PySem.W.callWith_KW0 (h₀:=X.base) I.ok.mod.kin (by rw [h.K]; exact gk) a1 (thn ((pk_cons ha pk_nil).run pos pins s σ H (fun vs H'=>∃ v d m e',vs=[v]∧St0 W e' m H'∧RepH W e' H' d v∧Aft W e' H' (mkxR C.T c d m) (fun d _ e' H'=>∀ v,RepH W e' H' d v→Q v H') (xkA Wx σ)) I (rE.at st lo (Aft.bind q) fun d m e' H' v _ st' _ r hv=>⟨v,d,m,e',rfl,st',hv,r⟩)) fun us s1 ⟨vs,H1,I1,r1,v,d,m,e1,ev,st1,hv,q1⟩=>⟨I1.kIn,?_⟩) (by rw [a3]; rfl)
 subst ev
 obtain ⟨u,rfl,ru⟩:=vals1 r1
 rw [a2]
 refine mkx_core h hi hx hne I1 st1 hv ru (fun j' fd hj' hnp hb kb l2 s' x hK=>?_) (.inr rfl) q1
 rw [hj] at hj'; cases hj'
 have z:=kb s' [x] [u] hK (by rw [l2]; rfl)
 rw [List.length_singleton,hnm] at z
 exact z
theorem snd_isx (h:Hyp W X n C Wx) {k:Kd} {cx:Expr} {x:Str} (hx:x = "isinstance") (hg:Gl X x) (hk:KdName X W.T k cx) (hs:noStar a=true) (ha:PE X a (rE W C Wx H0 A)):PE X (.Call (.Name x p) [a,cx] [] pos) (rE W C Wx H0 (.isx A k)):=by
 refine ⟨fun pins s σ H Q I ⟨e,μ,σd,st,lo,q⟩=>?_⟩
 obtain ⟨pk,ki,ns⟩:=pe_kd h hk
 have pa:PA X [a,cx] (tCons (rE W C Wx H0 A) (tCons (tC (kdVV W k)) tNil)):=pa_cons ha (pa_cons pk pa_nil (star_no ns)) (star_no hs)
 have cr:CallR X (.builtin "isinstance") (fun xs H' Q'=>∃ (a':Addr) (c:Nat) (i:ClI) (dx:Addr) (gs:List (Str×V)),xs=[.ref a',kdVV W k]∧H' a'=some (exo a' (W.ca c) (some dx))∧H' dx=some (exd dx gs)∧W.T.cls[c]?=some i∧i.isexc=true∧Q' (.bl (isTy W.T (.ins c) k)) H'):=by
  intro pins2 s2 σ2 H2 xs us Q2 I2 r2 ⟨a',c,i,dx,gs,ex,h1,h2,h3,h4,q2⟩
  subst ex
  obtain ⟨u1,u2,rfl,ru1,ru2⟩:=vals2 r2
  cases ru1
  have ek:=(kd_cls (W:=W) k).eq ru2
  subst ek
  obtain ⟨t1,ho1⟩:=exo_at I2.hok h1
  obtain ⟨mA,hns,hr⟩:=exd_at I2.hok h2
  obtain ⟨od,ho,hlk⟩:=lookIn_ns hns
  have J:PySem.W.InstAt s2.heap a' _ (W.ca c) (some od):=⟨ho1,rfl,rfl,ho⟩
  have ef:=h.txt.exc c i h3 h4
  have xf:=ef.xf
  have e1:=ef.inst
  have e2:=ef.cls
  have e3:=ef.top
  have e4:=h.txt.ccg
  have e5:=h.txt.cct
  have e6:=h.txt.isi (.ins c) k (by show (W.T.cls[c]?).isSome=true; rw [h3]; rfl) ki
  rw [← h.K] at xf e1 e2 e3 e4 e5 e6
  exact PySem.W.kia_one (PySem.W.kitx_exc e1 xf.ga xf.gg xf.exC e2 e4 e5 e3) I2.kIn J e6 (fun z=>nomatch z) fun tk=>⟨.bl _,H2,I2.kept (t':=tk) fun _ _ z=>z,rfl,q2⟩
 refine (pe_callB cr hg (by rw [h.mg,hx]; exact h.txt.blt _ (by simp [BLT])) (by rw [hx]; kernel_rfl) pa (by rw [hx]; decide +kernel) (by rw [hx]; decide +kernel) (star_no hs) (any_no (es:=[cx]) (by simp [ns]))).run pins s σ H Q I ?_
 refine rE.at st lo (Aft.bind q) fun d m e' H' v x st' lo' r hv=>?_
 cases d with
 | obj o =>
  have r:Aft W e' H' (match m[o]? with | some (.exn c _) => .ok (.bl (isTy C.T (.ins c) k)) m | _ => .stuck) (fun d _ e' H'=>∀ v,RepH W e' H' d v→Q v H') (xkA Wx σ):=r
  cases hm:m[o]? with
  | none=>rw [hm] at r; exact r.elim
  | some so =>
   rw [hm] at r
   cases so with
   | exn c fs =>
    obtain ⟨a',rfl,ha'⟩:=hv
    obtain ⟨a2,h0,dx,gs,i,h1,h2,h3,h4,_⟩:=st'.cell o _ hm
    rw [ha'] at h0; cases h0
    have:=r.now st' (.bl (isTy C.T (.ins c) k)) rfl
    rw [h.T] at this
    exact ⟨a',c,i,dx,gs,rfl,h1,st'.sub _ _ h2,h3,h4,this⟩
   | _=>exact r.elim
 | _=>exact r.elim
end
end Ev
set_option maxRecDepth 100000
set_option maxHeartbeats 2000000
namespace Ev
open PySem PySem.Spec PyProof.Rows L2
section
variable {W:Wd} {X:Cx} {n:Nat} {C:Cl} {Wx:WX} {e0:Em} {H0:En} {pins:List (Addr×Obj)} {σ:L2.St} {H H1:Hp} {s:Shared} {e e1:Em} {μ:Mu} {a b c tg:Expr} {A B V':E} {pos p:Pos} {es:List Expr} {ys:Es} {D:Ends}
theorem lookup_mapN (k j:Nat) (v:Ev.D):∀ fs:List (Nat×Ev.D),(fs.map fun p=>if p.1=k then (k,v) else p).lookup j=if j=k then (if (fs.lookup k).isSome then some v else none) else fs.lookup j
 | []=>by by_cases h:j=k <;> simp [h]
 | p::r=>by
  have ih:=lookup_mapN k j v r
  obtain ⟨a,x⟩:=p
  rw [List.map_cons]
  by_cases ha:a=k
  ·subst ha
   rw [if_pos rfl,List.lookup_cons]
   by_cases hj:j=a
   ·subst hj; simp
   ·rw [show (j == a)=false by simp [hj]]
    simp only [hj,if_false] at ih ⊢
    rw [ih,List.lookup_cons,show (j == a)=false by simp [hj]]
  ·rw [if_neg ha,List.lookup_cons,ih]
   by_cases hj:j=k
   ·subst hj
    rw [show (j == a)=false by simp; exact fun z=>ha z.symm]
    simp only [if_true]
    rw [List.lookup_cons,show (j == a)=false by simp; exact fun z=>ha z.symm]
   ·simp only [hj,if_false]
    rw [List.lookup_cons]
theorem lookup_putN (k j:Nat) (v:Ev.D) (fs:List (Nat×Ev.D)):(putN k v fs).lookup j=if j=k then some v else fs.lookup j:=by
 unfold putN
 split
 ·rename_i h
  rw [lookup_mapN,if_pos h]
 ·rw [List.lookup_cons]
  by_cases hj:j=k
  ·subst hj; simp
  ·rw [show (j == k)=false by simp [hj],if_neg hj]
theorem FldsM.put {ks:List Nat} {fs:List (Nat×Ev.D)} {gs:List (Str×V)} {k:Nat} {d:Ev.D} {v:V} (f:FldsM W e ks fs gs) (hk:k∈ks) (fi:∀ k∈ks,∀ k'∈ks,an W.T k=an W.T k'→k=k') (r:Rep W e d v):FldsM W e ks (putN k d fs) (putF (an W.T k) v gs):=by
 refine ⟨fun j d' hj=>?_,fun nm hn=>?_⟩
 ·rw [lookup_putN] at hj
  by_cases hjk:j=k
  ·subst hjk
   rw [if_pos rfl] at hj
   cases hj
   exact ⟨hk,v,by rw [lookup_putF,if_pos rfl],r⟩
  ·rw [if_neg hjk] at hj
   obtain ⟨h1,w,h2,h3⟩:=f.at_ j d' hj
   exact ⟨h1,w,by rw [lookup_putF,if_neg (fun z=>hjk (fi j h1 k hk z))]; exact h2,h3⟩
 ·have hkn:an W.T k≠nm:=hn k hk (by rw [lookup_putN,if_pos rfl]; rfl)
  rw [lookup_putF,if_neg (Ne.symm hkn)]
  refine f.no nm fun j hj hs=>hn j hj ?_
  rw [lookup_putN]
  split
  ·rfl
  ·exact hs
end
end Ev
set_option maxRecDepth 100000
set_option maxHeartbeats 2000000
namespace Ev
open PySem PySem.Spec PyProof.Rows L2
section
variable {W:Wd} {X:Cx} {n:Nat} {C:Cl} {Wx:WX} {e0:Em} {H0:En} {pins:List (Addr×Obj)} {σ:L2.St} {H H1:Hp} {s:Shared} {e e1:Em} {μ:Mu} {a b c tg:Expr} {A B V':E} {pos p:Pos} {es:List Expr} {ys:Es} {D:Ends}
theorem feq_V {x y:Ev.D} {v w:V} (f:flat x=true) (g:flat y=true) (r:Rep W e x v) (q:Rep W e y w):eqV v w=feq x y:=by
 cases x with
 | non =>
  cases (show v = .non from r)
  cases y with
  | non=>cases (show w = .non from q); rfl
  | bl b=>cases (show w = .bl b from q); rfl
  | int b=>cases (show w = .int b from q); rfl
  | str b=>cases (show w = .str b from q); rfl
  | _=>cases g
 | bl i =>
  cases (show v = .bl i from r)
  cases y with
  | non=>cases (show w = .non from q); rfl
  | bl b=>cases (show w = .bl b from q); rfl
  | int b=>cases (show w = .int b from q); rfl
  | str b=>cases (show w = .str b from q); rfl
  | _=>cases g
 | int i =>
  cases (show v = .int i from r)
  cases y with
  | non=>cases (show w = .non from q); rfl
  | bl b=>cases (show w = .bl b from q); rfl
  | int b=>cases (show w = .int b from q); rfl
  | str b=>cases (show w = .str b from q); rfl
  | _=>cases g
 | str i =>
  cases (show v = .str i from r)
  cases y with
  | non=>cases (show w = .non from q); rfl
  | bl b=>cases (show w = .bl b from q); rfl
  | int b=>cases (show w = .int b from q); rfl
  | str b=>cases (show w = .str b from q); rfl
  | _=>cases g
 | _=>cases f
theorem flat_RepH {x:Ev.D} {v:V} (f:flat x=true) (r:RepH W e H x v):Rep W e x v:=by
 cases x <;> first | exact r | cases f
theorem flats_V:∀ {xs:List Ev.D} {vs:List V},xs.all flat=true→RepL W e xs vs→vs.all flatV=true
 | [],_,_,r=>by rw [show _=[] from r]; rfl
 | x::xs,_,f,r=>by
  obtain ⟨v,ws,rfl,r1,r2⟩:=r
  rw [List.all_cons,Bool.and_eq_true] at f
  rw [List.all_cons,flat_V f.1 r1,flats_V f.2 r2]; rfl
theorem countU {x:Ev.D} {v:V} (f:flat x=true) (r:Rep W e x v):∀ {xs:List Ev.D} {vs:List V} {us:List Value},xs.all flat=true→RepL W e xs vs→Vals vs us→us.countP (eqU v)=xs.countP fun y=>feq y x
 | [],_,_,_,q,z=>by
  rw [show _=[] from q] at z
  cases z; rfl
 | y::xs,_,_,g,q,z=>by
  obtain ⟨w,ws,rfl,r1,r2⟩:=q
  cases z with
  | cons z1 z2 =>
   rw [List.all_cons,Bool.and_eq_true] at g
   have ih:=countU f r g.2 r2 z2
   rw [List.countP_cons,List.countP_cons,ih,eqU_of z1 (flat_V g.1 r1),feq_V g.1 f r1 r]
def rCount (K:PySem.W.Frag):V→List V→Hp→VK→Prop:=fun x xs H Q=>∃ (p:Addr) (vs:List V) (y:V) (k:Nat),x = .ref p∧xs=[y]∧SqL K H p vs∧flatV y=true∧vs.all flatV=true∧(∀ us:List Value,Vals vs us→us.countP (eqU y)=k)∧Q (.int (k:Int)) H
theorem mt_cnt:MtR X "list.count" (rCount X.K):=by
 intro pins s σ H x xs v us Q I rx rxs h
 obtain ⟨p,vs,y,k,rfl,rfl,hs,fy,fv,hk,q⟩:=h
 cases rx
 obtain ⟨u,rfl,ru⟩:=rxs.one
 obtain ⟨its,rv,⟨⟨c1,c2,c3,c4⟩,n,ho,hc,hdn,hd⟩,hlen⟩:=I.list hs
 have hc:c1 = .type "list":=hc
 have hd:c3 = .seq its.toArray n:=hd
 subst hc hd
 refine call_meets PySem.F.slot_list_count ⟨_,ho,rfl⟩ PySem.F.entry_list_count (PySem.F.args_list_count_2 _ _) (SeqAt.list_countAt p its.toArray n c2 c4 u (eqU y)) ⟨ho,fun w hw=>mem_eqAt ru fy rv fv w (by simpa using hw),?_⟩
 refine ⟨.int (k:Int),H,I.tok _,⟨s.toks,?_⟩,q⟩
 have e:=hk its rv
 show Value.int ((its.toArray.toList.countP (eqU y):Nat):Int) s.toks=_
 rw [show its.toArray.toList=its from rfl,e]
theorem snd_count (h:Hyp W X n C Wx) {apos:Pos} (hb:baseOk a=true) (hl:(apos.endLine == pos.line)=true) (hs:noStar b=true) (ho:PE X a (rE W C Wx H0 A)) (hy:PE X b (rE W C Wx H0 B)) :
  PE X (.Call (.Attribute a "count" apos) [b] [] pos) (rE W C Wx H0 (.bmeth A .count (.cons false B .nil))):=by
 have hst:starEach [b] X.env=(false,eval b X.env)::starEach [] X.env:=star_no hs
 have hx:=pe_bm (cpos:=pos) (apos:=apos) PySem.F.plainAttrs_list PySem.F.slot_list_count PySem.F.type_list_count (mt_cnt (X:=X)) ho (snd_cons hs hy snd_nil) (base_ok hb) (by rw [hst]; rfl) hl hst (by rfl)
 refine ⟨fun pins s σ H Q I ⟨e,μ,σd,st,lo,q⟩=>hx.run pins s σ H Q I (rE.at st lo (Aft.bind q) fun d m e' H' v x st' lo' r hv=>?_)⟩
 cases d with
 | lst xs =>
  have hv:Rep W e' (.lst xs) v:=hv
  have r:Aft W e' H' ((evEs C (.cons false B .nil) σd m).bind fun vs m=>evBm C .count (.lst xs) vs m) (fun d _ e' H'=>∀ v,RepH W e' H' d v→Q v H') (xkA Wx σ):=r
  obtain ⟨p,vs,rfl,hq,hr⟩:=hv
  refine ⟨.inl ⟨rfl,vs,h.K▸hq.sq st'.sub⟩,rA.at st' lo' r.bind fun ds m2 e2 H2 ws x2 st2 lo2 r2 hws=>?_⟩
  have r2:Aft W e2 H2 (evBm C .count (.lst xs) ds m2) _ _:=r2
  match ds,hws,r2 with
  | [y],hws,r2 =>
   obtain ⟨w,ws',rfl,hw,hn⟩:=hws
   cases (show ws'=[] from hn)
   have r2:Aft W e2 H2 (if flat y&&xs.all flat then .ok (.int ((xs.countP fun z=>feq z y:Nat):Int)) m2 else .stuck) (fun d _ e' H'=>∀ v,RepH W e' H' d v→Q v H') (xkA Wx σ):=r2
   split at r2
   ·rename_i hf
    rw [Bool.and_eq_true] at hf
    have hr2:=hr.ex x2
    have ry:=flat_RepH hf.1 hw
    exact ⟨p,vs,w,_,rfl,rfl,h.K▸(hq.mono x2.g).sq st2.sub,flat_V hf.1 ry,flats_V hf.2 hr2,fun us hu=>countU hf.1 ry hf.2 hr2 hu,r2.now st2 _ rfl⟩
   ·exact r2.elim
  | [],_,r2=>exact r2.elim
  | _::_::_,_,r2=>exact r2.elim
 | _=>exact r.elim
theorem snd_index (h:Hyp W X n C Wx) {apos:Pos} (hb:baseOk a=true) (hl:(apos.endLine == pos.line)=true) (hs:noStar b=true) (ho:PE X a (rE W C Wx H0 A)) (hy:PE X b (rE W C Wx H0 B)) :
  PE X (.Call (.Attribute a "index" apos) [b] [] pos) (rE W C Wx H0 (.bmeth A .index (.cons false B .nil))):=by
 have hst:starEach [b] X.env=(false,eval b X.env)::starEach [] X.env:=star_no hs
 have hx:=pe_bm (cpos:=pos) (apos:=apos) PySem.F.plainAttrs_list PySem.F.slot_list_index PySem.F.type_list_index (mt_index (X:=X)) ho (snd_cons hs hy snd_nil) (base_ok hb) (by rw [hst]; rfl) hl hst (by rfl)
 refine ⟨fun pins s σ H Q I ⟨e,μ,σd,st,lo,q⟩=>hx.run pins s σ H Q I (rE.at st lo (Aft.bind q) fun d m e' H' v x st' lo' r hv=>?_)⟩
 cases d with
 | lst xs =>
  have hv:Rep W e' (.lst xs) v:=hv
  have r:Aft W e' H' ((evEs C (.cons false B .nil) σd m).bind fun vs m=>evBm C .index (.lst xs) vs m) (fun d _ e' H'=>∀ v,RepH W e' H' d v→Q v H') (xkA Wx σ):=r
  obtain ⟨p,vs,rfl,hq,hr⟩:=hv
  refine ⟨.inl ⟨rfl,vs,h.K▸hq.sq st'.sub⟩,rA.at st' lo' r.bind fun ds m2 e2 H2 ws x2 st2 lo2 r2 hws=>?_⟩
  have r2:Aft W e2 H2 (evBm C .index (.lst xs) ds m2) _ _:=r2
  match ds,hws,r2 with
  | [y],hws,r2 =>
   obtain ⟨w,ws',rfl,hw,hn⟩:=hws
   cases (show ws'=[] from hn)
   have r2:Aft W e2 H2 (if flat y&&xs.all flat then (match xs.findIdx? fun z=>feq z y with | some j => .ok (.int (j:Int)) m2 | none => .stuck) else .stuck) (fun d _ e' H'=>∀ v,RepH W e' H' d v→Q v H') (xkA Wx σ):=r2
   split at r2
   ·rename_i hf
    rw [Bool.and_eq_true] at hf
    have hr2:=hr.ex x2
    have ry:=flat_RepH hf.1 hw
    cases hi:xs.findIdx? fun z=>feq z y with
    | none=>rw [hi] at r2; exact r2.elim
    | some j =>
     rw [hi] at r2
     obtain ⟨hj,h1,h2⟩:=List.findIdx?_eq_some_iff_getElem.mp hi
     have at_:∀ (m:Nat) (z:V),vs[m]?=some z→∃ d,xs[m]?=some d∧flat d=true∧eqV z w=feq d y:=fun m z hz=>by
      obtain ⟨d,d1,d2⟩:=hr2.getV hz
      have fd:=List.all_eq_true.mp hf.2 d (List.mem_of_getElem? d1)
      exact ⟨d,d1,fd,feq_V fd hf.1 d2 ry⟩
     obtain ⟨z,z1,_⟩:=hr2.get (List.getElem?_eq_getElem hj)
     obtain ⟨d,d1,fd,d3⟩:=at_ j z z1
     rw [List.getElem?_eq_getElem hj] at d1
     cases d1
     refine ⟨p,vs,w,j,z,rfl,rfl,h.K▸(hq.mono x2.g).sq st2.sub,flat_V hf.1 ry,flats_V hf.2 hr2,z1,d3.trans h1,fun m z' hm hz'=>?_,r2.now st2 _ rfl⟩
     obtain ⟨d',e1,_,e3⟩:=at_ m z' hz'
     have hm':m < xs.length:=Nat.lt_trans hm hj
     rw [List.getElem?_eq_getElem hm'] at e1
     cases e1
     rw [e3]
     simpa using h2 m hm
   ·exact r2.elim
  | [],_,r2=>exact r2.elim
  | _::_::_,_,r2=>exact r2.elim
 | _=>exact r.elim
end
end Ev
set_option maxRecDepth 100000
set_option maxHeartbeats 2000000
namespace Ev
open PySem PySem.Spec PyProof.Rows L2
theorem RepV.mono {W:Wd} {e e':Em} (hg:∀ a o,e.G a=some o→e'.G a=some o) (hr:∀ i a,e.r i=some a→e'.r i=some a):∀ {d:Ev.D} {v:V},RepV W e d v→RepV W e' d v
 | .non,_,h=>h
 | .bl _,_,h=>h
 | .int _,_,h=>h
 | .str _,_,h=>h
 | .tup _,_,h=>Rep.mono (W:=W) hg hr (.tup _) _ h
 | .lst _,_,h=>Rep.mono (W:=W) hg hr (.lst _) _ h
 | .ins _ _,_,h=>Rep.mono (W:=W) hg hr (.ins _ _) _ h
 | .obj _,_,h=>Rep.mono (W:=W) hg hr (.obj _) _ h
 | .bor _ _,_,h=>h.elim
 | .opq,_,h=>h
section
variable {W:Wd} {X:Cx} {n:Nat} {C:Cl} {Wx:WX} {e0:Em} {H0:En} {pins:List (Addr×Obj)} {σ:L2.St} {H H1:Hp} {s:Shared} {e e1:Em} {μ:Mu} {a b c tg:Expr} {A B V':E} {pos p:Pos} {es:List Expr} {ys:Es} {D:Ends}
theorem Lo.turn {σd:Sg} (lo:Lo W e H0 σd σ H) {i:Nat} {l0 l1:L} {a:Addr} {o:HO} (hat:σd[i]?=some (some l0)) (p0:l0.priv=true) (hv:σ[i]?=some (some (.ref a))) (r:RepS W e H0 (upd H a o) l1 (.ref a)) :
  Lo W e H0 (σd.set i (some l1)) σ (upd H a o):=by
 refine ⟨by simp [lo.len],fun j l hj=>?_,fun j j' l l' w hjj g1 g2 q1 q2 g3=>?_⟩
 ·by_cases hji:j=i
  ·subst hji
   by_cases hl:j < σd.length
   ·rw [List.getElem?_set_self hl] at hj; cases hj
    exact ⟨_,hv,r⟩
   ·rw [List.getElem?_eq_none (by simpa using hl)] at hj; cases hj
  ·rw [List.getElem?_set_ne (Ne.symm hji)] at hj
   obtain ⟨w,g1,g2⟩:=lo.at_ j l hj
   refine ⟨w,g1,?_⟩
   cases l with
   | val d'=>exact g2
   | own xs =>
    obtain ⟨b,vs,rfl,k1,k2,k3⟩:=g2
    have hne:b≠a:=fun z=>lo.ne j i _ _ (.ref b) hji hj hat rfl p0 g1 (by rw [z]; exact hv)
    exact ⟨b,vs,rfl,by rw [upd_ne hne]; exact k1,k2,k3⟩
   | self c' fs' =>
    obtain ⟨b,dx',gs',i2,⟨rfl,sb1,sb2⟩,k1,k2⟩:=g2
    have hne:b≠a:=fun z=>lo.ne j i _ _ (.ref b) hji hj hat rfl p0 g1 (by rw [z]; exact hv)
    exact ⟨b,dx',gs',i2,⟨rfl,sb1,sb2⟩,by rw [upd_ne hne]; exact k1,k2⟩
   | exn _ _ =>
    obtain ⟨b,dx',gs',i2,rfl,hx0,k1,k2⟩:=g2
    have hne:dx'≠a:=by
     obtain ⟨w0,y1,y2⟩:=lo.at_ i _ hat
     rw [hv] at y1; cases y1
     rintro rfl
     cases l0 with
     | val d=>cases p0
     | own xs =>
      obtain ⟨b0,vs0,q0,y3,_⟩:=y2
      cases q0
      rw [y3] at k1; cases k1
     | self c fs =>
      obtain ⟨b0,d0,gs0,i0,⟨q0,_⟩,y3,_⟩:=y2
      cases q0
      rw [y3] at k1; cases k1
     | exn c fs=>cases p0
    exact ⟨b,dx',gs',i2,rfl,hx0,by rw [upd_ne hne]; exact k1,k2⟩
 ·have back:∀ {j:Nat} {l:L},(σd.set i (some l1))[j]?=some (some l)→l.priv=true→∃ l0,σd[j]?=some (some l0)∧l0.priv=true:=by
   intro j l hj hp
   by_cases hji:j=i
   ·subst hji; exact ⟨_,hat,p0⟩
   ·rw [List.getElem?_set_ne (Ne.symm hji)] at hj
    exact ⟨l,hj,hp⟩
  obtain ⟨l0,b1,b2⟩:=back g1 q1
  obtain ⟨l0',b1',b2'⟩:=back g2 q2
  exact lo.ne j j' l0 l0' w hjj b1 b1' b2 b2' g3
theorem Lo.take {σd:Sg} (lo:Lo W e H0 σd σ H) {i:Nat} {l1:L} {a:Addr} (hp:l1.priv=true) (hn:∀ (j:Nat) (l:L),σd[j]?=some (some l)→l.priv=true→σ[j]?≠some (some (.ref a))) (r:RepS W e H0 H l1 (.ref a)) :
  Lo W e H0 (σd.set i (some l1)) (σ.set i (some (.ref a))) H:=by
 refine ⟨by simp [lo.len],fun j l hj=>?_,fun j j' l l' w hjj g1 g2 q1 q2 g3=>?_⟩
 ·by_cases hji:j=i
  ·subst hji
   by_cases hl:j < σd.length
   ·rw [List.getElem?_set_self hl] at hj; cases hj
    exact ⟨_,by rw [List.getElem?_set_self (by rw [lo.len]; exact hl)],r⟩
   ·rw [List.getElem?_eq_none (by simpa using hl)] at hj; cases hj
  ·rw [List.getElem?_set_ne (Ne.symm hji)] at hj ⊢
   exact lo.at_ j l hj
 ·by_cases hj:j=i
  ·subst hj
   have hj':j'≠j:=Ne.symm hjj
   rw [List.getElem?_set_ne (Ne.symm hj')] at g2 ⊢
   have hl:j < σ.length:=by
    have:=(List.getElem?_eq_some_iff.mp g3).1
    simpa using this
   rw [List.getElem?_set_self hl] at g3
   cases g3
   exact hn j' l' g2 q2
  ·rw [List.getElem?_set_ne (Ne.symm hj)] at g1 g3
   by_cases hj':j'=i
   ·subst hj'
    by_cases hl:j' < σ.length
    ·rw [List.getElem?_set_self hl]
     intro z
     cases z
     exact hn j l g1 q1 g3
    ·rw [List.getElem?_eq_none (by simpa using hl)]
     intro z; cases z
   ·rw [List.getElem?_set_ne (Ne.symm hj')] at g2 ⊢
    exact lo.ne j j' l l' w hjj g1 g2 q1 q2 g3
theorem Lo.fresh {σd:Sg} (lo:Lo W e H0 σd σ H) {a:Addr} (hn:H a=none):∀ (j:Nat) (l:L),σd[j]?=some (some l)→l.priv=true→σ[j]?≠some (some (.ref a)):=by
 intro j l hj hp hz
 obtain ⟨w,g1,g2⟩:=lo.at_ j l hj
 rw [g1] at hz
 cases hz
 cases l with
 | val d=>cases hp
 | own xs =>
  obtain ⟨b,vs,q,k1,_⟩:=g2
  cases q
  rw [hn] at k1; cases k1
 | self c fs =>
  obtain ⟨b,dx,gs,i2,⟨q,_⟩,k1,_⟩:=g2
  cases q
  rw [hn] at k1; cases k1
 | exn _ _=>cases hp
theorem snd_setLc (h:Hyp W X n C Wx) {t:Tg} {it:Ev.It} {cond:To} {vs:List Nat} {elt iter:Expr} {ifs:List Expr} {scope:Scope} {ow:List (Str×Nat)} {i:Nat} {y:Str} {py spos:Pos} (own_:Bool)
  (hy:X.N[i]?=some y) (hyl:X.env.scope.names.lookup y=some .local) (hsw:swapsWith (.ListComp elt [⟨tg,iter,ifs,0⟩] scope pos) (some (.Name y py)) spos.line X.env=pure true)
  (hi:EvW.PIW X tg iter (rI W C Wx H0 true it)) (ok:BlkOk X.N X.env.scope scope ow) (hvs:ow.map (·.2)=vs) (hin:tgIn vs t=true)
  (hg:∀ (s:Shared) (H:Hp) (C':Addr) (cl:List (Str×Addr)) (fp:List Addr),PG (EvW.blkW X s H scope (compEnvC scope cl C' X.env) fp) tg (rG W H0 t)) (ht:∀ (s:Shared) (H:Hp) (C':Addr) (cl:List (Str×Addr)) (fp:List Addr),PTs (EvW.blkW X s H scope (compEnvC scope cl C' X.env) fp) ifs (rTo W C Wf H0 cond))
  (he:∀ (s:Shared) (H:Hp) (C':Addr) (cl:List (Str×Addr)) (fp:List Addr),PE (EvW.blkW X s H scope (compEnvC scope cl C' X.env) fp) elt (rE W C Wf H0 A)) (hs:∀ x,foldedSetIterable iter X.env x=pure x) :
  PS X (.Assign [.Name y py] (.ListComp elt [⟨tg,iter,ifs,0⟩] scope pos) spos) (rS W C Wx e0 H0 (if own_ then .ownc i (.comp A t it cond vs) else .asg (.name i) (.comp A t it cond vs))):=by
 refine ⟨fun pins s σ H D I ⟨e,μ,σd,x0,st,lo,q⟩=>?_⟩
 refine (EvW.ps_setLcW h.warmW h.nd hy hyl hsw hi ok hg ht he hs).run pins s σ H D I ?_
 rw [hvs]
 cases own_ with
 | true =>
  have q:AftS W e0 H0 e ((evE C (.comp A t it cond vs) σd μ).st σd fun d m=>match d with | .lst us => .nx (σd.set i (some (.own us))) m | _ => .stuck) D Wx:=q
  refine lc_ok h hin st lo (AftS.of_st x0 lo q).eq fun ds m' e' H' vacc p0 x' st' hp0 hDv racc p1 p2 hr=>?_
  rw [hr] at q
  have q:AftS W e0 H0 e (.nx (σd.set i (some (.own ds))) m') D Wx:=q
  have lo':=lo.ex x'
  have h0:H0.h p0=none:=none_back x0.dom hp0
  exact q e' H' _ (x0.trans x') x'.gr st' (lo'.take rfl (fun j l hj hp=>lo.fresh hp0 j l hj hp) ⟨p0,vacc,rfl,hDv,racc,p1,p2,h0⟩)
 | false =>
  have q:AftS W e0 H0 e ((evE C (.comp A t it cond vs) σd μ).st σd fun d m=>match bindT (.name i) d σd with | some σ' => .nx σ' m | none => .stuck) D Wx:=q
  refine lc_ok h hin st lo (AftS.of_st x0 lo q).eq fun ds m' e' H' vacc p0 x' st' hp0 hDv racc p1 p2 hr=>?_
  rw [hr] at q
  have q:AftS W e0 H0 e (.nx (σd.set i (some (.val (.lst ds)))) m') D Wx:=q
  have st2:=st'.frozenAt (.lst vacc) p1 p2
  have hup:upd H' p0 (.lst vacc)=H':=by
   funext b
   by_cases hb:b=p0
   ·rw [hb,upd_same,hDv]
   ·rw [upd_ne hb]
  rw [hup] at st2
  have mono:∀ b u,e'.G b=some u→upd e'.G p0 (.lst vacc) b=some u:=fun b u q=>by rw [upd_ne (ne_of_none q p1)]; exact q
  have x2:Ex e H ⟨upd e'.G p0 (.lst vacc),e'.r⟩ H':=by
   refine ⟨fun b u q=>mono b u (x'.g b u q),x'.r,fun b u q=>?_,x'.rn,x'.keep,x'.dom⟩
   by_cases hb:b=p0
   ·rw [hb]; exact .inr hp0
   ·have q:upd e'.G p0 (.lst vacc) b=some u:=q
    rw [upd_ne hb] at q; exact x'.gn b u q
  refine q _ H' _ (x0.trans x2) x2.gr st2 ((lo.ex x2).set i ⟨p0,vacc,rfl,.inl (.inl upd_same),?_⟩)
  exact RepL.mono (e:=e') (e':=⟨upd e'.G p0 (.lst vacc),e'.r⟩) mono (fun _ _ q=>q) _ _ racc
theorem xs_swap {o:Expr} {m:Str} {p1 p2:Pos} {env:Env} {l:Nat} {xs:List Expr} {ks:List Keyword}:swapsWith (.Call (.Attribute o m p1) xs ks p2) none l env=pure false:=by rfl
theorem snd_app (h:Hyp W X n C Wx) {i:Nat} {y:Str} {py apos cpos:Pos} (hy:X.N[i]?=some y) (hv:Vis X.env.scope y) (hd:(y == ("__debug__" : Str))=false) (hcd:(y == ("__classdict__" : Str))=false) (hl:(apos.endLine == cpos.line)=true) (hs:noStar b=true) (hb:PE X b (rE W C Wx H0 B)) :
  PS X (.Expr (.Call (.Attribute (.Name y py) "append" apos) [b] [] cpos) pos) (rS W C Wx e0 H0 (.app i B)):=by
 have hst:starEach [b] X.env=(false,eval b X.env)::starEach [] X.env:=star_no hs
 have hx:=ps_expr (pos:=pos) (pe_bm (cpos:=cpos) (apos:=apos) PySem.F.plainAttrs_list PySem.F.slot_list_append PySem.F.type_list_append (fun a b c d e f g h i=>mt_append (X:=X) a b c d e f g h i) (pe_var (pos:=py) hy hv hd hcd) (snd_cons (Wx:=Wx) (C:=C) (W:=W) (H0:=H0) hs hb snd_nil) (base_ok rfl) (by rw [hst]; rfl) hl hst (by rfl)) xs_swap
 refine ⟨fun pins s σ H D I ⟨e,μ,σd,x0,st,lo,q⟩=>hx.run pins s σ H D I ?_⟩
 have q:AftS W e0 H0 e (match σd[i]? with
  | some (some (.own xs))=>(evE C B σd μ).st σd fun d m=>if nbD d&&decide (xs.length < LINE) then .nx (σd.set i (some (.own (xs++[d])))) m else .stuck
  | some (some (.val (.obj a)))=>appO a (fun k=>(evE C B σd μ).st σd k) σd μ
  | _ => .stuck) D Wx:=q
 split at q
 ·rename_i xs hat
  obtain ⟨v,hv1,a,vs,rfl,k1,k2,k3⟩:=lo.at_ i _ hat
  refine ⟨_,hv1,.inl ⟨rfl,vs,.inl (.inl k1)⟩,e,μ,σd,st,lo,?_⟩
  have q2:=AftS.of_st x0 lo q
  show Aft W e H ((evE C B σd μ).bind fun x m=>(evEs C .nil σd m).bind fun ys m => .ok (x::ys) m) _ _
  cases hr:evE C B σd μ with
  | stuck=>rw [hr] at q2; exact q2.elim
  | exc c fs m=>rw [hr] at q2; exact q2
  | ok d m =>
   rw [hr] at q2
   intro e' H' x' st' ws hws
   obtain ⟨w,ws',rfl,hw,hn⟩:=hws
   cases (show ws'=[] from hn)
   have r:AftS W e0 H0 e' (if nbD d&&decide (xs.length < LINE) then .nx (σd.set i (some (.own (xs++[d])))) m else .stuck) D Wx:=q2 e' H' x' st'
   have lo':=lo.ex x'
   split at r
   ·rename_i hc
    rw [Bool.and_eq_true] at hc
    obtain ⟨v2,hv2,a2,vs2,e2,j1,j2,j3⟩:=lo'.at_ i _ hat
    rw [hv1] at hv2
    cases hv2
    cases e2
    have hlen:xs.length < 16777216:=of_decide_eq_true hc.2
    refine ⟨a,vs2,w,rfl,rfl,j1,by rw [sizeLine_eq,j2.length]; exact hlen,?_⟩
    have x1:=(x0.trans x').privUpd (.lst (vs2++[w])) j3.2.2
    exact r e' _ σ x1 (Gr.refl e') (st'.privUpd _ j3.1 j3.2.1) (lo'.turn hat rfl hv1 ⟨a,vs2++[w],rfl,upd_same,RepL.append j2 (.cons (RepH.of hc.1 hw) .nil),j3⟩)
   ·exact r.elim
 ·rename_i o hat
  obtain ⟨v,hv1,a,rfl,ka⟩:=lo.at_ i _ hat
  unfold appO at q
  cases hc:μ[o]? with
  | none=>rw [hc] at q; exact q.elim
  | some so =>
   rw [hc] at q
   cases so with
   | ins _ _=>exact q.elim
   | dct _=>exact q.elim
   | exn _ _=>exact q.elim
   | lst xs0 =>
    have q:AftS W e0 H0 e ((evE C B σd μ).st σd fun d m=>match pushO o d m with | some m' => .nx σd m' | none => .stuck) D Wx:=q
    obtain ⟨a',ha',vs,k1,k2⟩:=st.cell o _ hc
    rw [ka] at ha'; cases ha'
    refine ⟨_,hv1,.inl ⟨rfl,vs,.inl (.inl k1)⟩,e,μ,σd,st,lo,?_⟩
    have q2:=AftS.of_st x0 lo q
    show Aft W e H ((evE C B σd μ).bind fun x m=>(evEs C .nil σd m).bind fun ys m => .ok (x::ys) m) _ _
    cases hr:evE C B σd μ with
    | stuck=>rw [hr] at q2; exact q2.elim
    | exc c fs m=>rw [hr] at q2; exact q2
    | ok d m =>
     rw [hr] at q2
     intro e' H' x' st' ws hws
     obtain ⟨w,ws',rfl,hw,hn⟩:=hws
     cases (show ws'=[] from hn)
     have r:AftS W e0 H0 e' (match pushO o d m with | some m' => .nx σd m' | none => .stuck) D Wx:=q2 e' H' x' st'
     unfold pushO at r
     cases hm:m[o]? with
     | none=>rw [hm] at r; exact r.elim
     | some so =>
      rw [hm] at r
      cases so with
      | ins _ _=>exact r.elim
      | dct _=>exact r.elim
      | exn _ _=>exact r.elim
      | lst xs =>
       have r:AftS W e0 H0 e' (match (if nbD d&&decide (xs.length < LINE) then some (m.set o (.lst (xs++[d]))) else none:Option Mu) with | some m' => .nx σd m' | none => .stuck) D Wx:=r
       by_cases hcn:(nbD d&&decide (xs.length < LINE))=true
       ·rw [if_pos hcn] at r
        rw [Bool.and_eq_true] at hcn
        have hlen:xs.length < 16777216:=of_decide_eq_true hcn.2
        obtain ⟨a2,ha2,vs2,j1,j2⟩:=st'.cell o _ hm
        have ka':=x'.r _ _ ka
        rw [ka'] at ha2; cases ha2
        refine ⟨a,vs2,w,rfl,rfl,j1,by rw [sizeLine_eq,j2.length]; exact hlen,?_⟩
        obtain ⟨x1,st1⟩:=st'.changed (o:=.lst (vs2++[w])) (so:=.lst (xs++[d])) ka' fun e2 x2=>⟨_,upd_same,(RepL.append j2 (.cons (RepH.of hcn.1 hw) .nil)).ex x2⟩
        exact r e' _ σ (x0.trans (x'.trans x1)) (Gr.refl e') st1 ((lo.ex x').ex x1)
       ·rw [if_neg hcn] at r; exact r.elim
 ·exact q.elim
theorem cel_ok {σd:Sg} {i:Nat} {xs:List Ev.D} (x0:Ex e0 H0.h e H) (st:St0 W e μ H) (lo:Lo W e H0 σd σ H) (hat:σd[i]?=some (some (.own xs))) :
  ∃ e',Ex e0 H0.h e' H∧Gr e e'∧St0 W e' (μ++[.lst xs]) H∧Lo W e' H0 (σd.set i (some (.val (.obj μ.length)))) σ H:=by
 obtain ⟨v,hv1,a,vs,rfl,k1,k2,k3,k4,k5⟩:=lo.at_ i _ hat
 obtain ⟨x1,st2,hra⟩:=st.takenE x0 k5 k1 k2 k3 k4
 have mono:∀ i b,e.r i=some b→(if i=μ.length then some a else e.r i)=some b:=fun i b q=>by rw [if_neg (Nat.ne_of_lt (st.rn q))]; exact q
 have g:Gr e ⟨e.G,fun i=>if i=μ.length then some a else e.r i⟩:=⟨fun _ _ z=>z,mono⟩
 refine ⟨_,x1,g,st2,⟨by simp [lo.len],fun j l hj=>?_,fun j j' l l' w hjj g1 g2 q1 q2 g3=>?_⟩⟩
 ·by_cases hji:j=i
  ·subst hji
   by_cases hl:j < σd.length
   ·rw [List.getElem?_set_self hl] at hj; cases hj
    exact ⟨_,hv1,a,rfl,hra⟩
   ·rw [List.getElem?_eq_none (by simpa using hl)] at hj; cases hj
  ·rw [List.getElem?_set_ne (Ne.symm hji)] at hj
   obtain ⟨w,g1,g2⟩:=lo.at_ j l hj
   refine ⟨w,g1,?_⟩
   have ne:∀ {b:Addr},l.priv=true→w = .ref b→b≠a:=fun hp hw z=>lo.ne j i _ _ (.ref a) hji hj hat hp rfl (by rw [g1,hw,z]) hv1
   have pv:∀ {b:Addr},b≠a→PrivAt e H0 b→PrivAt ⟨e.G,fun i=>if i=μ.length then some a else e.r i⟩ H0 b:=fun hb ⟨p1,p2,p3⟩=>⟨p1,fun i z=>by
    have z:(if i=μ.length then some a else e.r i)=some _:=z
    by_cases hi:i=μ.length
    ·rw [if_pos hi] at z; cases z; exact hb rfl
    ·rw [if_neg hi] at z; exact p2 i z,p3⟩
   cases l with
   | val d=>exact RepV.mono (e:=e) (e':=⟨e.G,fun i=>if i=μ.length then some a else e.r i⟩) (fun _ _ q=>q) mono g2
   | own ys =>
    obtain ⟨b,us,rfl,m1,m2,m3⟩:=g2
    exact ⟨b,us,rfl,m1,RepL.mono (e:=e) (e':=⟨e.G,fun i=>if i=μ.length then some a else e.r i⟩) (fun _ _ q=>q) mono _ _ m2,pv (ne rfl rfl) m3⟩
   | self c fs =>
    obtain ⟨b,dx,gs,i2,⟨rfl,sb1,sb2⟩,m1,m2,m2x,m3,m4,m5⟩:=g2
    exact ⟨b,dx,gs,i2,⟨rfl,sb1,sb2⟩,m1,m2,m2x,⟨fun k d hk=>let ⟨z1,z2,z3,z4⟩:=m3.at_ k d hk; ⟨z1,z2,z3,Rep.mono (e:=e) (e':=⟨e.G,fun i=>if i=μ.length then some a else e.r i⟩) (fun _ _ q=>q) mono _ _ z4⟩,m3.no⟩,m4,pv (ne rfl rfl) m5⟩
   | exn _ _ =>
    obtain ⟨b,dx',gs',i2,rfl,hx0,m1,m2,m2x,m3,m4,m5⟩:=g2
    have hne:dx'≠a:=fun z=>by rw [z,k1] at m1; cases m1
    have m5':∀ j,(if j=μ.length then some a else e.r j)≠some dx':=fun j z=>by
     by_cases hj:j=μ.length
     ·rw [if_pos hj] at z; cases z; exact hne rfl
     ·rw [if_neg hj] at z; exact m5 j z
    exact ⟨b,dx',gs',i2,rfl,hx0,m1,m2,m2x,⟨fun k d hk=>let ⟨z1,z2,z3,z4⟩:=m3.at_ k d hk; ⟨z1,z2,z3,Rep.mono (e:=e) (e':=⟨e.G,fun i=>if i=μ.length then some a else e.r i⟩) (fun _ _ q=>q) mono _ _ z4⟩,m3.no⟩,m4,m5'⟩
 ·have back:∀ {j:Nat} {l:L},(σd.set i (some (.val (.obj μ.length))))[j]?=some (some l)→l.priv=true→σd[j]?=some (some l):=by
   intro j l hj hp
   by_cases hji:j=i
   ·subst hji
    by_cases hl:j < σd.length
    ·rw [List.getElem?_set_self hl] at hj; cases hj; cases hp
    ·rw [List.getElem?_eq_none (by simpa using hl)] at hj; cases hj
   ·rw [List.getElem?_set_ne (Ne.symm hji)] at hj; exact hj
  exact lo.ne j j' l l' w hjj (back g1 q1) (back g2 q2) q1 q2 g3
theorem snd_cel {i:Nat} {as:Ss} {xs:List Stmt} (hr:PSs X xs (rSs W C Wx e0 H0 as)):PSs X xs (rSs W C Wx e0 H0 (.cons (.cel i) as)):=by
 refine ⟨fun pins s σ H D I ⟨e,μ,σd,x0,st,lo,q⟩=>?_⟩
 have q:AftS W e0 H0 e ((match σd[i]? with
  | some (some (.own xs)) => .nx (σd.set i (some (.val (.obj μ.length)))) (μ++[.lst xs])
  | _ => .stuck:SR).seq fun σ' m=>exSs C as σ' m) D Wx:=q
 cases hat:σd[i]? with
 | none=>rw [hat] at q; exact q.elim
 | some o =>
  cases o with
  | none=>rw [hat] at q; exact q.elim
  | some l =>
   cases l with
   | own ys =>
    rw [hat] at q
    obtain ⟨e',x1,g,st',lo'⟩:=cel_ok x0 st lo hat
    exact hr.run pins s σ H D I ⟨e',_,_,x1,st',lo',AftS.later g q⟩
   | _=>rw [hat] at q; exact q.elim
theorem frz_ok {σd:Sg} {i:Nat} {xs:List Ev.D} (x0:Ex e0 H0.h e H) (st:St0 W e μ H) (lo:Lo W e H0 σd σ H) (hat:σd[i]?=some (some (.own xs))) :
  ∃ e',Ex e0 H0.h e' H∧Gr e e'∧St0 W e' μ H∧Lo W e' H0 (σd.set i (some (.val (.lst xs)))) σ H:=by
 obtain ⟨v,hv1,a,vs,rfl,k1,k2,k3,k4,k5⟩:=lo.at_ i _ hat
 have st2:=st.frozenAt (.lst vs) k3 k4
 have hup:upd H a (.lst vs)=H:=by
  funext b
  by_cases hb:b=a
  ·rw [hb,upd_same,k1]
  ·rw [upd_ne hb]
 rw [hup] at st2
 have mono:∀ b u,e.G b=some u→upd e.G a (.lst vs) b=some u:=fun b u q=>by rw [upd_ne (ne_of_none q k3)]; exact q
 have g:Gr e ⟨upd e.G a (.lst vs),e.r⟩:=⟨mono,fun _ _ z=>z⟩
 refine ⟨⟨upd e.G a (.lst vs),e.r⟩,⟨fun b u q=>mono b u (x0.g b u q),x0.r,fun b u q=>?_,x0.rn,x0.keep,x0.dom⟩,g,st2,⟨by simp [lo.len],fun j l hj=>?_,fun j j' l l' w hjj g1 g2 q1 q2 g3=>?_⟩⟩
 ·by_cases hb:b=a
  ·rw [hb]; exact .inr k5
  ·have q:upd e.G a (.lst vs) b=some u:=q
   rw [upd_ne hb] at q; exact x0.gn b u q
 ·by_cases hji:j=i
  ·subst hji
   by_cases hl:j < σd.length
   ·rw [List.getElem?_set_self hl] at hj; cases hj
    exact ⟨_,hv1,a,vs,rfl,.inl (.inl upd_same),RepL.mono (e:=e) (e':=⟨upd e.G a (.lst vs),e.r⟩) mono (fun _ _ q=>q) _ _ k2⟩
   ·rw [List.getElem?_eq_none (by simpa using hl)] at hj; cases hj
  ·rw [List.getElem?_set_ne (Ne.symm hji)] at hj
   obtain ⟨w,g1,g2⟩:=lo.at_ j l hj
   refine ⟨w,g1,?_⟩
   have ne:∀ {b:Addr},l.priv=true→w = .ref b→b≠a:=fun hp hw z=>lo.ne j i _ _ (.ref a) hji hj hat hp rfl (by rw [g1,hw,z]) hv1
   have pv:∀ {b:Addr},b≠a→PrivAt e H0 b→PrivAt ⟨upd e.G a (.lst vs),e.r⟩ H0 b:=fun hb ⟨p1,p2,p3⟩=>⟨by show upd e.G a (.lst vs) _=none; rw [upd_ne hb]; exact p1,p2,p3⟩
   cases l with
   | val d=>exact RepV.mono (e:=e) (e':=⟨upd e.G a (.lst vs),e.r⟩) mono (fun _ _ q=>q) g2
   | own ys =>
    obtain ⟨b,us,rfl,m1,m2,m3⟩:=g2
    exact ⟨b,us,rfl,m1,RepL.mono (e:=e) (e':=⟨upd e.G a (.lst vs),e.r⟩) mono (fun _ _ q=>q) _ _ m2,pv (ne rfl rfl) m3⟩
   | self c fs =>
    obtain ⟨b,dx,gs,i2,⟨rfl,sb1,sb2⟩,m1,m2,m2x,m3,m4,m5⟩:=g2
    exact ⟨b,dx,gs,i2,⟨rfl,sb1,sb2⟩,m1,m2,m2x,⟨fun k d hk=>let ⟨z1,z2,z3,z4⟩:=m3.at_ k d hk; ⟨z1,z2,z3,Rep.mono (e:=e) (e':=⟨upd e.G a (.lst vs),e.r⟩) mono (fun _ _ q=>q) _ _ z4⟩,m3.no⟩,m4,pv (ne rfl rfl) m5⟩
   | exn _ _ =>
    obtain ⟨b,dx',gs',i2,rfl,hx0,m1,m2,m2x,m3,m4,m5⟩:=g2
    have hne:dx'≠a:=fun z=>by rw [z,k1] at m1; cases m1
    exact ⟨b,dx',gs',i2,rfl,hx0,m1,m2,m2x,⟨fun k d hk=>let ⟨z1,z2,z3,z4⟩:=m3.at_ k d hk; ⟨z1,z2,z3,Rep.mono (e:=e) (e':=⟨upd e.G a (.lst vs),e.r⟩) mono (fun _ _ q=>q) _ _ z4⟩,m3.no⟩,by show upd e.G a (.lst vs) dx'=none; rw [upd_ne hne]; exact m4,m5⟩
 ·have back:∀ {j:Nat} {l:L},(σd.set i (some (.val (.lst xs))))[j]?=some (some l)→l.priv=true→σd[j]?=some (some l):=by
   intro j l hj hp
   by_cases hji:j=i
   ·subst hji
    by_cases hl:j < σd.length
    ·rw [List.getElem?_set_self hl] at hj; cases hj; cases hp
    ·rw [List.getElem?_eq_none (by simpa using hl)] at hj; cases hj
   ·rw [List.getElem?_set_ne (Ne.symm hji)] at hj; exact hj
  exact lo.ne j j' l l' w hjj (back g1 q1) (back g2 q2) q1 q2 g3
theorem snd_frz {i:Nat} {as:Ss} {xs:List Stmt} (hr:PSs X xs (rSs W C Wx e0 H0 as)):PSs X xs (rSs W C Wx e0 H0 (.cons (.frz i) as)):=by
 refine ⟨fun pins s σ H D I ⟨e,μ,σd,x0,st,lo,q⟩=>?_⟩
 have q:AftS W e0 H0 e ((match σd[i]? with
  | some (some (.own xs)) => .nx (σd.set i (some (.val (.lst xs)))) μ
  | some (some (.val _)) => .nx σd μ
  | _ => .stuck:SR).seq fun σ' m=>exSs C as σ' m) D Wx:=q
 cases hat:σd[i]? with
 | none=>rw [hat] at q; exact q.elim
 | some o =>
  cases o with
  | none=>rw [hat] at q; exact q.elim
  | some l =>
   cases l with
   | own ys =>
    rw [hat] at q
    obtain ⟨e',x1,g,st',lo'⟩:=frz_ok x0 st lo hat
    exact hr.run pins s σ H D I ⟨e',μ,_,x1,st',lo',AftS.later g q⟩
   | val d =>
    rw [hat] at q
    exact hr.run pins s σ H D I ⟨e,μ,_,x0,st,lo,q⟩
   | _=>rw [hat] at q; exact q.elim
end
end Ev
set_option maxRecDepth 100000
set_option maxHeartbeats 2000000
namespace EvW
open PySem PySem.Spec PyProof.Rows L2
abbrev HdL:=List (Value×Option Nat×(Addr→Value→Option Addr→TS))
def offN (v:Option Nat) (σ:L2.St):L2.St:=match v with
 | some i=>σ.set i none
 | none=>σ
inductive HdsX (X:Cx):List ExceptHandler→HdL→Prop
 | nil:HdsX X [] []
 | bare {x:Str} {c:Value} {ts:Addr→Value→Option Addr→TS} {b₀:Stmt} {suite:List Stmt} {np pos':Pos} {hds:List ExceptHandler} {l:HdL} (hc:Names X x c)
   (hsu:∀ (a:Addr) (oe:Obj) (cls:Value) (d:Option Addr) (pn:List (Addr×Obj)),L2N.Zn cls d oe→(∃ vs,oe.data = .fields vs)→PSs (X.suite a ((a,oe)::pn)) (b₀::suite) (ts a cls d)) (r:HdsX X hds l) :
   HdsX X (.ExceptHandler (some (.Name x np)) none (b₀::suite) pos'::hds) ((c,none,ts)::l)
 | named {x nm:Str} {c:Value} {i:Nat} {ts:Addr→Value→Option Addr→TS} {b₀:Stmt} {suite:List Stmt} {np pos':Pos} {hds:List ExceptHandler} {l:HdL} (hc:Names X x c) (hi:X.N[i]?=some nm) (hl:X.env.kindOf nm=some .local)
   (hsu:∀ (a:Addr) (oe:Obj) (cls:Value) (d:Option Addr) (pn:List (Addr×Obj)),L2N.Zn cls d oe→(∃ vs,oe.data = .fields vs)→PSs (X.suite a ((a,oe)::pn)) (b₀::suite) (ts a cls d)) (r:HdsX X hds l) :
   HdsX X (.ExceptHandler (some (.Name x np)) (some nm) (b₀::suite) pos'::hds) ((c,some i,ts)::l)
section
variable {X:Cx} {body:List Stmt} {h₀:ExceptHandler} {hds:List ExceptHandler} {l:HdL} {pos:Pos} {tb:WX→TS} {Wout:WX}
end
end EvW
set_option maxRecDepth 100000
set_option maxHeartbeats 2000000
namespace Ev
open PySem PySem.Spec PyProof.Rows L2
section
variable {W:Wd} {X:Cx} {n:Nat} {C:Cl} {Wx:WX} {e0:Em} {H0:En} {pins:List (Addr×Obj)} {σ:L2.St} {H H1:Hp} {s:Shared} {e e1:Em} {μ:Mu} {A:E} {pos p:Pos} {D:Ends}
structure Fl (X:Cx):Prop where
 fn:∀ x,X.fn x=true∨X.env.scope.names.lookup x≠some .cell
 stk:X.stack=X.env::X.outer
 frm:X.env.frame=some X.env.locals
theorem Hyp.inSuite (h:Hyp W X n C Wx) {a:Addr} {oe:Obj} {cls:Value} {d:Option Addr} {pn:List (Addr×Obj)} (hz:L2N.Zn cls d oe) (hf:∃ vs,oe.data = .fields vs):Hyp W (X.suite a ((a,oe)::pn)) n C.heat Wf:=by
 obtain ⟨vs,hv⟩:=hf
 refine ⟨h.prog,h.w,h.K,h.mg,h.base,h.T,h.txt,.inr ⟨rfl,(a,oe),⟨rfl,vs,hv,hz.2.2 vs hv⟩,List.mem_cons_self⟩,⟨h.room.dp,h.room.un⟩,h.guards,h.nd,h.top,?_,PassesOwn.never,h.hcall,h.hlow,h.hmake,h.hcall,h.hlow,h.hmake,h.hrlow,h.hrlow⟩
 rintro u s' ⟨_,_,_,_,_,_,_,_,_,_,_,_,_,_,_,_,z⟩
 exact z
def suT (W:Wd) (C:Cl) (e0:Em) (H0:En) (b:Ss):Addr→Value→Option Addr→TS:=fun a cls d D σ H=>∃ c dx,cls = .ref (W.ca c)∧d=some dx∧rSs W C.heat Wf e0 { H0 with x:=some (a,c,dx) } b D σ H
def clauses (W:Wd) (C:Cl) (e0:Em) (H0:En):Hs→EvW.HdL
 | .nil=>[]
 | .cons c v b hs=>(.ref (W.ca c),v,suT W C e0 H0 b)::clauses W C e0 H0 hs
theorem RepS.chg {H0':En} (hh:H0'.h=H0.h∧H0'.a=H0.a∧H0'.d=H0.d):∀ {l:L} {v:V},(∀ c fs,l ≠ .exn c fs)→RepS W e H0 H l v→RepS W e H0' H l v
 | .val _,_,_,r=>r
 | .own _,_,_,⟨a,vs,q,h1,r,p1,p2,p3⟩=>⟨a,vs,q,h1,r,p1,p2,by rw [hh.1]; exact p3⟩
 | .self _ _,_,_,⟨a,dx,gs,i,⟨q1,q2,q3⟩,h1,c,c2,f,z,p1,p2,p3⟩=>⟨a,dx,gs,i,⟨q1,by rw [hh.2.1]; exact q2,by rw [hh.2.2]; exact q3⟩,h1,c,c2,f,z,p1,p2,by rw [hh.1]; exact p3⟩
 | .exn c fs,_,ne,_=>absurd rfl (ne c fs)
theorem noX_some {o:Option L} {l:L} (h:noX o=some l):o=some l∧∀ c fs,l ≠ .exn c fs:=by
 cases o with
 | none=>cases h
 | some l'=>cases l' <;> first | cases h; exact ⟨rfl,fun _ _ z=>nomatch z⟩ | cases h
theorem offN_len (v:Option Nat):(EvW.offN v σ).length=σ.length:=by cases v <;> simp [EvW.offN]
theorem Lo.gone {H0':En} (hh:H0'.h=H0.h∧H0'.a=H0.a∧H0'.d=H0.d) {σd:Sg} (lo:Lo W e H0' σd σ H) (v:Option Nat):Lo W e H0 (gone v σd) (EvW.offN v σ) H:=by
 have key:∀ (j:Nat) (l:L),(Ev.gone v σd)[j]?=some (some l)→σd[j]?=some (some l)∧(EvW.offN v σ)[j]?=σ[j]?∧∀ c fs,l ≠ .exn c fs:=by
  intro j l hj
  unfold Ev.gone at hj
  rw [List.getElem?_map] at hj
  cases v with
  | none =>
   cases hq:σd[j]? with
   | none=>rw [hq] at hj; cases hj
   | some o =>
    rw [hq] at hj
    obtain ⟨z1,z2⟩:=noX_some (Option.some.inj hj)
    exact ⟨by rw [z1],rfl,z2⟩
  | some i =>
   by_cases hji:j=i
   ·subst hji
    by_cases hl:j < σd.length
    ·rw [List.getElem?_set_self hl] at hj; cases hj
    ·rw [List.getElem?_eq_none (by simpa using hl)] at hj; cases hj
   ·rw [List.getElem?_set_ne (Ne.symm hji)] at hj
    cases hq:σd[j]? with
    | none=>rw [hq] at hj; cases hj
    | some o =>
     rw [hq] at hj
     obtain ⟨z1,z2⟩:=noX_some (Option.some.inj hj)
     exact ⟨by rw [z1],by show (σ.set i none)[j]?=_; rw [List.getElem?_set_ne (Ne.symm hji)],z2⟩
 refine ⟨?_,fun j l hj=>?_,fun j j' l l' w hjj g1 g2 q1 q2 g3=>?_⟩
 ·rw [offN_len,lo.len]
  unfold Ev.gone
  cases v <;> simp
 ·obtain ⟨k1,k2,k3⟩:=key j l hj
  obtain ⟨w,h1,h2⟩:=lo.at_ j l k1
  exact ⟨w,by rw [k2]; exact h1,h2.chg (H0':=H0) ⟨hh.1.symm,hh.2.1.symm,hh.2.2.symm⟩ k3⟩
 ·obtain ⟨k1,k2,_⟩:=key j l g1
  obtain ⟨k4,k5,_⟩:=key j' l' g2
  rw [k2] at g3
  rw [k5]
  exact lo.ne j j' l l' w hjj k1 k4 q1 q2 g3
end
end Ev
set_option maxRecDepth 100000
set_option maxHeartbeats 2000000
namespace Ev
open PySem PySem.Spec PyProof.Rows L2
structure Calls (W:Wd) (n:Nat) (C:Cl):Prop where
 T:C.T=W.T
 call:FnPs W n C.hot C.rep C.call
 low:(∀ f ds μ,C.low f ds μ = .stuck)∨∃ k,k+1≤n∧FnPs W k C.hot C.rep C.low
 make:(∀ f ds μ,C.make f ds μ = .stuck)∨∃ k,k+1≤n∧InPs W k C.hot C.rep C.make
 hcall:FnPs W n true C.rep C.hcall
 hlow:(∀ f ds μ,C.hlow f ds μ = .stuck)∨∃ k,k+1≤n∧FnPs W k true C.rep C.hlow
 hmake:(∀ f ds μ,C.hmake f ds μ = .stuck)∨∃ k,k+1≤n∧InPs W k true C.rep C.hmake
 rlow:(∀ f ds μ,C.rlow f ds μ = .stuck)∨∃ k,k+3≤n∧FnPs W k C.hot false C.rlow
 hrlow:(∀ f ds μ,C.hrlow f ds μ = .stuck)∨∃ k,k+3≤n∧FnPs W k true false C.hrlow
def BodyOk (W:Wd) (i:FnI) (body:List Stmt) (scope:Scope):Prop:=∀ (X:Cx) (n:Nat) (C:Cl) (Wx:WX) (e0:Em) (H0:En),Hyp W X n C Wx→Pn W X C H0→X.N=i.names→X.env.scope=scope→Fl X→PSs X body (rSs W C Wx e0 H0 i.body)
section
variable {W:Wd} {n:Nat} {C:Cl}
theorem argsOf_self {i:FnI} {us:List D} (h:us.length=i.np):argsOf i us=some us:=by
 unfold argsOf
 rw [if_pos ⟨Nat.le_of_eq h,by omega⟩,h]
 rw [show i.np+i.dfl.length - i.np=i.dfl.length by omega,List.drop_length,List.append_nil]
theorem lo_start {e:Em} {H0:En} {H:Hp} {N:List Str} {ds:List D} {vs:List V} (r:RepVL W e ds vs):Lo W e H0 (pad N.length (ds.map fun d=>some (.val d))) (L2.start N vs) H:=by
 have hl:vs.length=ds.length:=r.length
 have at_:∀ (i:Nat) (l:L),(pad N.length (ds.map fun d=>some (.val d)))[i]?=some (some l)→∃ d,l = .val d∧ds[i]?=some d:=by
  intro i l h
  unfold pad at h
  by_cases hi:i < ds.length
  ·rw [List.getElem?_append_left (by simpa using hi)] at h
   rw [List.getElem?_map,List.getElem?_eq_getElem hi] at h
   cases h
   exact ⟨_,rfl,List.getElem?_eq_getElem hi⟩
  ·rw [List.getElem?_append_right (by simpa using hi)] at h
   rw [List.getElem?_replicate] at h
   split at h <;> cases h
 refine ⟨?_,fun i l h=>?_,fun i j l l' v _ h _ p _ _=>?_⟩
 ·unfold pad L2.start
  simp [hl]
 ·obtain ⟨d,rfl,hd⟩:=at_ i l h
  obtain ⟨v,hv,rv⟩:=r.get hd
  refine ⟨v,?_,rv⟩
  have hi:i < vs.length:=(List.getElem?_eq_some_iff.mp hv).1
  unfold L2.start
  rw [List.getElem?_append_left (by simpa using hi),List.getElem?_map,hv]; rfl
 ·obtain ⟨d,rfl,_⟩:=at_ i l h
  cases p
theorem hyp_body {qual:Str} {scope:Scope} {f:Addr} {cdv:Value} {A:Around} {outer:List Env} {s:Shared} {H:Hp} {E:XK} {N ps:List Str} (T:Txt W) (c:Calls W n C) (S:FnScope N ps scope) (hr:L2H.RoomH (n+34) (A.deeper (envOfC qual scope s.heap.objs.size f cdv))) (hgu:C.rep=true→A.guards=some []) {X:Cx}
  (hX:IsCx C.hot (L2N.CX W.P W.w) W.P W.w W.K W.mg W.base N qual scope f cdv A outer s H E X):Hyp W X n C (fun cls d _ H=>E cls d H)∧X.N=N∧X.env.scope=scope∧Fl X:=by
 rcases hX with rfl | ⟨hc,p,hot,rfl⟩
 ·exact ⟨⟨rfl,rfl,rfl,rfl,rfl,c.T,T,.inl rfl,hr,hgu,S.nd,⟨_,_,rfl,S.gen,S.co,rfl,rfl⟩,L2N.takes_of rfl rfl rfl rfl,passes_of rfl,c.call,c.low,c.make,c.hcall,c.hlow,c.hmake,c.rlow,c.hrlow⟩,rfl,rfl,⟨fun _ => .inl rfl,rfl,rfl⟩⟩
 ·exact ⟨⟨rfl,rfl,rfl,rfl,rfl,c.T,T,.inr ⟨hc,p,hot,List.mem_singleton.mpr rfl⟩,hr,hgu,S.nd,⟨_,_,rfl,S.gen,S.co,rfl,rfl⟩,L2N.takes_of rfl rfl rfl rfl,passes_of rfl,c.call,c.low,c.make,c.hcall,c.hlow,c.hmake,c.rlow,c.hrlow⟩,rfl,rfl,⟨fun _ => .inl rfl,rfl,rfl⟩⟩
theorem fnOk_fd {i:FnI} (hsup:i.sup=none) {body:List Stmt} {scope:Scope} {x qual:Str} {params:Arguments} {dvs:List V} {fd:FuncData} (T:Txt W) (c:Calls W n C) (sc:FnScope i.names (i.names.take i.np) scope) (np:(i.names.take i.np).length=i.np) (b:BodyOk W i body scope)
  (F:FunD W.K x qual params body scope dvs [] (fadr W.K W.T i.loc) fd):FnG C.hot C.rep W.P W.w W.K W.mg W.base (L2N.CX W.P W.w) (n+1+34) (fadr W.K W.T i.loc) fd (i.names.take i.np) (spF W i.np (runF C i)):=by
 refine fnG_of (k:=n+34) F sc (fun vs H Q E ⟨e,μ,ds,h1,_⟩=>by rw [h1,np]) fun cdv A outer s H vs Q E X hX hgu hr ⟨e,μ,ds,hl,st,rd,q⟩=>?_
 obtain ⟨hy,hy1,hy2,hy3⟩:=hyp_body T c sc hr hgu hX
 refine ⟨_,b _ n C _ e ⟨H,0,0,none⟩ hy ⟨fun _=>rfl,fun _ _ _ z=>nomatch z⟩ hy1 hy2 hy3,e,μ,pad i.names.length (ds.map fun d=>some (.val d)),Ex.refl e H,st,lo_start rd,?_⟩
 have hd:ds.length=i.np:=by rw [← rd.length]; exact hl
 unfold runF at q
 rw [argsOf_self hd] at q
 have q:Aft W e H (match exSs C i.body (pad i.names.length (ds.map fun d=>some (.val d))) μ with
  | .nx σ m=>endF C i σ m
  | .ret d _ m=>if i.sup.isNone then .ok d m else .stuck
  | .exc c fs _ m => .exc c fs m
  | _ => .stuck) (fun d m e' H'=>∀ v,Rep W e' d v→Q v H') E:=q
 cases hr:exSs C i.body (pad i.names.length (ds.map fun d=>some (.val d))) μ with
 | nx σ1 m1 =>
  rw [hr] at q
  have q:Aft W e H (endF C i σ1 m1) (fun d m e' H'=>∀ v,Rep W e' d v→Q v H') E:=q
  unfold endF at q
  rw [hsup] at q
  exact fun e' H' σ' x' _ st' _=>q e' H' x' st' .non rfl
 | ret d σ1 m1 =>
  rw [hr] at q
  have q:Aft W e H (if i.sup.isNone=true then .ok d m1 else .stuck) (fun d m e' H'=>∀ v,Rep W e' d v→Q v H') E:=q
  rw [hsup] at q
  exact fun e' H' v x' _ st' hv=>q e' H' x' st' v hv
 | exc c fs σ1 m1=>rw [hr] at q; exact fun e' H' σ' cls d x' _ st' _ z=>q e' H' cls d x' st' z
 | brk σ1 m1=>rw [hr] at q; exact q.elim
 | stuck=>rw [hr] at q; exact q.elim
theorem fnP_ok {i:FnI} (hsup:i.sup=none) {body:List Stmt} {scope:Scope} (T:Txt W) (c:Calls W n C) (t:FnT W i body scope) (b:BodyOk W i body scope):FnP W (n+1) C.hot C.rep i (runF C i):=by
 obtain ⟨x,qual,params,dvs,fd,F,bi⟩:=t.ex
 refine ⟨t.np,fun ds μ us h=>?_,fun ds μ h=>?_,fd,fnOk_fd hsup T c t.sc t.np b F,bi⟩
 ·unfold runF
  rw [h,argsOf_self (argsOf_full h).2.2.2]
 ·unfold runF; rw [h]
theorem flds_of {ks:List Nat} {fs:List (Nat×D)} {ds:List D} (h:fldsOf ks fs=some ds):ds.length=ks.length∧∀ (j k:Nat),ks[j]?=some k→∃ d,ds[j]?=some d∧fs.lookup k=some d:=by
 unfold fldsOf at h
 induction ks generalizing ds with
 | nil=>simp at h; subst h; exact ⟨rfl,fun j k hk=>by simp at hk⟩
 | cons k0 ks ih =>
  rw [List.mapM_cons] at h
  cases h1:fs.lookup k0 with
  | none=>rw [h1] at h; simp at h
  | some d0 =>
   rw [h1] at h
   cases h2:ks.mapM (fun k=>fs.lookup k) with
   | none=>rw [h2] at h; simp at h
   | some ds0 =>
    rw [h2] at h
    simp at h
    subst h
    obtain ⟨i1,i2⟩:=ih h2
    refine ⟨by simp [i1],fun j k hk=>?_⟩
    cases j with
    | zero=>simp at hk; subst hk; exact ⟨d0,rfl,h1⟩
    | succ j=>simp at hk; obtain ⟨d,a,b⟩:=i2 j k hk; exact ⟨d,by simpa using a,b⟩
theorem repL_of {W:Wd} {e:Em}:∀ {ds:List D} {vs:List V},vs.length=ds.length→(∀ (j:Nat) (d:D),ds[j]?=some d→∃ v,vs[j]?=some v∧Rep W e d v)→RepL W e ds vs
 | [],[],_,_=>rfl
 | d::ds,v::vs,hl,h=>by
  obtain ⟨v',h1,h2⟩:=h 0 d rfl
  cases h1
  exact .cons h2 (repL_of (by simpa using hl) fun j d' hd=>by simpa using h (j+1) d' (by simpa using hd))
 | [],_::_,hl,_=>by simp at hl
 | _::_,[],hl,_=>by simp at hl
theorem without_up {H:Hp} {a:Addr}:∀ b u,without_ H a b=some u→H b=some u:=fun b u h=>by
 unfold without_ at h
 split at h
 ·cases h
 ·exact h
theorem inP_ok {i:FnI} {c:Nat} {k:ClI} {body:List Stmt} {scope:Scope} (T:Txt W) (cc:Calls W n C) (hk:W.T.cls[c]?=some k) (hkx:k.isexc=false) (t:FnT W i body scope) (b:BodyOk W i body scope) (hnp:0 < i.np):InP W (n+1) C.hot C.rep c k i (runI C c k.flds i):=by
 obtain ⟨x,qual,params,dvs,fd,F,bi⟩:=t.ex
 have cf:=T.cls c k hk hkx
 refine ⟨t.np,fun ds μ us h=>?_,fun ds μ h=>?_,fd,?_,bi⟩
 ·unfold runI
  rw [h,argsOf_self (us:=.non::us) (argsOf_full h).2.2.2]
 ·unfold runI; rw [h]
 ·refine fnG_of (k:=n+34) F t.sc (fun vs H Q E ⟨e,μ,ds,a,dx,us,_,h1,_⟩=>by rw [h1,t.np]) fun cdv A outer s H vs Q E X hX hgu hr ⟨e,μ,ds,a,dx,us,hvs,hl,hH,hg,hrr,st,rd,q⟩=>?_
  subst hvs
  obtain ⟨hy,hy1,hy2,hy3⟩:=hyp_body T cc t.sc hr hgu hX
  have hd:(D.non::ds).length=i.np:=by rw [← hl]; simp [rd.length]
  unfold runI at q
  rw [argsOf_self hd] at q
  obtain ⟨xg,stg⟩:=st.grown (H1:=H) without_up
  refine ⟨_,b _ n C _ e ⟨without_ H a,a,dx,none⟩ hy ⟨fun _=>rfl,fun _ _ _ z=>nomatch z⟩ hy1 hy2 hy3,e,μ,pad i.names.length (some (.self c [])::ds.map fun d=>some (.val d)),xg,stg,?_,?_⟩
  ·-- the slots at the entry
   have lo1:=lo_start (W:=W) (e:=e) (H0:=⟨without_ H a,a,dx,none⟩) (H:=H) (N:=i.names) (ds:=.non::ds) (vs:=.non::us) (RepVL.to (.cons rfl rd))
   have hN:0 < (i.names.take i.np).length:=by rw [t.np]; exact hnp
   have e1:pad i.names.length (some (L.self c [])::ds.map fun d=>some (.val d))=(pad i.names.length ((D.non::ds).map fun d=>some (.val d))).set 0 (some (.self c [])):=by
    unfold pad; simp
   have e2:L2.start i.names (.ref a::us)=(L2.start i.names (.non::us)).set 0 (some (.ref a)):=by
    unfold L2.start; simp
   rw [e1,e2]
   refine ⟨by simp [lo1.len],fun j l h=>?_,fun j j' l l' w hjj h1 h2 p1 p2 h3=>?_⟩
   ·cases j with
    | zero =>
     have hlen:0 < (pad i.names.length ((D.non::ds).map fun d=>some (L.val d))).length:=by unfold pad; simp
     rw [List.getElem?_set_self hlen] at h; cases h
     refine ⟨.ref a,by rw [List.getElem?_set_self (by rw [lo1.len]; exact hlen)],a,dx,[],k,⟨rfl,rfl,rfl⟩,hH,hk,hkx,⟨fun _ _ z=>(nomatch z),fun _ _=>rfl⟩,Nat.zero_le _,hg,hrr,?_⟩
     show without_ H a a=none
     unfold without_; rw [if_pos rfl]
    | succ j =>
     rw [List.getElem?_set_ne (by omega)] at h ⊢
     exact lo1.at_ _ _ h
   ·have vl:∀ {j:Nat} {l:L},j≠0→((pad i.names.length ((D.non::ds).map fun d=>some (L.val d))).set 0 (some (.self c [])))[j]?=some (some l)→l.priv=true→False:=by
     intro j l hj h hp
     rw [List.getElem?_set_ne (Ne.symm hj)] at h
     unfold pad at h
     by_cases hi:j < ((D.non::ds).map fun d=>some (L.val d)).length
     ·rw [List.getElem?_append_left hi,List.getElem?_map] at h
      cases hq:(D.non::ds)[j]? with
      | none=>rw [hq] at h; cases h
      | some d=>rw [hq] at h; cases h; cases hp
     ·rw [List.getElem?_append_right (by omega),List.getElem?_replicate] at h
      split at h <;> cases h
    by_cases hj:j=0
    ·by_cases hj':j'=0
     ·omega
     ·exact (vl hj' h2 p2).elim
    ·exact (vl hj h1 p1).elim
  ·have q:AftI W e (without_ H a) c k.flds a dx (match exSs C i.body (pad i.names.length (some (.self c [])::ds.map fun d=>some (.val d))) μ with
    | .nx σ m=>selfOut c k.flds σ m
    | .exc c' fs σ m=>excOut c σ c' fs m
    | _ => .stuck) Q E:=q
   have back:∀ {e':Em} {H':Hp} {m1:Mu} {gs:List (Str×V)},Ex e (without_ H a) e' H'→St0 W e' m1 H'→e'.G a=none→(∀ j,e'.r j≠some a)→H' a=some (.ins (W.ca c) dx gs) →
     Ex e (without_ H a) e' (without_ H' a)∧St0 W e' m1 (without_ H' a)∧upd (without_ H' a) a (.ins (W.ca c) dx gs)=H':=by
    intro e' H' m1 gs x' st' p1 p2 hHa
    have wo:∀ b,b≠a→without_ H' a b=H' b:=fun b hb=>by unfold without_; rw [if_neg hb]
    have na:∀ b u,without_ H a b=some u→b≠a:=fun b u h z=>by
     rw [z] at h; unfold without_ at h; rw [if_pos rfl] at h; cases h
    refine ⟨⟨x'.g,x'.r,x'.gn,x'.rn,fun b u h hn=>by rw [wo b (na b u h)]; exact x'.keep b u h hn,fun b u h=>by rw [wo b (na b u h)]; exact x'.dom b u h⟩,⟨fun b u h=>by rw [wo b (ne_of_none h p1)]; exact st'.sub b u h,fun j u h=>?_,st'.out,st'.inj,st'.free⟩,?_⟩
    ·obtain ⟨b,hb,hz⟩:=st'.cell j u h
     have hne:b≠a:=fun z=>p2 j (by rw [← z]; exact hb)
     refine ⟨b,hb,?_⟩
     cases u with
     | lst xs=>obtain ⟨ws,h1,h2⟩:=hz; exact ⟨ws,by rw [wo b hne]; exact h1,h2⟩
     | ins c2 fs2=>obtain ⟨dx2,gs2,j2,h1,h2⟩:=hz; exact ⟨dx2,gs2,j2,by rw [wo b hne]; exact h1,h2⟩
     | dct kvs=>obtain ⟨ks,h1,h2⟩:=hz; exact ⟨ks,by rw [wo b hne]; exact h1,h2⟩
     | exn c2 fs2=>obtain ⟨dx2,gs2,j2,h1,h2⟩:=hz; exact ⟨dx2,gs2,j2,by rw [wo b hne]; exact h1,h2⟩
    ·funext b
     by_cases hb:b=a
     ·rw [hb,upd_same,hHa]
     ·rw [upd_ne hb,wo b hb]
   have self0:∀ {e':Em} {H':Hp} {σ':L2.St} {σ1:Sg} {c2:Nat} {fs:List (Nat×D)} {r:Sg},σ1=some (.self c2 fs)::r→c2=c→Lo W e' ⟨without_ H a,a,dx,none⟩ σ1 σ' H'→∃ gs,H' a=some (.ins (W.ca c) dx gs)∧FldsM W e' k.flds fs gs∧e'.G a=none∧∀ j,e'.r j≠some a:=by
    intro e' H' σ' σ1 c2 fs r hσ hc lo'
    subst hσ hc
    obtain ⟨v,_,a',dx',gs,i',⟨_,sa1,sa2⟩,h1,h2,h3,h4,_,p1,p2,_⟩:=lo'.at_ 0 _ rfl
    have sa1:a=a':=sa1
    have sa2:dx=dx':=sa2
    subst sa1 sa2
    rw [hk] at h2; cases h2
    exact ⟨gs,h1,h4,p1,p2⟩
   cases hr:exSs C i.body (pad i.names.length (some (.self c [])::ds.map fun d=>some (.val d))) μ with
   | nx σ1 m1 =>
    rw [hr] at q
    intro e' H' σ' x' _ st' lo'
    have q:AftI W e (without_ H a) c k.flds a dx (selfOut c k.flds σ1 m1) Q E:=q
    unfold selfOut at q
    split at q
    ·rename_i c2 fs r _
     split at q
     ·rename_i hc
      cases hf:fldsOf k.flds fs with
      | none=>rw [hf] at q; exact q.elim
      | some ds' =>
       rw [hf] at q
       obtain ⟨gs,h1,h4,p1,p2⟩:=self0 rfl hc lo'
       obtain ⟨y1,y2,y3⟩:=back x' st' p1 p2 h1
       obtain ⟨f1,f2⟩:=flds_of hf
       have at2:∀ (j kk:Nat),k.flds[j]?=some kk→∃ d v,ds'[j]?=some d∧gs.lookup (an W.T kk)=some v∧Rep W e' d v:=fun j kk hj=>by
        obtain ⟨d,a1,a2⟩:=f2 j kk hj
        obtain ⟨_,v,a3,a4⟩:=h4.at_ kk d a2
        exact ⟨d,v,a1,a3,a4⟩
       have hvs:∀ (j kk:Nat),k.flds[j]?=some kk→(k.flds.map fun kk=>(gs.lookup (an W.T kk)).getD .non)[j]?=some ((gs.lookup (an W.T kk)).getD .non):=fun j kk hj=>by rw [List.getElem?_map,hj]; rfl
       have z:=q e' (without_ H' a) gs (k.flds.map fun kk=>(gs.lookup (an W.T kk)).getD .non) ds' y1 y2 rfl ⟨by simp,fun j kk hj=>?_,fun n hn=>h4.no n fun kk hk' _=>hn kk hk'⟩ (repL_of (by simp [f1]) fun j d hd=>?_) p1 p2
       ·rw [y3] at z; exact z
       ·obtain ⟨d,v,_,a3,_⟩:=at2 j kk hj
        exact ⟨v,by rw [hvs j kk hj,a3]; rfl,a3⟩
       ·have hj:j < k.flds.length:=by rw [← f1]; exact (List.getElem?_eq_some_iff.mp hd).1
        obtain ⟨d',v,a1,a3,a4⟩:=at2 j _ (List.getElem?_eq_getElem hj)
        rw [hd] at a1; cases a1
        exact ⟨v,by rw [hvs j _ (List.getElem?_eq_getElem hj),a3]; rfl,a4⟩
     ·exact q.elim
    ·exact q.elim
   | exc c' fs1 σ1 m1 =>
    rw [hr] at q
    intro e' H' σ' cls d x' _ st' lo' z
    have q:AftI W e (without_ H a) c k.flds a dx (excOut c σ1 c' fs1 m1) Q E:=q
    unfold excOut at q
    split at q
    ·rename_i c2 fs r
     split at q
     ·rename_i hc
      obtain ⟨gs,h1,h4,p1,p2⟩:=self0 rfl hc lo'
      obtain ⟨y1,y2,y3⟩:=back x' st' p1 p2 h1
      obtain ⟨z1,dx',gs',i',z2,z3,z4⟩:=z
      have hne:dx'≠a:=fun w=>by rw [w,h1] at z3; cases z3
      have zz:=q e' (without_ H' a) gs cls d y1 y2 ⟨z1,dx',gs',i',z2,by unfold without_; rw [if_neg hne]; exact z3,z4⟩ p1 p2 (fun w=>hne (by rw [z2] at w; cases w; rfl))
      rw [y3] at zz
      exact zz
     ·exact q.elim
    ·exact q.elim
   | ret d σ1 m1=>rw [hr] at q; exact q.elim
   | brk σ1 m1=>rw [hr] at q; exact q.elim
   | stuck=>rw [hr] at q; exact q.elim
end
end Ev
set_option maxRecDepth 100000
set_option maxHeartbeats 2000000
namespace Ev
open PySem PySem.Spec PyProof.Rows L2 NdefX
structure SupD where
 name:Str
 qual:Str
 params:Arguments
 dV:Value
 kV:Value
 doc:Value
 pm:Value
 ct:Value
 oc:Value
 an:Option Addr
 od:Option Addr
 osl:Array (Option Value)
 cda:Addr
 cc:Addr
 p0:Pos
 p1:Pos
 apos:Pos
 cpos:Pos
 epos:Pos
 ccl:Value
 cl:Value
 cdd:Option Addr
 cld:Option Addr
 ccs:Array (Option Value)
 csl:Array (Option Value)
 vs:Array Value
 tf:Tok
 ar:Arg
 cdD:ClassData
 e0:Expr
 es:List Expr
 j:FnI
abbrev SupD.stm (d:SupD) (p:SupI):Stmt:=.Expr (.Call (.Attribute (.Call (.Name "super" d.p0) [] [] d.p1) p.m d.apos) (d.e0::d.es) [] d.cpos) d.epos
abbrev SupD.fd (d:SupD) (p:SupI) (pre:List Stmt) (scope:Scope):FuncData:=PySem.W.ksFn d.name d.qual d.params (pre++[d.stm p]) scope d.dV d.kV d.doc d.pm d.an (.ref d.cda) d.ct d.cc
structure SupT (W:Wd) (i:FnI) (p:SupI) (pre:List Stmt) (scope:Scope) (d:SupD):Prop where
 look:W.K.lookup (fadr W.K W.T i.loc)=some ⟨d.oc,d.od,.func (d.fd p pre scope),d.osl⟩
 code:PySem.W.codeIn W.K (.ref d.cda) d.qual=true
 codeO:W.K.lookup d.cda=some ⟨d.ccl,d.cdd,.fields d.vs,d.ccs⟩
 file:d.vs[2]?=some (.str W.T.file d.tf)
 cell:W.K.lookup d.cc=some ⟨d.cl,d.cld,.cell (some (.ref (W.ca p.cls))),d.csl⟩
 cls:PySem.W.clsIn W.K (W.ca p.cls)=some d.cdD
 sub:PySem.W.mroIn W.K (W.ca p.cls) (.ref (W.ca p.cls))=some true
 par:(d.params.posonlyargs++d.params.args).head?=some d.ar
 par0:i.names[0]?=some d.ar.arg
 bind:∀ (s:Shared) (us:List Value),us.length=i.np→BindsTo s (d.fd p pre scope) ⟨us,[]⟩ ((i.names.take i.np).zip us)
 kwb:KwB W.K (d.fd p pre scope) (i.names.take i.np)
 sc:NScope i.names (i.names.take i.np) ["__class__"] scope
 sup:scope.names.lookup ("super" : Str)=some .globalImplicit
 np:(i.names.take i.np).length=i.np
 np0:0 < i.np
 dfl:i.dfl=[]
 m:(p.m == ("__class__" : Str))=false
 fj:W.T.fns[p.fn]?=some d.j
 meth:PySem.W.ks_superIn W.K (W.ca p.cls) (W.ca p.cls) p.m=some (some (.ref (fadr W.K W.T d.j.loc)))
 fn:PySem.W.fnIn W.K (fadr W.K W.T d.j.loc)=true
 fty:PySem.W.typeIn W.K (.ref (fadr W.K W.T d.j.loc))=some (.type "function")
 line:(d.apos.endLine == d.cpos.line)=true
 stars:(d.e0::d.es).all noStar=true
 few:decide ((d.e0::d.es).length < 30)=true
def SupArgs (W:Wd) (i:FnI) (p:SupI) (scope:Scope) (es:List Expr):Prop:=∀ (X:Cx) (n:Nat) (C:Cl) (Wx:WX) (H0:En),Hyp W X n C Wx→Pn W X C H0→X.N=i.names→X.env.scope=scope→Fl X→PA X es (rA W C Wx H0 p.args)
section
variable {M:Model} {A:Around} {c:Code} {env:Env}
theorem at_app {rest:List Stmt} {Q:Flow→Shared→Prop} {E:Value→Shared→Prop}:∀ (pre:List Stmt) (Γ:PySem.Ctx) (p:Pos) (s:Shared),Γ.code=c→Γ.In A →
  Sem.wp M Γ (execs pre env) (fun f _ s'=>match f with | .next=>PySem.wpAt M A c (execs rest env) Q E s' | f=>Q f s') (fun e _ s'=>E e s') p s→Sem.wp M Γ (execs (pre++rest) env) (fun f _ s'=>Q f s') (fun e _ s'=>E e s') p s
 | [],Γ,p,s,hc,hΓ,h=>by
  have h:Sem.wp M Γ (pure .next:Sem Flow) (fun f _ s'=>match f with | .next=>PySem.wpAt M A c (execs rest env) Q E s' | f=>Q f s') (fun e _ s'=>E e s') p s:=h
  rw [Sem.wp_pure'] at h
  exact h Γ p hc hΓ
 | st::pre,Γ,p,s,hc,hΓ,h=>by
  rw [List.cons_append,execs_cons,Sem.wp_bind']
  rw [execs_cons,Sem.wp_bind'] at h
  refine Sem.wp_mono M Γ _ (fun f p' s' h'=>?_) (fun _ _ _ h'=>h') _ _ h
  cases f with
  | next=>exact at_app pre Γ p' s' hc hΓ h'
  | _=>rw [Sem.wp_pure'] at h' ⊢; exact h'
theorem at_of_app {pre rest:List Stmt} {Q:Flow→Shared→Prop} {E:Value→Shared→Prop} {s:Shared} (h:wpAny M A (execs pre env) (fun f s'=>match f with | .next=>PySem.wpAt M A c (execs rest env) Q E s' | f=>Q f s') E s):PySem.wpAt M A c (execs (pre++rest) env) Q E s:=
 fun Γ p hc hΓ=>at_app pre Γ p s hc hΓ (h Γ p hΓ)
end
section
variable {M:Model} {A:Around} {K:PySem.W.Frag} {env:Env} {pos:Pos} {first:List Value} {Q:Value→Shared→Prop} {E:Value→Shared→Prop} {s:Shared}
theorem callWith_MP {q g:Addr} {self:Value} {e:Expr} {rest:List Expr} (hf:PySem.W.fnIn K g=true) (h:wpAny M A (spliced (backTo pos (starEach (e::rest) env))) (fun vs s₁=>PySem.W.MethP K q g self s₁.heap∧wpAny M A (call (.ref q) (first++vs)) Q E s₁) E s)
  (he:starEach (e::rest) env=(false,eval e env)::starEach rest env) (hplain:(backTo pos (starEach rest env)).any (·.1)=false) :
  wpAny M A (callWith pos (.ref q) first (backTo pos (starEach (e::rest) env)) []) Q E s:=by
 rw [he] at h ⊢
 exact PySem.W.callWith_of (by show ((false || (backTo pos (starEach rest env)).any (·.1)) || false)=false; rw [hplain]; rfl) (PySem.W.keeps_M hf) (PySem.Calls.evalArgs_plain h)
end
section
variable {W:Wd} {X:Cx} {n:Nat} {C:Cl} {Wx:WX} {H0:En} {pins:List (Addr×Obj)} {σ:L2.St} {H:Hp} {s:Shared} {e:Em} {μ:Mu}
theorem sup_stm (h:Hyp W X n C Wx) (pn:Pn W X C H0) {i:FnI} {p:SupI} {pre body:List Stmt} {scope:Scope} {d:SupD} (t:SupT W i p pre scope d) (ba:SupArgs W i p scope (d.e0::d.es)) (hN:X.N=i.names) (hsc:X.env.scope=scope) (fl:Fl X)
  (hfu:X.env.func=some (fadr W.K W.T i.loc)) (hcd:X.env.code = .ref d.cda) (hcl:X.env.cells.lookup ("__class__" : Str)=some d.cc) {σd:Sg} {Fin:Hp→Prop} (I:Inv X pins σ H s) (st:St0 W e μ H) (lo:Lo W e H0 σd σ H)
  (q:Aft W e H (supRun C p σd μ) (fun dd m' e' H'=>dd=D.non→Fin H') (xkA Wx σ)):PySem.wpAt (model X.prog X.w) X.A (.func body X.env) (exec (d.stm p) X.env) (fun f s'=>f = .next∧∃ H',Inv X pins σ H' s'∧Fin H') X.xe s:=by
 unfold supRun at q
 split at q
 ·rename_i a0 hat
  split at q
  ·rename_i hcls
   obtain ⟨v0,hv0,⟨a,rfl,ha⟩⟩:=lo.at_ 0 _ hat
   obtain ⟨a',dx,gs,i',hva,hHa,hi',hx',_⟩:=inst_at st (show Rep W e (.obj a0) (.ref a) from ⟨a,rfl,ha⟩) hcls
   cases hva
   obtain ⟨mI,od,FF,KX,J⟩:=inst_rule I hHa
   have kin:=I.kIn
   have kE:∀ {b:Addr} {o:Obj},W.K.lookup b=some o→s.heap.get? b=some o:=fun {b o} z=>kin b o (by rw [h.K]; exact z)
   have hks:X.env.kindOf "super" = some .globalImplicit:=by show X.env.scope.names.lookup _=_; rw [hsc]; exact t.sup
   have hkc:X.env.kindOf "__class__" = some .free:=by show X.env.scope.names.lookup _=_; rw [hsc]; exact t.sc.frk _ (by simp)
   obtain ⟨oD,hD1,hD2⟩:∃ oD,s.heap.get? (W.ca p.cls)=some oD∧oD.data = .cls d.cdD:=by
    have z:=t.cls
    unfold PySem.W.clsIn at z
    split at z
    ·rename_i c1 d1 cd1 sl1 ho
     cases z
     exact ⟨_,kE ho,rfl⟩
    ·cases z
   have hx0:X.N[0]?=some d.ar.arg:=by rw [hN]; exact t.par0
   have hpar:d.ar.arg∈i.names.take i.np:=by
    have z:=t.par0
    have h0:0 < i.np:=t.np0
    rw [List.mem_iff_getElem?]
    exact ⟨0,by rw [List.getElem?_take]; rw [if_pos h0]; exact z⟩
   have hka:X.env.kindOf d.ar.arg=some .local:=by show X.env.scope.names.lookup _=_; rw [hsc]; exact t.sc.par _ hpar
   obtain ⟨mL,hns,hlook⟩:=I.loc
   obtain ⟨u0,ru0,hl0⟩:=hlook 0 d.ar.arg (.ref a) hx0 hv0 (.inl hka)
   cases ru0
   have hself:mL d.ar.arg=some (.ref a):=by
    rcases hl0 with ⟨_,z⟩ | ⟨z,_⟩
    ·exact z
    ·rw [hka] at z; rcases z with z | z <;> cases z
   obtain ⟨mb,hb1,hb2⟩:=I.mod.blt
   refine ks_wpAt_Expr_any (ks_wpAt_mono (ks_wpAt_MethodCall (Q:=fun _ s'=>∃ H',Inv X pins σ H' s'∧Fin H') ?_ (meth_eval2 t.line t.stars t.few)) (fun _ s' z=>⟨rfl,z⟩) fun _ _ z=>z) I.quiet (by rfl)
   refine ks_wpAt_super_base hks hkc t.m hfu (kE t.look) rfl t.par hcd (kE t.codeO) rfl t.file (by rw [h.prog,h.txt.file]; simp) (by rw [h.prog]; exact h.txt.nosup) ?_
   refine PySem.W.ks_loadName_global I.ok.kind hks (Calls.loadGlobal_builtin (by rw [I.ok.glob]; exact I.mod.glob.keeps I.bk) (by rw [h.mg]; exact h.txt.supg) (by rw [I.ok.blt]; exact hb1.keeps I.bk) ((hb2 _ (by decide)).trans (show bootBuiltins "super" = some (.type "super") by kernel_rfl)) ⟨rfl,?_⟩)
   refine wpAny_loadName_free I.ok.kind hkc hcl ⟨_,kE t.cell,rfl⟩ ?_
   refine wpAny_loadName_local I.ok.kind hka hns hself ?_
   obtain ⟨hp,gg,dd,tk,os⟩:=s
   refine ks_wpAny_isType_cls hD1 hD2 ⟨rfl,?_⟩
   refine ks_wpAny_call_super hD1 hD2 J.at_ J.cls (fun c z=>?_) (PySem.W.looks_mroIn kin (by rw [h.K]; exact t.sub)) fun h1 hso k1=>?_
   ·have:=J.no
    unfold PySem.W.notCls at this
    rw [z] at this
    exact Bool.noConfusion this
   have I1:Inv X pins σ H ⟨h1,gg,dd,tk,os⟩:=I.kept (t':=tk) k1
   obtain ⟨of,hof,hofc⟩:∃ of,h1.get? (fadr W.K W.T d.j.loc)=some of∧of.cls = .type "function":=by
    have ht:(W.K.lookup (fadr W.K W.T d.j.loc)).map (·.cls)=some (.type "function"):=t.fty
    cases z:W.K.lookup (fadr W.K W.T d.j.loc) with
    | none=>rw [z] at ht; cases ht
    | some of=>rw [z] at ht; exact ⟨of,k1 _ _ (kE z),Option.some.inj ht⟩
   have hne:a≠W.ca p.cls:=PySem.W.ks_ne kin J (by rw [h.K]; exact t.cls)
   have hm2:PySem.W.alongIn X.K p.m ((d.cdD.mro.dropWhile (· != .ref (W.ca p.cls))).drop 1)=some (some (.ref (fadr W.K W.T d.j.loc))):=by
    have z:=t.meth
    unfold PySem.W.ks_superIn at z
    rw [t.cls] at z
    rw [h.K]; exact z
   refine ks_wpAny_getMethod_super hso (PySem.W.looks_opaque I1.kIn (by rw [h.K]; exact h.txt.thirdp)) (l₀:=d.cdD.mro) (fun A Q E s' k' z=>wpAny_bind ((PySem.W.looks_clsIn I1.kIn (by rw [h.K]; exact t.cls)) A _ E s' k' (wpAny_pure z))) rfl I1.kIn hm2 hof hofc hne t.m ?_
   generalize hqa:h1.objs.size=qa
   have hfr:H qa=none:=by rw [← hqa]; exact I1.hok.fresh (Nat.le_refl _)
   have I2:Inv X pins σ (upd H qa (.met (fadr W.K W.T d.j.loc) a)) ⟨h1.push { cls:=.type "method",data:=.fields #[.ref (fadr W.K W.T d.j.loc),.ref a] },gg,dd,tk+1,os⟩:=
    I1.laid (t':=tk+1) (a:=qa) (o:=.met (fadr W.K W.T d.j.loc) a) (fun b o z=>Heap.get?_push_of_some _ z) (by rw [← hqa]; exact Nat.le_refl _) (by rw [← hqa]; exact Heap.get?_push_size _ rfl)
   obtain ⟨xg,sg⟩:=st.grown (H1:=upd H qa (.met (fadr W.K W.T d.j.loc) a)) (fun b u z=>by rw [upd_ne (ne_of_none z hfr)]; exact z)
   have noG:∀ j,e.r j≠some qa:=fun j z=>by obtain ⟨o9,h9⟩:=st.rH z; rw [hfr] at h9; cases h9
   have pa:=ba X n C Wx H0 h pn hN hsc fl
   have t0:noStar d.e0=true∧d.es.all noStar=true:=by have z:=t.stars; rw [List.all_cons,Bool.and_eq_true] at z; exact z
   have q1:Aft W e (upd H qa (.met (fadr W.K W.T d.j.loc) a)) (evEs C p.args σd μ) (fun us m e1 H1=>Aft W e1 H1 (if us.all nbD=true then (C.call p.fn (.obj a0::us) m).bind fun _ m=>Res.ok D.non m else Res.stuck) (fun dd m' e' H'=>dd=D.non→Fin H') (xkA Wx σ)) (xkA Wx σ):=by
    have z:=Aft.bind q
    revert z
    cases evEs C p.args σd μ with
    | ok us m=>exact fun z e' H' x' st'=>z e' H' (xg.trans x') st'
    | exc c fs m=>exact fun z e' H' cls dd x' st' y=>z e' H' cls dd (xg.trans x') st' y
    | stuck=>exact fun z=>z
   refine callWith_MP (K:=X.K) (g:=fadr W.K W.T d.j.loc) (self:=.ref a) (by rw [h.K]; exact t.fn) (thn (pa.run d.cpos pins _ σ _ (fun vs H'=>∃ ds m e',Ex e (upd H qa (.met (fadr W.K W.T d.j.loc) a)) e' H'∧St0 W e' m H'∧RepHL W e' H' ds vs∧Aft W e' H' (if ds.all nbD=true then (C.call p.fn (.obj a0::ds) m).bind fun _ m=>Res.ok D.non m else Res.stuck) (fun dd m' e' H'=>dd=D.non→Fin H') (xkA Wx σ)) I2 (rA.at sg (lo.ex xg) q1 fun ds m e' H' vs x st' _ r hv=>⟨ds,m,e',x,st',hv,r⟩)) fun us s2 ⟨vs,H2,I3,rv,ds,m2,e2,x2,st2,hds,r2⟩=>?_) (star_no t0.1) (any_no t0.2)
   have hq2:H2 qa=some (.met (fadr W.K W.T d.j.loc) a):=x2.keep qa _ upd_same noG
   have hob:s2.heap.get? qa=some (PySem.W.methodObj (.ref (fadr W.K W.T d.j.loc)) (.ref a)):=I3.hok qa _ hq2
   refine ⟨⟨hob,I3.kIn⟩,?_⟩
   split at r2
   ·rename_i hnb
    have rds:=RepHL.of hnb hds
    rcases h.call p.fn (.obj a0::ds) m2 with hs | ⟨j2,hj2,hok2,fp⟩
    ·rw [hs] at r2; exact r2.elim
    ·rw [t.fj] at hj2
     cases hj2
     have roA:Rep W e2 (.obj a0) (.ref a):=(show Rep W e (.obj a0) (.ref a) from ⟨a,rfl,ha⟩).ex (xg.trans x2)
     have run:=run_fnC h (A:=X.A) h.room rfl rfl rfl fp I3 (us:=Value.ref a::us) (vs:=V.ref a::vs) (Q:=fun _ H'=>Fin H') (.cons rfl rv) st2 (.cons roA rds) ((Aft.bind r2).imp fun dd m' e' H' x' st' z v _=>Aft.now z st' rfl)
     refine wpAny_call (ks_codeAny_call_bound (a:=⟨us,[]⟩) hob (codeAny_mono run fun r s' z=>?_))
     cases r with
     | error x=>exact z
     | ok f2 =>
      cases f2 with
      | ret v =>
       obtain ⟨v',H',I',_,z⟩:=z
       exact ⟨H',I',z⟩
      | next=>exact z
      | brk=>exact z
      | cont=>exact z
   ·exact r2.elim
  ·exact q.elim
 ·exact q.elim
end
end Ev
set_option maxRecDepth 100000
set_option maxHeartbeats 2000000
namespace Ev
open PySem PySem.Spec PyProof.Rows L2 NdefX
section
variable {M:Model} {A:Around} {c:Code} {env:Env}
theorem at_one {st:Stmt} {Q:Flow→Shared→Prop} {E:Value→Shared→Prop} {s:Shared} (h:PySem.wpAt M A c (exec st env) Q E s) (hn:∀ s',Q .next s'→Q .next s'):PySem.wpAt M A c (execs [st] env) Q E s:=fun Γ p hc hΓ=>by
 rw [execs_cons,Sem.wp_bind']
 refine Sem.wp_mono M Γ _ (fun f p' s' h'=>?_) (fun _ _ _ h'=>h') _ _ (h Γ p hc hΓ)
 cases f with
 | next =>
  show Sem.wp M Γ (pure .next:Sem Flow) _ _ p' s'
  rw [Sem.wp_pure']; exact h'
 | _=>rw [Sem.wp_pure']; exact h'
end
section
variable {W:Wd} {n:Nat} {C:Cl}
abbrev supNF (d:SupD) (p:SupI) (pre:List Stmt) (scope:Scope):NF:=⟨d.name,d.qual,d.params,pre++[d.stm p],scope,[("__class__",d.cc)],d.cda⟩
theorem start_eq {N:List Str} {vs:List V} (h:vs.length < N.length):startF N vs [none]=L2.start N vs:=by
 unfold startF L2.start
 have e:N.length - vs.length=N.length - vs.length - 1+1:=by omega
 rw [e,List.replicate_succ]
 simp
theorem fnG_sup {i:FnI} {p:SupI} {pre:List Stmt} {scope:Scope} {d:SupD} (hsup:i.sup=some p) (T:Txt W) (c:Calls W n C) (t:SupT W i p pre scope d) (b:BodyOk W i pre scope) (ba:SupArgs W i p scope (d.e0::d.es)) :
  FnG C.hot C.rep W.P W.w W.K W.mg W.base (L2N.CX W.P W.w) (n+1+34) (fadr W.K W.T i.loc) (d.fd p pre scope) (i.names.take i.np) (spF W i.np (runF C i)):=by
 refine ⟨fun vs H Q E ⟨e,μ,ds,h1,_⟩=>by rw [h1,t.np],?_⟩
 intro A outer s H args us vs Q E hgu room lull env bnd rel ⟨e,μ,ds,hl,st,rd,q⟩
 have grown:∀ b o,W.base.get? b=some o→s.heap.get? b=some o:=fun b o z=>(env.bs b o z).1
 have kin:=env.mod.kin.keeps grown
 have S:=t.sc
 have hlp:vs.length=(i.names.take i.np).length:=by rw [hl,t.np]
 have hlen:vs.length < i.names.length:=by
  have z:=congrArg List.length S.pre
  rw [List.length_take,List.length_append,List.length_singleton] at z
  omega
 refine ks_codeAny_call_defAt (fd:=d.fd p pre scope) (body:=pre++[d.stm p]) room.depth (kin _ _ t.look) rfl (env.mod.nolimit.keeps grown) (PySem.W.codeRec_of kin t.code) rfl bnd S.nocell (fun x hx=>S.par x.1 (List.of_mem_zip hx).1) (fun h₁ hns kp=>?_) S.co S.gen S.kind
 have cells:CellsAt (supNF d p pre scope).cl ["__class__"] [none] s.heap H:=by
  obtain ⟨zc1,zc2⟩:=env.bs _ _ (env.mod.kin _ _ t.cell)
  have one:∀ (y:Str) (c:Addr),List.lookup y [(("__class__" : Str),d.cc)]=some c→y = "__class__" ∧ c=d.cc:=by
   intro y c hy
   have z:=PySem.mem_of_lookup hy
   simp at z
   exact z
  refine ⟨rfl,fun y c hy=>?_,fun x y c h1 h2=>by rw [(one _ _ h1).1,(one _ _ h2).1],fun i y hy=>?_⟩
  ·rw [(one _ _ hy).2]; exact ⟨zc2,_,_,zc1,rfl⟩
  ·cases i with
   | zero=>cases hy; exact ⟨d.cc,rfl,fun v hv=>by cases hv⟩
   | succ i=>cases hy
 have main:∀ (X:Cx),X.prog=W.P→X.w=W.w→X.N=i.names→X.env=envF (supNF d p pre scope) (fadr W.K W.T i.loc) s.heap.objs.size→X.A=A.deeper X.env→X.s_0=s→X.H_0=H→X.outer=outer→X.ex=[]→X.stack=X.env::outer→Fl X→Hyp W X n C (fun cls d _ H=>E cls d H) →
   Inv X [] (L2.start i.names vs) H { s with heap:=h₁,toks:=s.toks+((i.names.take i.np).zip us).length } →
   X.xe=(fun e s'=>wpAny (model W.P W.w) (A.deeper X.env) (leaving X.env e) (fun _ s''=>L2N.CX W.P W.w outer H s E e s'') (fun e' s''=>L2N.CX W.P W.w outer H s E e' s'') s') →
   PySem.wpAt (model W.P W.w) (A.deeper X.env) (.func (pre++[d.stm p]) X.env) (execs (pre++[d.stm p]) X.env) (fun f s'=>CR (L2N.CX W.P W.w) outer W.P W.w H s Q E (.ok (.ret (match f with | .ret v=>v | _ => .none))) s')
    (fun e s'=>wpAny (model W.P W.w) (A.deeper X.env) (leaving X.env e) (fun _ s''=>CR (L2N.CX W.P W.w) outer W.P W.w H s Q E (.error e) s'') (fun e' s''=>CR (L2N.CX W.P W.w) outer W.P W.w H s Q E (.error e') s'') s') { s with heap:=h₁,toks:=s.toks+((i.names.take i.np).zip us).length }:=by
  intro X hP hw hN hE hA hs0 hH0 hou hex hst fl hy I hxe
  have pn:Pn W X C ⟨H,0,0,none⟩:=⟨fun _=>rfl,fun _ _ _ z=>nomatch z⟩
  have hsc:X.env.scope=scope:=by rw [hE]
  have body:=b X n C _ e ⟨H,0,0,none⟩ hy pn hN hsc fl
  have hfu:X.env.func=some (fadr W.K W.T i.loc):=by rw [hE]
  have hcd:X.env.code = .ref d.cda:=by rw [hE]
  have hcl:X.env.cells.lookup ("__class__" : Str)=some d.cc:=by rw [hE]; rfl
  rw [← hP,← hw] at hxe ⊢
  rw [← hA] at hxe ⊢
  refine ks_wpAt_mono (at_of_app (Q:=fun f s'=>f = .next∧∃ σ' H',Inv X [] σ' H' s'∧Q .non H') (E:=X.xe) ?_) (fun f s' z=>?_) fun e' s' z=>by rw [hxe] at z; exact z
  ·refine wpAny_mono (body.run [] _ (L2.start i.names vs) H { nx:=fun σ' H'=>∃ e' σd' m',St0 W e' m' H'∧Lo W e' ⟨H,0,0,none⟩ σd' σ' H'∧Aft W e' H' (supRun C p σd' m') (fun dd m'' e'' H''=>dd=D.non→Q .non H'') (fun cls d H=>E cls d H),rt:=fun _ _=>False } I ?_) ?_ fun _ _ z=>z
   ·refine ⟨e,μ,pad i.names.length (ds.map fun d=>some (.val d)),Ex.refl e H,st,lo_start rd,?_⟩
    have hd:ds.length=i.np:=by rw [← rd.length]; exact hl
    unfold runF at q
    rw [argsOf_self hd] at q
    have q:Aft W e H (match exSs C i.body (pad i.names.length (ds.map fun d=>some (.val d))) μ with
     | .nx σ m=>endF C i σ m
     | .ret d _ m=>if i.sup.isNone then .ok d m else .stuck
     | .exc c fs _ m => .exc c fs m
     | _ => .stuck) (fun d m e' H'=>∀ v,Rep W e' d v→Q v H') E:=q
    cases hr:exSs C i.body (pad i.names.length (ds.map fun d=>some (.val d))) μ with
    | nx σ1 m1 =>
     rw [hr] at q
     have q:Aft W e H (endF C i σ1 m1) (fun d m e' H'=>∀ v,Rep W e' d v→Q v H') E:=q
     unfold endF at q
     rw [hsup] at q
     exact fun e' H' σ' x' _ st' lo'=>⟨e',σ1,m1,st',lo',(Aft.later x' q).imp fun dd m'' e'' H'' _ _ z hdd=>z .non (by rw [hdd]; rfl)⟩
    | ret d σ1 m1 =>
     rw [hr] at q
     have q:Aft W e H (if i.sup.isNone=true then .ok d m1 else .stuck) (fun d m e' H'=>∀ v,Rep W e' d v→Q v H') E:=q
     rw [hsup] at q
     exact q.elim
    | exc c fs σ1 m1=>rw [hr] at q; exact fun e' H' σ' cls d x' _ st' _ z=>q e' H' cls d x' st' z
    | brk σ1 m1=>rw [hr] at q; exact q.elim
    | stuck=>rw [hr] at q; exact q.elim
   ·intro f s' z
    cases f with
    | next =>
     obtain ⟨σ',H',I',e',σd',m',st',lo',q'⟩:=z
     refine at_one (ks_wpAt_mono (sup_stm (Fin:=fun H'=>Q .non H') hy pn t ba hN hsc fl hfu hcd hcl I' st' lo' q') (fun f s' z=>?_) fun _ _ z=>z) fun _ z=>z
     obtain ⟨z1,H2,I2,z2⟩:=z
     exact ⟨z1,σ',H2,I2,z2⟩
    | ret u=>obtain ⟨_,_,_,_,_,z⟩:=z; exact z.elim
    | brk=>obtain ⟨_,_,_,z⟩:=z; exact z.elim
    | cont=>obtain ⟨_,_,_,z⟩:=z; exact z.elim
  ·obtain ⟨rfl,σ',H',I',z⟩:=z
   show CE outer X.prog X.w H s Q .none s'
   have b9:=I'.base
   rw [hs0,hH0,hex,show X.fs=frs outer by rw [← hou]] at b9
   exact ⟨.non,H',by rw [I'.os,hs0],I'.bare,b9,I'.hok,rfl,z⟩
 rcases lull with hd | ⟨hc,p0,hot,pin⟩
 ·have I:=inv_startN (CX:=L2N.CX W.P W.w) (P:=W.P) (w:=W.w) (K:=W.K) (mg:=W.mg) (base:=W.base) (F:=supNF d p pre scope) (f:=fadr W.K W.T i.loc) (E:=E) (tk:=s.toks+((i.names.take i.np).zip us).length) S hd env hlp rel cells hns kp
  rw [start_eq hlen] at I
  exact main _ rfl rfl rfl rfl rfl rfl rfl rfl rfl rfl ⟨fun x => .inr (fun z=>absurd rfl (S.nocell _ (PySem.mem_of_lookup z))),rfl,rfl⟩ ⟨rfl,rfl,rfl,rfl,rfl,c.T,T,.inl rfl,room.deeper _,hgu,S.nd,⟨_,_,rfl,S.gen,S.co,rfl,rfl⟩,L2N.takes_of rfl rfl rfl rfl,passes_of rfl,c.call,c.low,c.make,c.hcall,c.hlow,c.hmake,c.rlow,c.hrlow⟩ I rfl
 ·have I:=inv_startNH (CX:=L2N.CX W.P W.w) (P:=W.P) (w:=W.w) (K:=W.K) (mg:=W.mg) (base:=W.base) (F:=supNF d p pre scope) (f:=fadr W.K W.T i.loc) (E:=E) (tk:=s.toks+((i.names.take i.np).zip us).length) S pin env hlp rel cells hns kp
  rw [start_eq hlen] at I
  exact main _ rfl rfl rfl rfl rfl rfl rfl rfl rfl rfl ⟨fun x => .inr (fun z=>absurd rfl (S.nocell _ (PySem.mem_of_lookup z))),rfl,rfl⟩ ⟨rfl,rfl,rfl,rfl,rfl,c.T,T,.inr ⟨hc,p0,hot,List.mem_singleton.mpr rfl⟩,room.deeper _,hgu,S.nd,⟨_,_,rfl,S.gen,S.co,rfl,rfl⟩,L2N.takes_of rfl rfl rfl rfl,passes_of rfl,c.call,c.low,c.make,c.hcall,c.hlow,c.hmake,c.rlow,c.hrlow⟩ I rfl
theorem fnP_sup {i:FnI} {p:SupI} {pre:List Stmt} {scope:Scope} {d:SupD} (hsup:i.sup=some p) (T:Txt W) (c:Calls W n C) (t:SupT W i p pre scope d) (b:BodyOk W i pre scope) (ba:SupArgs W i p scope (d.e0::d.es)):FnP W (n+1) C.hot C.rep i (runF C i):=by
 refine ⟨t.np,fun ds μ us h=>?_,fun ds μ h=>?_,_,fnG_sup hsup T c t b ba,fun k hk=>⟨[],[],.nil,fun e=>?_,?_⟩,t.kwb⟩
 ·unfold runF
  rw [h,argsOf_self (argsOf_full h).2.2.2]
 ·unfold runF; rw [h]
 ·rw [t.dfl]; simp; rfl
 ·intro s us _ hl
  rw [List.append_nil] at hl ⊢
  exact t.bind s us (by rw [hl,t.np])
end
end Ev
set_option maxRecDepth 100000
set_option maxHeartbeats 2000000
namespace Ev
open PySem PySem.Spec PyProof.Rows L2
structure Defs (W:Wd):Prop where
 ok:∀ (f:Nat) (i:FnI),W.T.fns[f]?=some i→i.ok=true→∃ body scope,(i.sup=none∧FnT W i body scope∧BodyOk W i body scope)∨∃ p d,i.sup=some p∧SupT W i p body scope d∧BodyOk W i body scope∧SupArgs W i p scope (d.e0::d.es)
 init:∀ (c:Nat) (k:ClI) (i:FnI),W.T.cls[c]?=some k→k.isval=true→W.T.fns[k.init]?=some i→0 < i.np∧i.sup=none
section
variable {W:Wd} {n:Nat} {C:Cl}
theorem fnP_def (T:Txt W) (F:Defs W) (c:Calls W n C) {f:Nat} {i:FnI} (hf:W.T.fns[f]?=some i) (ho:i.ok=true):FnP W (n+1) C.hot C.rep i (runF C i):=by
 obtain ⟨body,scope,⟨hs,t,b⟩ | ⟨p,d,hs,t,b,ba⟩⟩:=F.ok f i hf ho
 ·exact fnP_ok hs T c t b
 ·exact fnP_sup hs T c t b ba
theorem fnPs_callT (T:Txt W) (F:Defs W) (c:Calls W n C):FnPs W (n+1) C.hot C.rep (callT W.T C):=by
 intro f ds μ
 cases hf:W.T.fns[f]? with
 | none=>left; unfold callT; rw [hf]
 | some i =>
  cases ho:i.ok with
  | false=>left; unfold callT; rw [hf]; show (if i.ok=true then _ else _)=_; rw [ho]; rfl
  | true =>
   right
   refine ⟨i,rfl,ho,?_⟩
   have e:callT W.T C f=runF C i:=by
    funext vs μ
    unfold callT
    rw [hf]
    show (if i.ok=true then _ else _)=_
    rw [if_pos ho]
   rw [e]
   exact fnP_def T F c hf ho
theorem inPs_makeT (T:Txt W) (F:Defs W) (c:Calls W n C):InPs W (n+1) C.hot C.rep (makeT W.T C):=by
 intro k ds μ
 cases hk:W.T.cls[k]? with
 | none=>left; unfold makeT; rw [hk]
 | some kl =>
  cases hf:W.T.fns[kl.init]? with
  | none=>left; simp only [makeT,hk,hf]
  | some i =>
   have e0:∀ vs μ,makeT W.T C k vs μ=if (i.ok&&!kl.isexc)=true then (if kl.isval=true then runI C k kl.flds i vs μ else (runF C i (.obj μ.length::vs) (μ++[.ins k []])).bind fun r m=>(match r with
    | .non => .ok (.obj μ.length) m
    | _ => .stuck)) else .stuck:=by
    intro vs μ
    simp only [makeT,hk,hf]
    try rfl
   by_cases hz:(i.ok&&!kl.isexc)=true
   ·right
    have hz':=hz
    rw [Bool.and_eq_true] at hz'
    have hx:kl.isexc=false:=by simpa using hz'.2
    refine ⟨kl,i,rfl,hx,hf,hz'.1,?_⟩
    cases hv:kl.isval with
    | true =>
     left
     have e:makeT W.T C k=runI C k kl.flds i:=by
      funext vs μ
      rw [e0,if_pos hz,if_pos hv]
     rw [e]
     obtain ⟨i1,i2⟩:=F.init k kl i hk hv hf
     obtain ⟨body,scope,⟨_,t,b⟩ | ⟨p,d,hs,_⟩⟩:=F.ok kl.init i hf hz'.1
     ·exact ⟨rfl,inP_ok T c hk hx t b i1⟩
     ·rw [i2] at hs; cases hs
    | false =>
     right
     refine ⟨rfl,runF C i,fnP_def T F c hf hz'.1,fun vs μ=>?_⟩
     rw [e0,if_pos hz,if_neg (by rw [hv]; simp)]
     try rfl
   ·left
    rw [e0,if_neg hz]
theorem callsM_ok (T:Txt W) (F:Defs W) (n:Nat):∀ h r,Calls W n (levM W.T h r n):=by
 induction n using Nat.strongRecOn with
 | ind n ih =>
  intro h r
  have low:∀ (h r:Bool),((∀ f ds μ,(levM W.T h r n).low f ds μ = .stuck)∨∃ k,k+1≤n∧FnPs W k h r (levM W.T h r n).low)∧((∀ f ds μ,(levM W.T h r n).make f ds μ = .stuck)∨∃ k,k+1≤n∧InPs W k h r (levM W.T h r n).make):=by
   intro h r
   match n,ih with
   | 0,_=>exact ⟨.inl fun _ _ _=>rfl,.inl fun _ _ _=>rfl⟩
   | 1,_=>exact ⟨.inl fun _ _ _=>rfl,.inl fun _ _ _=>rfl⟩
   | n+2,ih =>
    have c:=ih n (by omega) h r
    exact ⟨.inr ⟨n+1,by omega,fnPs_callT T F c⟩,.inr ⟨n+1,by omega,inPs_makeT T F c⟩⟩
  have call:∀ (h r:Bool),FnPs W n h r (levM W.T h r n).call:=by
   intro h r
   match n,ih with
   | 0,_=>exact fun f ds μ => .inl rfl
   | n+1,ih=>exact fnPs_callT T F (ih n (by omega) h r)
  have rlow:∀ (h r:Bool),(∀ f ds μ,(levM W.T h r n).rlow f ds μ = .stuck)∨∃ k,k+3≤n∧FnPs W k h false (levM W.T h r n).rlow:=by
   intro h r
   match n,ih with
   | 0,_=>exact .inl fun _ _ _=>rfl
   | 1,_=>exact .inl fun _ _ _=>rfl
   | 2,_=>exact .inl fun _ _ _=>rfl
   | 3,_=>exact .inl fun _ _ _=>rfl
   | n+4,ih=>exact .inr ⟨n+1,by omega,fnPs_callT T F (ih n (by omega) h false)⟩
  exact ⟨rfl,call h r,(low h r).1,(low h r).2,call true r,(low true r).1,(low true r).2,rlow h r,rlow true r⟩
theorem calls_ok (T:Txt W) (F:Defs W) (n:Nat) (h:Bool):Calls W n (lev W.T h n):=callsM_ok T F n h true
end
end Ev
set_option maxRecDepth 100000
set_option maxHeartbeats 2000000
namespace Ev
open PySem PySem.Spec PyProof.Rows L2
theorem sameC_eq {a b:D} (h:sameC a b=true):a=b:=by
 cases a <;> cases b <;> first | (cases h; done) | (rw [of_decide_eq_true h])
theorem sameKs_eq:∀ {a b:List (Str×D)},sameKs a b=true→a=b
 | [],[],_=>rfl
 | p::ps,q::qs,h=>by
  unfold sameKs at h
  simp only [Bool.and_eq_true] at h
  rw [sameKs_eq h.2,Prod.ext (of_decide_eq_true h.1.1) (sameC_eq h.1.2)]
 | [],_::_,h=>by cases h
 | _::_,[],h=>by cases h
theorem gdsOk_mem {T:Tb} {x:Str} {kvs:List (Str×D)} (h:gdsOk T x kvs=true):(x,kvs)∈T.gds:=by
 unfold gdsOk at h
 obtain ⟨p,hp,h⟩:=List.any_eq_true.mp h
 rw [Bool.and_eq_true] at h
 have:p=(x,kvs):=Prod.ext (of_decide_eq_true h.1) (sameKs_eq h.2)
 rw [← this]; exact hp
theorem glsOk_mem {T:Tb} {x:Str} {d:D} (h:glsOk T x d=true):(x,d)∈T.gls:=by
 unfold glsOk at h
 obtain ⟨p,hp,h⟩:=List.any_eq_true.mp h
 rw [Bool.and_eq_true] at h
 obtain ⟨h1,h2⟩:=h
 have e1:=of_decide_eq_true h1
 have e2:=sameC_eq h2
 have:p=(x,d):=Prod.ext e1 e2
 rw [← this]; exact hp
mutual
def tgSl:Tg→List Nat
 | .name i=>[i]
 | .tup ts=>tgsSl ts
def tgsSl:Tgs→List Nat
 | .nil=>[]
 | .cons t ts=>tgSl t++tgsSl ts
end
theorem isTup_eq {x:Expr} (h:isTup x=true):∃ es k p,x = .Tuple es k p:=by
 cases x <;> first | exact ⟨_,_,_,rfl⟩ | cases h
end Ev
set_option maxRecDepth 100000
set_option maxHeartbeats 2000000
namespace Ev
open PySem PySem.Spec PyProof.Rows L2
section
variable {W:Wd} {X:Cx} {n:Nat} {C:Cl} {Wx:WX} {H0:En} {N:List Str} {sc:Scope}
theorem and2 {a b:Bool} (h:(a&&b)=true):a=true∧b=true:=by rwa [Bool.and_eq_true] at h
theorem nm_ok {i:Nat} {y:Str} (hN:X.N=N) (hsc:X.env.scope=sc) (h:nmOk N sc i y=true):X.N[i]?=some y∧Vis X.env.scope y∧(y == ("__debug__" : Str))=false∧(y == ("__classdict__" : Str))=false:=by
 unfold nmOk at h
 obtain ⟨h,h4⟩:=and2 h
 obtain ⟨h,h3⟩:=and2 h
 obtain ⟨h1,h2⟩:=and2 h
 refine ⟨by rw [hN]; exact of_decide_eq_true h1,?_,by simpa using h3,by simpa using h4⟩
 rw [hsc]
 unfold Vis
 cases q:sc.names.lookup y with
 | none=>rw [q] at h2; cases h2
 | some k=>rw [q] at h2; cases k <;> first | exact .inl rfl | exact .inr (.inl rfl) | exact .inr (.inr rfl) | cases h2
theorem st_ok {fl:Bool} {i:Nat} {y:Str} (hN:X.N=N) (hsc:X.env.scope=sc) (hf:fl=true→∀ x,X.fn x=true∨X.env.scope.names.lookup x≠some .cell) (h:stOk N sc fl i y=true):X.N[i]?=some y∧L2.Loc X.env.scope y∧(X.fn y=true∨X.env.scope.names.lookup y=some .local):=by
 unfold stOk at h
 obtain ⟨h1,h2⟩:=and2 h
 refine ⟨by rw [hN]; exact of_decide_eq_true h1,?_⟩
 rw [hsc]
 unfold L2.Loc
 cases q:sc.names.lookup y with
 | none=>rw [q] at h2; cases h2
 | some k =>
  rw [q] at h2
  cases k with
  | «local» => exact ⟨.inl rfl,.inr rfl⟩
  | cell=>exact ⟨.inr rfl,.inl ((hf h2 y).resolve_right fun z=>z (by rw [hsc]; exact q))⟩
  | _=>cases h2
theorem gl_ok {y:Str} (hsc:X.env.scope=sc) (h:glOk sc y=true):Gl X y∧(y == ("__debug__" : Str))=false:=by
 unfold glOk at h
 obtain ⟨h1,h2⟩:=and2 h
 refine ⟨?_,by simpa using h2⟩
 show X.env.scope.names.lookup y=some .globalImplicit
 rw [hsc]
 cases q:sc.names.lookup y with
 | none=>rw [q] at h1; cases h1
 | some k=>rw [q] at h1; cases k <;> first | rfl | cases h1
theorem kd_ok {k:Kd} {x:Expr} (hsc:X.env.scope=sc) (h:kdCk W.T sc k x=true):KdName X W.T k x:=by
 unfold kdCk at h
 split at h
 ·rename_i y p
  obtain ⟨h1,h2⟩:=and2 h
  obtain ⟨g1,g2⟩:=gl_ok hsc h1
  refine ⟨g1,g2,?_⟩
  cases k <;> exact of_decide_eq_true h2
 ·cases h
theorem foldB {x:Expr} {env:Env} (h:notSet x=true):∀ v,foldedSetIterable x env v=pure v:=by
 intro v
 cases x <;> first | rfl | cases h
def tgsLen:Tgs→Nat
 | .nil=>0
 | .cons _ ts=>tgsLen ts+1
theorem bindTs_len:∀ {ts:Tgs} {ds:List D} {σd σd':Sg},bindTs ts ds σd=some σd'→ds.length=tgsLen ts
 | .nil,[],_,_,_=>rfl
 | .nil,_::_,_,_,h=>by cases h
 | .cons t ts,[],_,_,h=>by cases h
 | .cons t ts,d::ds,σd,σd',h=>by
  have h:(bindT t d σd).bind (fun σ'=>bindTs ts ds σ')=some σd':=h
  cases q:bindT t d σd with
  | none=>rw [q] at h; cases h
  | some σ1=>rw [q] at h; show ds.length+1=tgsLen ts+1; rw [bindTs_len h]
theorem chkTgs_len {fl:Bool}:∀ {k:Nat} {ts:Tgs} {es:List Expr},chkTgs N sc fl k ts es=true→es.length=tgsLen ts
 | 0,_,_,h=>by cases h
 | k+1,.nil,[],_=>rfl
 | k+1,.nil,_::_,h=>by cases h
 | k+1,.cons t ts,[],h=>by cases h
 | k+1,.cons t ts,x::xs,h=>by
  have h:(chkTg N sc fl k t x&&chkTgs N sc fl k ts xs)=true:=h
  show xs.length+1=tgsLen ts+1
  rw [chkTgs_len (and2 h).2]
theorem chk_tgG {fl:Bool} (h:Hyp W X n C Wx) (hst:∀ i y,stOk N sc fl i y=true→X.N[i]?=some y∧Loc X.env.scope y∧(X.fn y=true∨X.env.scope.names.lookup y=some .local)):∀ (k:Nat),(∀ t x,chkTg N sc fl k t x=true→PG X x (rG W H0 t))∧(∀ ts es,es.all noStar=true→chkTgs N sc fl k ts es=true→PGs X es (rGs W H0 ts)):=by
 intro k
 induction k with
 | zero=>exact ⟨fun _ _ h=>(nomatch h),fun _ _ _ h=>(nomatch h)⟩
 | succ k ih =>
  refine ⟨fun t x hc=>?_,fun ts es hs hc=>?_⟩
  ·cases t with
   | name i =>
    cases x with
    | Name y p=>obtain ⟨h1,h2,h3⟩:=hst _ _ hc; exact snd_gname h h1 h2 h3
    | _=>cases hc
   | tup ts =>
    cases x with
    | Tuple es kk p =>
     have hc:(es.all noStar&&chkTgs N sc fl k ts es)=true:=hc
     obtain ⟨h1,h2⟩:=and2 hc
     exact snd_gtup h h1 (ih.2 ts es h1 h2) fun ds σd σd' hb=>by rw [bindTs_len hb,chkTgs_len h2]
    | _=>cases hc
  ·cases ts with
   | nil=>cases es with
    | nil=>exact snd_gnil
    | cons _ _=>cases hc
   | cons t ts=>cases es with
    | nil=>cases hc
    | cons x xs =>
     have hc:(chkTg N sc fl k t x&&chkTgs N sc fl k ts xs)=true:=hc
     obtain ⟨h1,h2⟩:=and2 hc
     rw [List.all_cons] at hs
     obtain ⟨s1,s2⟩:=and2 hs
     exact snd_gcons s1 (ih.1 t x h1) (ih.2 ts xs s2 h2)
theorem chk_tg {fl:Bool} (h:Hyp W X n C Wx) (hN:X.N=N) (hsc:X.env.scope=sc) (hf:fl=true→∀ x,X.fn x=true∨X.env.scope.names.lookup x≠some .cell):∀ (k:Nat),(∀ t x,chkTg N sc fl k t x=true→PG X x (rG W H0 t))∧(∀ ts es,es.all noStar=true→chkTgs N sc fl k ts es=true→PGs X es (rGs W H0 ts)):=
 chk_tgG h fun i y z=>st_ok hN hsc hf z
end
end Ev
set_option maxRecDepth 100000
set_option maxHeartbeats 2000000
namespace Ev
open PySem PySem.Spec PyProof.Rows L2
section
variable {W:Wd} {X:Cx} {n:Nat} {C:Cl} {Wx:WX} {H0:En} {A:E} {a:Expr} {te:TE} {pos p2 p3:Pos}
end
end Ev
set_option maxRecDepth 100000
set_option maxHeartbeats 2000000
namespace EvW
open PySem PySem.Spec PyProof.Rows L2 HT
section
variable {prog:Program} {w:World} {A:Around} {E:Value→Shared→Prop} {s:Shared}
theorem fm_congr {α β:Type} {f g:α→Option β}:∀ {l:List α},(∀ x∈l,f x=g x)→l.filterMap f=l.filterMap g
 | [],_=>rfl
 | x::l,h=>by
  have e:=h x List.mem_cons_self
  have ih:=fm_congr (l:=l) fun y hy=>h y (List.mem_cons_of_mem _ hy)
  cases q:f x with
  | none=>rw [List.filterMap_cons_none q,List.filterMap_cons_none (by rw [← e,q]),ih]
  | some b=>rw [List.filterMap_cons_some q,List.filterMap_cons_some (by rw [← e,q]),ih]
end
end EvW
namespace Ev
open PySem PySem.Spec PyProof.Rows L2
section
variable {W:Wd} {X:Cx} {n:Nat} {C:Cl} {Wx:WX} {H0:En} {A:E} {a:Expr} {pos p1 p2 p3:Pos}
end
end Ev
set_option maxRecDepth 100000
set_option maxHeartbeats 2000000
namespace Ev
open PySem PySem.Spec PyProof.Rows L2
section
variable {W:Wd} {X:Cx} {n:Nat} {C:Cl} {Wx:WX} {H0:En} {pos p:Pos}
end
end Ev
set_option maxRecDepth 100000
set_option maxHeartbeats 2000000
namespace Ev
open PySem PySem.Spec PyProof.Rows L2
section
variable {W:Wd} {X:Cx} {n:Nat} {C:Cl} {Wx:WX} {H0:En} {pos p:Pos} {a:Expr} {A:Ev.E}
def KdNames (X:Cx) (T:Tb):List Kd→List Expr→Prop
 | [],[]=>True
 | k::ks,c::cs=>KdName X T k c∧KdNames X T ks cs
 | _,_=>False
end
end Ev
set_option maxRecDepth 100000
set_option maxHeartbeats 2000000
namespace EvW
open PySem PySem.Spec PyProof.Rows L2 EvH
section
variable {prog:Program} {w:World} {A:Around} {E:Value→Shared→Prop} {s:Shared}
end
section
variable {prog:Program} {w:World} {A:Around} {E:Value→Shared→Prop} {s:Shared}
end
end EvW
namespace Ev
open PySem PySem.Spec PyProof.Rows L2
section
variable {W:Wd} {X:Cx} {n:Nat} {C:Cl} {Wx:WX} {H0:En} {pins:List (Addr×Obj)} {σ:L2.St} {H H1:Hp} {s:Shared} {e e1:Em} {μ:Mu} {a b c tg:Expr} {A B D':E} {pos p:Pos} {es:List Expr} {ys:Es}
end
end Ev
set_option maxRecDepth 100000
set_option maxHeartbeats 2000000
namespace EvWt
open PySem PySem.Spec PyProof.Rows L2
section
variable {prog:Program} {w:World} {M:Model} {A:Around} {E:Value→Shared→Prop} {s:Shared} {env:Env} {K:PySem.W.Frag} {x C L fe fx:Addr} {h₀:Heap} {m:Str→Option Value} {ox:Obj} {od:Option Obj} {pos:Pos}
end
structure Cal (X:Cx) (f:Addr) (t:List V→L2.St→Hp→VK→Prop):Prop where
 run:∀ (pins:List (Addr×Obj)) (s:Shared) (σ:L2.St) (H:Hp) (vs:List V) (us:List Value) (Q:VK),Inv X pins σ H s→Vals vs us→t vs σ H Q→wpAny (model X.prog X.w) X.A (call (.ref f) us) (EP X pins σ Q) X.xe s
structure CalH (X:Cx) (f:Addr) (t:List V→L2.St→Hp→VK→Prop):Prop where
 run:∀ (a:Addr) (oe:Obj) (cls:Value) (d:Option Addr) (pn pins:List (Addr×Obj)) (s:Shared) (σ:L2.St) (H:Hp) (vs:List V) (us:List Value) (Q:VK),L2N.Zn cls d oe→(∃ vs,oe.data = .fields vs)→Inv (X.suite a ((a,oe)::pn)) pins σ H s→Vals vs us→t vs σ H Q →
  codeAny (model X.prog X.w) (X.A.mark (some (.ref a))) (.call (.ref f) ⟨us,[]⟩) (fun r s5=>match r with
   | .ok (.ret v)=>EP (X.suite a ((a,oe)::pn)) pins σ Q v s5
   | _=>False) s
section
variable {X:Cx} {body:List Stmt} {pos py:Pos} {ctx:Expr} {y:Str} {i:Nat} {tc:TE} {tb:WX→TS} {Wout:WX} {C fe fx:Addr} {ten tex texH:List V→L2.St→Hp→VK→Prop}
end
end EvWt
set_option maxRecDepth 100000
set_option maxHeartbeats 2000000
namespace EvDm
open PySem PySem.Spec PyProof.Rows L2
section
variable {prog:Program} {w:World} {K:Type} [DecidableEq K] {knd:KeyKind prog w K} {A:Around} {E:Value→Shared→Prop} {s:Shared}
end
end EvDm
set_option maxRecDepth 100000
set_option maxHeartbeats 2000000
namespace Ev
open PySem PySem.Spec PyProof.Rows L2
section
variable {W:Wd} {X:Cx} {n:Nat} {C:Cl} {Wx:WX} {e0:Em} {H0:En} {pins:List (Addr×Obj)} {σ:L2.St} {H H1:Hp} {s:Shared} {e e1:Em} {μ:Mu} {A B V':E} {pos py p:Pos} {D:Ends}
theorem Exa.ex {e':Em} {H':Hp} (x:Ex e H e' H') {c:Nat} {fs:List (Nat×Ev.D)} {cls:Value} {d:Option Addr} (z:Exa W e H c fs cls d):Exa W e' H' c fs cls d:=by
 obtain ⟨z1,dx,gs,i,z2,z3,z4,z5,z6,z7,z8⟩:=z
 exact ⟨z1,dx,gs,i,z2,x.keep dx _ z3 z8,z4,z5,z6.ex x,privG x z3 z7 z8⟩
end
end Ev
set_option maxRecDepth 100000
set_option maxHeartbeats 2000000
namespace Ev
open PySem PySem.Spec PyProof.Rows L2
section
variable {W:Wd} {X:Cx} {n:Nat} {C:Cl} {Wx:WX} {H0:En} {σ:L2.St} {pos:Pos}
def rPs (W:Wd) (C:Cl) (Wx:WX) (H0:En):List Str→Es→List (TE×TE)
 | k::ks,.cons _ a as=>(rE W C Wx H0 (.lit (.str k)),rE W C Wx H0 a)::rPs W C Wx H0 ks as
 | _,_=>[]
def sameEs:List Str→Es→Bool
 | [],.nil=>true
 | _::ks,.cons s _ as=>!s&&sameEs ks as
 | _,_=>false
theorem RepD.all {W:Wd} {e:Em}:∀ {ps:List (Str×Ev.D)} {vs:List V} {kvs:List (Str×Ev.D)} {ks:List (L2.Key×V)},RepL W e (ps.map (·.2)) vs→RepD W e kvs ks→RepD W e (dAll kvs ps) (L2.mergeK ks ((ps.map fun p=>(.inr p.1:L2.Key)).zip vs))
 | [],vs,kvs,ks,r,h=>h
 | p::ps,vs,kvs,ks,r,h=>by
  obtain ⟨v,ws,rfl,r1,r2⟩:=r
  exact RepD.all (ps:=ps) r2 (RepD.put r1 h)
abbrev pz (ks:List Str) (vs:List V):List (V×V):=(ks.map fun k=>V.str k).zip vs
end
end Ev
set_option maxRecDepth 100000
set_option maxHeartbeats 2000000
namespace Ev
open PySem PySem.Spec PyProof.Rows L2
section
variable {W:Wd} {X:Cx} {n:Nat} {C:Cl} {Wx:WX} {H0:En} {σ:L2.St} {pos:Pos}
theorem gin_op {A:Addr} {es:Array DictEntry} {k:Nat} (neg:Bool) (D:KDict X.K X.w A es k):OpR X (compareOp (if neg then .NotIn else .In)) (fun x y H Q=>∃ (z:Str) (r:Option Value),x = .str z∧y = .ref A∧PySem.W.nsIn X.K A z=some r∧Q (.bl (if neg then !r.isSome else r.isSome)) H):=by
 cases neg with
 | true=>exact op_notIn_kd D
 | false=>exact op_in_kd D
theorem rE_imp {B:E} {H:Hp} {Q Q':V→Hp→Prop} (h:rE W C Wx H0 B σ H Q) (k:∀ v H',Q v H'→Q' v H'):rE W C Wx H0 B σ H Q':=
 let ⟨e,μ,σd,st,lo,q⟩:=h
 ⟨e,μ,σd,st,lo,q.imp fun d m e' H' x st' r v hv=>k _ _ (r v hv)⟩
theorem gin_at (h:Hyp W X n C Wx) {neg:Bool} {x:Str} {kvs:List (Str×Ev.D)} {B:E} {H:Hp} {e:Em} {μ:Mu} {σd:Sg} {Q:V→Hp→Prop} {R:Ev.D→Mu→Em→Hp→Prop} (st:St0 W e μ H) (lo:Lo W e H0 σd σ H) {A:Addr}
  (hv:(∀ k d,dGet kvs k=some d→∃ u v,PySem.W.nsIn W.K A k=some (some u)∧vC d=some v∧RelV v u)∧∀ k,dGet kvs k=none→PySem.W.nsIn W.K A k=some none)
  (q:Aft W e H (evE C (.gin neg x kvs B) σd μ) R (xkA Wx σ)) (kq:∀ b m e' H',St0 W e' m H'→R (.bl b) m e' H'→Q (.bl b) H') :
  rE W C Wx H0 B σ H fun y H'=>∃ (z:Str) (r:Option Value),y = .str z∧PySem.W.nsIn X.K A z=some r∧Q (.bl (if neg then !r.isSome else r.isSome)) H':=by
 have q:Aft W e H ((evE C B σd μ).bind fun y m=>giR neg kvs y m) R (xkA Wx σ):=q
 refine rE.at st lo (Aft.bind q) fun d m e' H' v _ st' lo' r hv'=>?_
 cases d with
 | str z =>
  have r:Aft W e' H' (.ok (.bl (if neg then !(dGet kvs z).isSome else (dGet kvs z).isSome)) m) R (xkA Wx σ):=r
  cases hk:dGet kvs z with
  | none =>
   rw [hk] at r
   exact ⟨z,none,hv',by rw [h.K]; exact hv.2 z hk,kq _ _ _ _ st' (r.now st')⟩
  | some dv =>
   rw [hk] at r
   obtain ⟨u,w,e1,e2,e3⟩:=hv.1 z dv hk
   exact ⟨z,some u,hv',by rw [h.K]; exact e1,kq _ _ _ _ st' (r.now st')⟩
 | _=>exact r.elim
theorem sndT_gin (h:Hyp W X n C Wx) {neg:Bool} {x:Str} {kvs:List (Str×Ev.D)} {b:Expr} {B:E} {np:Pos} (hg:Gl X x) (hd:(x == ("__debug__" : Str))=false) (hm:(x,kvs)∈W.T.gds) (hb:PE X b (rE W C Wx H0 B)) :
  PT X (.Compare b [if neg then .NotIn else .In] [.Name x np] pos) (rT W C Wx H0 (.e (.gin neg x kvs B))):=by
 obtain ⟨A,es,k,hA,D,hv⟩:=h.txt.gds x kvs hm
 have D':KDict X.K X.w A es k:=by rw [h.K,h.w]; exact D
 refine ⟨fun pins s σ H Q I ⟨e,μ,σd,st,lo,q⟩=>?_⟩
 refine (pt_cmpR (gin_op neg D') hb (pe_glob (v:=.ref A) hg (by rw [h.mg]; exact hA) rfl hd) rfl).run pins s σ H Q I ?_
 have q:Aft W e H ((evE C (.gin neg x kvs B) σd μ).bind fun x m=>truth C x m) (fun b _ _ H'=>Q b H') (xkA Wx σ):=q
 refine rE_imp (gin_at (Q:=fun v H'=>∃ b,v = .bl b∧Q b H') h st lo hv (Aft.bind q) fun b m e' H' st' r=>⟨b,rfl,Aft.now r st'⟩) fun y H' ⟨z,r,e1,e2,b,e3,e4⟩=>?_
 exact ⟨z,r,e1,rfl,e2,b,e3,e4⟩
end
end Ev
set_option maxRecDepth 100000
set_option maxHeartbeats 2000000
namespace EvW
open PySem PySem.Spec PyProof.Rows L2 EvH
section
variable {P:Program} {w:World} {K:PySem.W.Frag} {tg:Expr} {elts:List Expr} {kk:Nat} {tpos:Pos} {b z TI TO i1 i2:Addr} {x:Str} {t:Tok} {ys:List V}
end
section
variable {X:Cx} {tg e e2:Expr} {ta:TA} {p pos tpos:Pos} {elts:List Expr} {kk:Nat}
end
end EvW
namespace Ev
open PySem PySem.Spec PyProof.Rows L2
section
variable {W:Wd} {X:Cx} {n:Nat} {C:Cl} {Wx:WX} {H0:En} {pins:List (Addr×Obj)} {σ:L2.St} {H H1:Hp} {s:Shared} {e e1:Em} {μ:Mu} {a b c tg:Expr} {A B D':E} {pos p:Pos} {es:List Expr} {ys:Es}
end
end Ev
set_option maxRecDepth 100000
set_option maxHeartbeats 4000000
namespace Ev
open PySem PySem.Spec PyProof.Rows L2
structure CkAll (W:Wd) (N:List Str) (k:Nat):Prop where
 E:∀ (X:Cx) (n:Nat) (C:Cl) (Wx:WX) (H0:En) (sc:Scope) (a:E) (x:Expr),Hyp W X n C Wx→Pn W X C H0→X.N=N→X.env.scope=sc→chkE N W.T k sc a x=true→PE X x (rE W C Wx H0 a)
 B:∀ (X:Cx) (n:Nat) (C:Cl) (Wx:WX) (H0:En) (sc:Scope) (b:Bool) (a:Ev.E) (xs:List Expr) (p:Pos),Hyp W X n C Wx→Pn W X C H0→X.N=N→X.env.scope=sc→chkB N W.T k sc b a xs=true→PE X (.BoolOp (if b then .And else .Or) xs p) (rE W C Wx H0 a)
 T:∀ (X:Cx) (n:Nat) (C:Cl) (Wx:WX) (H0:En) (sc:Scope) (a:Ev.T) (x:Expr),Hyp W X n C Wx→Pn W X C H0→X.N=N→X.env.scope=sc→chkT N W.T k sc a x=true→PT X x (rT W C Wx H0 a)
 TB:∀ (X:Cx) (n:Nat) (C:Cl) (Wx:WX) (H0:En) (sc:Scope) (b:Bool) (a:Ev.T) (xs:List Expr) (p:Pos),Hyp W X n C Wx→Pn W X C H0→X.N=N→X.env.scope=sc→chkTB N W.T k sc b a xs=true→PW X (.BoolOp (if b then .And else .Or) xs p) (rT W C Wx H0 a)
 Es:∀ (X:Cx) (n:Nat) (C:Cl) (Wx:WX) (H0:En) (sc:Scope) (as:Es) (xs:List Expr),Hyp W X n C Wx→Pn W X C H0→X.N=N→X.env.scope=sc→chkEs N W.T k sc as xs=true→PA X xs (rA W C Wx H0 as)
 Ks:∀ (X:Cx) (n:Nat) (C:Cl) (Wx:WX) (H0:En) (sc:Scope) (as:Ev.Es) (xs:List Keyword),Hyp W X n C Wx→Pn W X C H0→X.N=N→X.env.scope=sc→chkKs N W.T k sc as xs=true→PK X xs (rA W C Wx H0 as)
 Kw:∀ (X:Cx) (n:Nat) (C:Cl) (Wx:WX) (H0:En) (sc:Scope) (a:Ev.E) (x:Expr),Hyp W X n C Wx→Pn W X C H0→X.N=N→X.env.scope=sc→chkKw N W.T k sc a x=true→PE X x (rE W C Wx H0 a)
 Fs:∀ (X:Cx) (n:Nat) (C:Cl) (Wx:WX) (H0:En) (sc:Scope) (as:Ev.Es) (xs:List Expr),Hyp W X n C Wx→Pn W X C H0→X.N=N→X.env.scope=sc→chkFs N W.T k sc as xs=true→PJ X xs (tFs W C Wx H0 as)
 O:∀ (X:Cx) (n:Nat) (C:Cl) (Wx:WX) (H0:En) (sc:Scope) (o:Eo) (x:Option Expr),Hyp W X n C Wx→Pn W X C H0→X.N=N→X.env.scope=sc→chkO N W.T k sc o x=true→PO X x (rO W C Wx H0 o)
 To:∀ (X:Cx) (n:Nat) (C:Cl) (Wx:WX) (H0:En) (sc:Scope) (o:To) (xs:List Expr),Hyp W X n C Wx→Pn W X C H0→X.N=N→X.env.scope=sc→chkTo N W.T k sc o xs=true→PTs X xs (rTo W C Wx H0 o)
 D:∀ (X:Cx) (n:Nat) (C:Cl) (Wx:WX) (H0:En) (sc:Scope) (ks:List Str) (as:Ev.Es) (keys:List (Option Expr)) (vs:List Expr) (p:Pos),Hyp W X n C Wx→Pn W X C H0→X.N=N→X.env.scope=sc→chkD N W.T k sc ks as keys vs=true→PPs X p keys vs (rPs W C Wx H0 ks as)∧sameEs ks as=true∧keys.all (·.isSome)=true∧keys.length=vs.length
 I:∀ (X:Cx) (n:Nat) (C:Cl) (Wx:WX) (H0:En) (sc:Scope) (brw:Bool) (tg:Expr) (it:Ev.It) (x:Expr),Hyp W X n C Wx→Pn W X C H0→X.N=N→X.env.scope=sc→chkIt N W.T k sc tg it x=true→EvW.PIW X tg x (rI W C Wx H0 brw it)
theorem kwF_ok {T:Tb} {f:Nat} {y:Str} {kws:List Keyword} (h:kwF T f y kws=true):∃ i,T.fns[f]?=some i∧i.loc=(y,none)∧kws.map (·.arg)=(i.names.take i.np).reverse.map some:=by
 unfold kwF at h
 split at h
 ·rename_i i e
  obtain ⟨h1,h2⟩:=and2 h
  exact ⟨i,e,of_decide_eq_true h1,of_decide_eq_true h2⟩
 ·cases h
theorem kwC_ok {T:Tb} {c:Nat} {y:Str} {kws:List Keyword} (h:kwC T c y kws=true):∃ k i,T.cls[c]?=some k∧k.name=y∧T.fns[k.init]?=some i∧kws.map (·.arg)=((i.names.take i.np).drop 1).reverse.map some:=by
 unfold kwC at h
 split at h
 ·rename_i k e
  obtain ⟨h1,h2⟩:=and2 h
  split at h2
  ·rename_i i e2
   exact ⟨k,i,e,of_decide_eq_true h1,e2,of_decide_eq_true h2⟩
  ·cases h2
 ·cases h
theorem excN_ok {T:Tb} {c:Nat} {y:Str} (h:excN T c y=true):∃ i,T.cls[c]?=some i∧i.isexc=true∧i.name=y∧i.flds≠[]:=by
 unfold excN at h
 split at h
 ·rename_i i hi
  obtain ⟨h,h3⟩:=and2 h
  obtain ⟨h1,h2⟩:=and2 h
  exact ⟨i,hi,h1,of_decide_eq_true h2,fun z=>by rw [z] at h3; cases h3⟩
 ·cases h
theorem excP_ok {T:Tb} {c:Nat} {nm:Str} (h:excP T c nm=true):∃ i j,T.cls[c]?=some i∧T.fns[i.init]?=some j∧(j.names.take 2).drop 1=[nm]:=by
 unfold excP at h
 split at h
 ·rename_i i hi
  split at h
  ·rename_i j hj
   exact ⟨i,j,hi,hj,of_decide_eq_true h⟩
  ·cases h
 ·cases h
theorem chkEs_nil {N:List Str} {T:Tb} {sc:Scope}:∀ {k:Nat} {as:Es} {es:List Expr},chkEs N T k sc as es=true→es=[]→as = .nil
 | 0,_,_,h,_=>by cases h
 | k+1,.nil,_,_,_=>rfl
 | k+1,.cons true _ _,[],h,_=>by cases h
 | k+1,.cons false _ _,[],h,_=>by cases h
 | k+1,.cons _ _ _,_::_,_,z=>by cases z
theorem chkKw_var {N:List Str} {T:Tb} {sc:Scope} {i:Nat} {x:Expr}:∀ {k:Nat},chkKw N T k sc (.var i) x=false
 | 0=>rfl
 | k+1=>by cases x <;> rfl
theorem chk_var {N:List Str} {T:Tb} {sc:Scope} {k i:Nat} {x:Expr} (h:chkE N T k sc (.var i) x=true):∃ y p,x = .Name y p∧nmOk N sc i y=true:=by
 cases k with
 | zero=>cases h
 | succ k=>cases x with
  | Name y p=>exact ⟨y,p,rfl,h⟩
  | _=>exact absurd (show chkKw N T k sc (.var i) _=true from h) (by rw [chkKw_var]; simp)
theorem Pn.blk {W:Wd} {X:Cx} {C:Cl} {H0:En} (p:Pn W X C H0) (s0:Shared) (H2:Hp) (scope:Scope) (env:Env) (fp:List Addr):Pn W (EvW.blkW X s0 H2 scope env fp) C H0:=⟨p.cold,p.pin⟩
theorem qcN_ok {T:Tb} {c:Nat} {y:Str} (h:qcN T c y=true):∃ i f j,T.cls[c]?=some i∧i.isexc=false∧i.name=y∧i.meths.lookup 16=some f∧T.fns[f]?=some j:=by
 unfold qcN at h
 split at h
 ·rename_i i hi
  obtain ⟨h,h3⟩:=and2 h
  obtain ⟨h1,h2⟩:=and2 h
  split at h3
  ·rename_i f hf
   obtain ⟨j,hj⟩:=Option.isSome_iff_exists.mp h3
   exact ⟨i,f,j,hi,by simpa using h1,of_decide_eq_true h2,hf,hj⟩
  ·cases h3
 ·cases h
theorem isVar_eq {a:E} {i:Nat} (h:a.isVar=some i):a = .var i:=by cases a <;> cases h; rfl
section
variable {W:Wd} {N:List Str}
theorem kds_ok {X:Cx} {sc:Scope} (hsc:X.env.scope=sc):∀ {ks:List Kd} {cs:List Expr},kdCks W.T sc ks cs=true→KdNames X W.T ks cs
 | [],[],_=>trivial
 | k::ks,c::cs,h=>by
  obtain ⟨h1,h2⟩:=and2 h
  exact ⟨kd_ok hsc h1,kds_ok hsc h2⟩
 | [],_::_,h=>nomatch h
 | _::_,[],h=>nomatch h
theorem blk_st {X:Cx} (hN:X.N=N) {s:Shared} {H:Hp} {scope:Scope} {C':Addr} {cl:List (Str×Addr)} {fp:List Addr} {i:Nat} {y:Str} (h:stOk N scope true i y=true) :
  (EvW.blkW X s H scope (compEnvC scope cl C' X.env) fp).N[i]?=some y∧Loc (EvW.blkW X s H scope (compEnvC scope cl C' X.env) fp).env.scope y ∧
  ((EvW.blkW X s H scope (compEnvC scope cl C' X.env) fp).fn y=true∨(EvW.blkW X s H scope (compEnvC scope cl C' X.env) fp).env.scope.names.lookup y=some .local):=by
 obtain ⟨h1,h2⟩:=and2 h
 have keep:∀ {k:NameKind},k ≠ .free→scope.names.lookup y=some k→(EvW.blkW X s H scope (compEnvC scope cl C' X.env) fp).env.scope.names.lookup y=some k:=fun hk e=>by
  have z:=lookup_relS_keep (sc:=X.env.scope) hk e
  exact z
 refine ⟨by show X.N[i]?=some y; rw [hN]; exact of_decide_eq_true h1,?_⟩
 unfold locB at h2
 split at h2
 ·rename_i e
  exact ⟨.inl (keep (by decide) e),.inr (keep (by decide) e)⟩
 ·rename_i e
  refine ⟨.inr (keep (by decide) e),.inl ?_⟩
  show (scope.names.lookup y == some .cell)=true
  rw [e]; rfl
 ·cases h2
theorem ck_E {k:Nat} (ih:CkAll W N k) (X:Cx) (n:Nat) (C:Cl) (Wx:WX) (H0:En) (sc:Scope) (a:E) (x:Expr) (h:Hyp W X n C Wx) (pn:Pn W X C H0) (hN:X.N=N) (hsc:X.env.scope=sc) (hc:chkE N W.T (k+1) sc a x=true):PE X x (rE W C Wx H0 a):=by
 have ie:=fun a x (z:chkE N W.T k sc a x=true)=>ih.E X n C Wx H0 sc a x h pn hN hsc z
 have ies:=fun a x (z:chkEs N W.T k sc a x=true)=>ih.Es X n C Wx H0 sc a x h pn hN hsc z
 unfold chkE at hc
 split at hc
 ·obtain ⟨h1,h2,h3,h4⟩:=nm_ok hN hsc hc; exact snd_var h1 h2 h3 h4
 ·cases of_decide_eq_true hc; exact snd_int
 ·cases of_decide_eq_true hc; exact snd_bl
 ·exact snd_non
 ·cases of_decide_eq_true hc; exact snd_str
 ·obtain ⟨hc,h3⟩:=and2 hc
  obtain ⟨h1,h2⟩:=and2 hc
  cases of_decide_eq_true h1
  exact snd_bin h _ (ie _ _ h2) (ie _ _ h3)
 ·obtain ⟨hc,h4⟩:=and2 hc
  obtain ⟨hc,h3⟩:=and2 hc
  obtain ⟨h1,h2⟩:=and2 hc
  cases of_decide_eq_true h1
  exact snd_cmp h _ (ie _ _ h3) (ie _ _ h4) (by simpa using h2)
 ·obtain ⟨h1,h2⟩:=and2 hc
  exact snd_and h (ie _ _ h1) (ih.B X n C Wx H0 sc true _ _ _ h pn hN hsc h2)
 ·obtain ⟨h1,h2⟩:=and2 hc
  exact snd_or h (ie _ _ h1) (ih.B X n C Wx H0 sc false _ _ _ h pn hN hsc h2)
 ·obtain ⟨hc,h3⟩:=and2 hc
  obtain ⟨h1,h2⟩:=and2 hc
  exact snd_ite (ih.T X n C Wx H0 sc _ _ h pn hN hsc h1) (ie _ _ h2) (ie _ _ h3)
 ·exact snd_tup (ies _ _ hc)
 ·exact snd_lst (ies _ _ hc)
 ·exact snd_cell (ies _ _ hc)
 ·obtain ⟨hc,h3⟩:=and2 hc
  obtain ⟨h1,h2⟩:=and2 hc
  refine snd_attr h pn (of_decide_eq_true h1) h2 (ie _ _ h3) fun i hi=>?_
  cases isVar_eq hi
  obtain ⟨y,p,rfl,hy⟩:=chk_var h3
  obtain ⟨g1,g2,g3,g4⟩:=nm_ok hN hsc hy
  exact ⟨y,p,rfl,g1,g2,g3,g4⟩
 ·obtain ⟨hc,h3⟩:=and2 hc
  obtain ⟨h1,h2⟩:=and2 hc
  exact snd_idx h (ie _ _ h2) (ie _ _ h3) h1
 ·obtain ⟨hc,h3⟩:=and2 hc
  obtain ⟨h1,h2⟩:=and2 hc
  exact snd_sl h (ie _ _ h1) (ih.O X n C Wx H0 sc _ _ h pn hN hsc h2) (ih.O X n C Wx H0 sc _ _ h pn hN hsc h3)
 ·obtain ⟨hc,h4⟩:=and2 hc
  obtain ⟨hc,h3⟩:=and2 hc
  obtain ⟨h1,h2⟩:=and2 hc
  obtain ⟨g1,g2⟩:=gl_ok hsc h1
  exact snd_call h g1 (of_decide_eq_true h2) g2 h3 (chkEs_nil h4) (ies _ _ h4)
 ·obtain ⟨hc,h6⟩:=and2 hc
  obtain ⟨hc,h5⟩:=and2 hc
  obtain ⟨hc,h4⟩:=and2 hc
  obtain ⟨hc,h3⟩:=and2 hc
  obtain ⟨h1,h2⟩:=and2 hc
  cases of_decide_eq_true h1
  exact snd_count h h2 h3 h4 (ie _ _ h5) (ie _ _ h6)
 ·obtain ⟨hc,h5⟩:=and2 hc
  obtain ⟨hc,h4⟩:=and2 hc
  obtain ⟨hc,h3⟩:=and2 hc
  obtain ⟨h1,h2⟩:=and2 hc
  obtain ⟨g1,g2⟩:=gl_ok hsc h1
  refine snd_isin h pn (of_decide_eq_true h2) g1 (kd_ok hsc h4) h3 (ie _ _ h5) fun i hi=>?_
  cases isVar_eq hi
  obtain ⟨y,p,rfl,hy⟩:=chk_var h5
  obtain ⟨g1,g2,g3,g4⟩:=nm_ok hN hsc hy
  exact ⟨y,p,rfl,g1,g2,g3,g4⟩
 ·rename_i ca ct cit cc cvs celt ctg citer cifs cscope cpos
  obtain ⟨hc,h7⟩:=and2 hc
  obtain ⟨hc,h6⟩:=and2 hc
  obtain ⟨hc,h5⟩:=and2 hc
  obtain ⟨hc,h4⟩:=and2 hc
  obtain ⟨hc,h3⟩:=and2 hc
  obtain ⟨h1,h2⟩:=and2 hc
  have bo:BlkOk X.N X.env.scope cscope (cvs.map fun v=>(N.getD v "",v)):=by rw [hN,hsc]; exact blkOk_by h3
  refine snd_comp h (ih.I X n C Wx H0 sc true _ _ _ h pn hN hsc h1) bo (by simp [Function.comp_def]) h4 (fun s2 H2 C2 cl fp=>?_) (fun s2 H2 C2 cl fp=>?_) (fun s2 H2 C2 cl fp=>?_) (foldB h2)
  ·exact (chk_tgG (fl:=true) (sc:=cscope) (h.blk s2 H2 cscope _ fp) (fun i y z=>blk_st hN z) k).1 _ _ h5
  ·exact ih.To _ n C Wf H0 (relS cscope sc) _ _ (h.blk s2 H2 cscope _ fp) (pn.blk s2 H2 cscope _ fp) hN (by rw [← hsc]; rfl) h6
  ·exact ih.E _ n C Wf H0 (relS cscope sc) _ _ (h.blk s2 H2 cscope _ fp) (pn.blk s2 H2 cscope _ fp) hN (by rw [← hsc]; rfl) h7
 ·obtain ⟨hc,h6⟩:=and2 hc
  obtain ⟨hc,h5⟩:=and2 hc
  obtain ⟨hc,h4⟩:=and2 hc
  obtain ⟨hc,h3⟩:=and2 hc
  obtain ⟨h1,h2⟩:=and2 hc
  cases of_decide_eq_true h1
  exact snd_index h h2 h3 h4 (ie _ _ h5) (ie _ _ h6)
 ·exact ih.Kw X n C Wx H0 sc _ _ h pn hN hsc hc
theorem ck_Kw {k:Nat} (ih:CkAll W N k) (X:Cx) (n:Nat) (C:Cl) (Wx:WX) (H0:En) (sc:Scope) (a:Ev.E) (x:Expr) (h:Hyp W X n C Wx) (pn:Pn W X C H0) (hN:X.N=N) (hsc:X.env.scope=sc) (hc:chkKw N W.T (k+1) sc a x=true):PE X x (rE W C Wx H0 a):=by
 have ie:=fun a x (z:chkE N W.T k sc a x=true)=>ih.E X n C Wx H0 sc a x h pn hN hsc z
 unfold chkKw at hc
 split at hc
 ·obtain ⟨hc,h3⟩:=and2 hc
  obtain ⟨h1,h2⟩:=and2 hc
  obtain ⟨g1,g2⟩:=gl_ok hsc h1
  obtain ⟨i,a1,a2,a3⟩:=kwF_ok h2
  exact snd_callr h g1 a1 a2 g2 a3 (ih.Ks X n C Wx H0 sc _ _ h pn hN hsc h3)
 ·obtain ⟨hc,h3⟩:=and2 hc
  obtain ⟨h1,h2⟩:=and2 hc
  obtain ⟨g1,g2⟩:=gl_ok hsc h1
  obtain ⟨i,j,a1,a2,a3,a4⟩:=kwC_ok h2
  exact snd_maker h g1 a1 a2 a3 g2 a4 (ih.Ks X n C Wx H0 sc _ _ h pn hN hsc h3)
 ·obtain ⟨hc,h4⟩:=and2 hc
  obtain ⟨hc,h3⟩:=and2 hc
  obtain ⟨h1,h2⟩:=and2 hc
  obtain ⟨g1,g2⟩:=gl_ok hsc h1
  obtain ⟨i,hi,hx,hn,hne⟩:=excN_ok h2
  exact snd_mkx h hi hx hne hn g1 g2 h3 (ie _ _ h4)
 ·obtain ⟨hc,h4⟩:=and2 hc
  obtain ⟨hc,h3⟩:=and2 hc
  obtain ⟨h1,h2⟩:=and2 hc
  obtain ⟨g1,g2⟩:=gl_ok hsc h1
  obtain ⟨i,hi,hx,hn,hne⟩:=excN_ok h2
  obtain ⟨i',j,hi',hj,hnm⟩:=excP_ok h3
  rw [hi] at hi'; cases hi'
  exact snd_mkxk h hi hx hne hn hj hnm g1 g2 (ie _ _ h4)
 ·obtain ⟨hc,h5⟩:=and2 hc
  obtain ⟨hc,h4⟩:=and2 hc
  obtain ⟨hc,h3⟩:=and2 hc
  obtain ⟨h1,h2⟩:=and2 hc
  obtain ⟨g1,g2⟩:=gl_ok hsc h1
  exact snd_isx h (of_decide_eq_true h2) g1 (kd_ok hsc h4) h3 (ie _ _ h5)
 ·obtain ⟨hc,h7⟩:=and2 hc
  obtain ⟨hc,h6⟩:=and2 hc
  obtain ⟨hc,h5⟩:=and2 hc
  obtain ⟨hc,h4⟩:=and2 hc
  obtain ⟨hc,h3⟩:=and2 hc
  obtain ⟨h1,h2⟩:=and2 hc
  exact snd_methr h (of_decide_eq_true h1) h2 h3 (of_decide_eq_true h4) h5 (ie _ _ h6) (ih.Ks X n C Wx H0 sc _ _ h pn hN hsc h7)
 ·cases hc
theorem ck_D {k:Nat} (ih:CkAll W N k) (X:Cx) (n:Nat) (C:Cl) (Wx:WX) (H0:En) (sc:Scope) (ks:List Str) (as:Es) (keys:List (Option Expr)) (vs:List Expr) (p:Pos) (h:Hyp W X n C Wx) (pn:Pn W X C H0) (hN:X.N=N) (hsc:X.env.scope=sc) (hc:chkD N W.T (k+1) sc ks as keys vs=true) :
  PPs X p keys vs (rPs W C Wx H0 ks as)∧sameEs ks as=true∧keys.all (·.isSome)=true∧keys.length=vs.length:=by
 unfold chkD at hc
 split at hc
 ·exact ⟨pps_nil,rfl,rfl,rfl⟩
 ·obtain ⟨hc,h3⟩:=and2 hc
  obtain ⟨h1,h2⟩:=and2 hc
  obtain ⟨g1,g2,g3,g4⟩:=ih.D X n C Wx H0 sc _ _ _ _ p h pn hN hsc h3
  exact ⟨pps_cons (ih.E X n C Wx H0 sc _ _ h pn hN hsc h1) (ih.E X n C Wx H0 sc _ _ h pn hN hsc h2) g1,g2,g3,congrArg (· + 1) g4⟩
 ·cases hc
theorem ck_B {k:Nat} (ih:CkAll W N k) (X:Cx) (n:Nat) (C:Cl) (Wx:WX) (H0:En) (sc:Scope) (b:Bool) (a:Ev.E) (xs:List Expr) (p:Pos) (h:Hyp W X n C Wx) (pn:Pn W X C H0) (hN:X.N=N) (hsc:X.env.scope=sc) (hc:chkB N W.T (k+1) sc b a xs=true):PE X (.BoolOp (if b then .And else .Or) xs p) (rE W C Wx H0 a):=by
 match xs,hc with
 | [],hc=>cases hc
 | [y],hc=>exact snd_one (ih.E X n C Wx H0 sc a y h pn hN hsc hc)
 | y::z::r,hc =>
  cases a with
  | bop k' a b' =>
   have hc:((k' == b)&&chkE N W.T k sc a y&&chkB N W.T k sc b b' (z::r))=true:=hc
   obtain ⟨hc,h3⟩:=and2 hc
   obtain ⟨h1,h2⟩:=and2 hc
   cases beq_iff_eq.mp h1
   have i1:=ih.E X n C Wx H0 sc a y h pn hN hsc h2
   have i2:=ih.B X n C Wx H0 sc b b' (z::r) p h pn hN hsc h3
   cases b with
   | true=>exact snd_and h i1 i2
   | false=>exact snd_or h i1 i2
  | _=>cases hc
theorem ck_T {k:Nat} (ih:CkAll W N k) (X:Cx) (n:Nat) (C:Cl) (Wx:WX) (H0:En) (sc:Scope) (a:Ev.T) (x:Expr) (h:Hyp W X n C Wx) (pn:Pn W X C H0) (hN:X.N=N) (hsc:X.env.scope=sc) (hc:chkT N W.T (k+1) sc a x=true):PT X x (rT W C Wx H0 a):=by
 have ie:=fun a x (z:chkE N W.T k sc a x=true)=>ih.E X n C Wx H0 sc a x h pn hN hsc z
 unfold chkT at hc
 split at hc
 ·exact sndT_not (ih.T X n C Wx H0 sc _ _ h pn hN hsc hc)
 ·obtain ⟨h1,h2⟩:=and2 hc
  exact (sndW_and (ih.T X n C Wx H0 sc _ _ h pn hN hsc h1) (ih.TB X n C Wx H0 sc true _ _ _ h pn hN hsc h2)).pt
 ·obtain ⟨h1,h2⟩:=and2 hc
  exact (sndW_or (ih.T X n C Wx H0 sc _ _ h pn hN hsc h1) (ih.TB X n C Wx H0 sc false _ _ _ h pn hN hsc h2)).pt
 ·obtain ⟨hc,h4⟩:=and2 hc
  obtain ⟨hc,h3⟩:=and2 hc
  obtain ⟨h1,h2⟩:=and2 hc
  cases of_decide_eq_true h1
  exact sndT_cmp h _ (ie _ _ h3) (ie _ _ h4) (by simpa using h2)
 ·obtain ⟨hc,h6⟩:=and2 hc
  obtain ⟨hc,h5⟩:=and2 hc
  obtain ⟨hc,h4⟩:=and2 hc
  obtain ⟨hc,h3⟩:=and2 hc
  obtain ⟨h1,h2⟩:=and2 hc
  cases of_decide_eq_true h1
  cases of_decide_eq_true h2
  exact sndT_chain h _ _ (ie _ _ h4) (ie _ _ h5) (ie _ _ h6) (by simpa using h3)
 ·obtain ⟨hc,h5⟩:=and2 hc
  obtain ⟨hc,h4⟩:=and2 hc
  obtain ⟨hc,h3⟩:=and2 hc
  obtain ⟨h1,h2⟩:=and2 hc
  obtain ⟨g1,g2⟩:=gl_ok hsc h3
  cases of_decide_eq_true h1
  cases of_decide_eq_true h2
  exact sndT_gin h g1 g2 (gdsOk_mem h4) (ie _ _ h5)
 ·exact sndT_val h (ie _ _ hc) fun _=>rfl
 ·exact sndT_val h (ie _ _ hc) fun _=>rfl
 ·exact sndT_val h (ie _ _ hc) fun _=>rfl
 ·exact sndT_val h (ie _ _ hc) fun _=>rfl
 ·exact sndT_val h (ie _ _ hc) fun _=>rfl
 ·exact sndT_val h (ie _ _ hc) fun _=>rfl
 ·exact sndT_val h (ie _ _ hc) fun _=>rfl
 ·cases hc
theorem ck_TB {k:Nat} (ih:CkAll W N k) (X:Cx) (n:Nat) (C:Cl) (Wx:WX) (H0:En) (sc:Scope) (b:Bool) (a:Ev.T) (xs:List Expr) (p:Pos) (h:Hyp W X n C Wx) (pn:Pn W X C H0) (hN:X.N=N) (hsc:X.env.scope=sc) (hc:chkTB N W.T (k+1) sc b a xs=true):PW X (.BoolOp (if b then .And else .Or) xs p) (rT W C Wx H0 a):=by
 match xs,hc with
 | [],hc=>cases hc
 | [y],hc=>exact sndW_one (ih.T X n C Wx H0 sc a y h pn hN hsc hc)
 | y::z::r,hc =>
  cases a with
  | bop k' a b' =>
   have hc:((k' == b)&&chkT N W.T k sc a y&&chkTB N W.T k sc b b' (z::r))=true:=hc
   obtain ⟨hc,h3⟩:=and2 hc
   obtain ⟨h1,h2⟩:=and2 hc
   cases beq_iff_eq.mp h1
   have i1:=ih.T X n C Wx H0 sc a y h pn hN hsc h2
   have i2:=ih.TB X n C Wx H0 sc b b' (z::r) p h pn hN hsc h3
   cases b with
   | true=>exact sndW_and i1 i2
   | false=>exact sndW_or i1 i2
  | _=>cases hc
theorem ck_all:∀ k,CkAll W N k:=by
 intro k
 induction k with
 | zero=>exact ⟨by intros; contradiction,by intros; contradiction,by intros; contradiction,by intros; contradiction,by intros; contradiction,by intros; contradiction,by intros; contradiction,by intros; contradiction,by intros; contradiction,by intros; contradiction,by intros; contradiction,by intros; contradiction⟩
 | succ k ih =>
  refine ⟨ck_E ih,ck_B ih,ck_T ih,ck_TB ih,fun X n C Wx H0 sc as xs h pn hN hsc hc=>?_,fun X n C Wx H0 sc as xs h pn hN hsc hc=>?_,ck_Kw ih,fun X n C Wx H0 sc as xs h pn hN hsc hc=>?_,fun X n C Wx H0 sc o x h pn hN hsc hc=>?_,fun X n C Wx H0 sc o xs h pn hN hsc hc=>?_,ck_D ih,fun X n C Wx H0 sc brw tg it x h pn hN hsc hc=>?_⟩
  ·unfold chkEs at hc
   split at hc
   ·exact snd_nil
   ·obtain ⟨h1,h2⟩:=and2 hc
    exact snd_star h (ih.E X n C Wx H0 sc _ _ h pn hN hsc h1) (ih.Es X n C Wx H0 sc _ _ h pn hN hsc h2)
   ·obtain ⟨hc,h3⟩:=and2 hc
    obtain ⟨h1,h2⟩:=and2 hc
    exact snd_cons h1 (ih.E X n C Wx H0 sc _ _ h pn hN hsc h2) (ih.Es X n C Wx H0 sc _ _ h pn hN hsc h3)
   ·cases hc
  ·unfold chkKs at hc
   split at hc
   ·exact snd_knil
   ·obtain ⟨h1,h2⟩:=and2 hc
    exact snd_kcons (ih.E X n C Wx H0 sc _ _ h pn hN hsc h1) (ih.Ks X n C Wx H0 sc _ _ h pn hN hsc h2)
   ·cases hc
  ·unfold chkFs at hc
   split at hc
   ·exact .nil
   ·obtain ⟨h1,h2⟩:=and2 hc
    exact .cons (pe_fmt (ih.E X n C Wx H0 sc _ _ h pn hN hsc h1)) (ih.Fs X n C Wx H0 sc _ _ h pn hN hsc h2)
   ·obtain ⟨h1,h2⟩:=and2 hc
    exact .cons (ih.E X n C Wx H0 sc _ _ h pn hN hsc h1) (ih.Fs X n C Wx H0 sc _ _ h pn hN hsc h2)
   ·cases hc
  ·unfold chkO at hc
   split at hc
   ·exact snd_onone
   ·exact snd_osome (ih.E X n C Wx H0 sc _ _ h pn hN hsc hc)
   ·cases hc
  ·unfold chkTo at hc
   split at hc
   ·exact snd_tnone
   ·exact snd_tsome (ih.T X n C Wx H0 sc _ _ h pn hN hsc hc)
   ·cases hc
  ·unfold chkIt at hc
   split at hc
   ·obtain ⟨hc,h5⟩:=and2 hc
    obtain ⟨hc,h4⟩:=and2 hc
    obtain ⟨hc,h3⟩:=and2 hc
    obtain ⟨h1,h2⟩:=and2 hc
    obtain ⟨g1,g2⟩:=gl_ok hsc h2
    obtain ⟨es,kk,tp,et⟩:=isTup_eq h1
    exact snd_enum h et (of_decide_eq_true h3) g1 h4 (ih.E X n C Wx H0 sc _ _ h pn hN hsc h5)
   ·exact snd_sq h (ih.E X n C Wx H0 sc _ _ h pn hN hsc hc)
   ·cases hc
end
end Ev
set_option maxRecDepth 100000
set_option maxHeartbeats 2000000
namespace EvW
open PySem PySem.Spec PyProof.Rows L2 EvH PySem.W PySem.Calls
section
variable {prog:Program} {w:World} {A:Around} {E:Value→Shared→Prop} {s:Shared}
end
section
variable {X:Cx} {pos:Pos}
end
end EvW
namespace Ev
open PySem PySem.Spec PyProof.Rows L2
section
variable {W:Wd} {X:Cx} {n:Nat} {C:Cl} {Wx:WX} {H0:En} {e0:Em} {pins:List (Addr×Obj)} {σ:L2.St} {H H1:Hp} {s:Shared} {e e1:Em} {μ:Mu} {a b c:Expr} {A B D':E} {pos p:Pos} {es:List Expr} {ys:Es}
end
end Ev
set_option maxRecDepth 100000
set_option maxHeartbeats 2000000
namespace Ev
open PySem PySem.Spec PyProof.Rows L2 EvH
inductive Caps:List Pattern→List Str→Prop where
 | nil:Caps [] []
 | cons {x:Str} {p:Pos} {ps:List Pattern} {xs:List Str} (h:Caps ps xs):Caps (.MatchAs none (some x) p::ps) (x::xs)
theorem Caps.length {ps:List Pattern} {xs:List Str} (h:Caps ps xs):ps.length=xs.length:=by
 induction h with
 | nil=>rfl
 | cons _ ih=>simp [ih]
theorem Caps.noStar {ps:List Pattern} {xs:List Str} (h:Caps ps xs):∀ p∈ps,p.isStar=false:=by
 induction h with
 | nil=>intro p hp; cases hp
 | cons _ ih =>
  intro p hp
  rcases List.mem_cons.mp hp with rfl | hp
  ·rfl
  ·exact ih p hp
theorem each_caps {M:Model} {A:Around} {E:Value→Shared→Prop} {s:Shared} {env:Env} {ps:List Pattern} {xs:List Str} (h:Caps ps xs):∀ {us:List Value} {Q:Option (List (Str×Value))→Shared→Prop},us.length=xs.length→Q (some (xs.zip us)) s→wpAny M A (matchEach ps env us) Q E s:=by
 induction h with
 | nil =>
  intro us Q hl q
  cases us with
  | nil=>exact PySem.wpAny_matchEach_nil q
  | cons _ _=>simp at hl
 | cons h ih =>
  intro us Q hl q
  cases us with
  | nil=>simp at hl
  | cons u us =>
   refine PySem.wpAny_matchEach_cons (PySem.wpAny_matchPattern_Capture (ih (by simpa using hl) ?_)) rfl
   exact q
def setsV:List Nat→List V→L2.St→L2.St
 | i::is,v::vs,σ=>setsV is vs (σ.set i (some v))
 | _,_,σ=>σ
inductive Slots (X:Cx):List Nat→List Str→Prop where
 | nil:Slots X [] []
 | cons {i:Nat} {x:Str} {is:List Nat} {xs:List Str} (hi:X.N[i]?=some x) (hx:Loc X.env.scope x) (hf:X.fn x=true∨X.env.scope.names.lookup x=some .local) (h:Slots X is xs):Slots X (i::is) (x::xs)
theorem bind_caps {X:Cx} {pins:List (Addr×Obj)} {M:Model} {A:Around} {E:Value→Shared→Prop} (hN:X.N.Nodup) {is:List Nat} {xs:List Str} (h:Slots X is xs):∀ {us:List Value} {vs:List V} {σ:L2.St} {H:Hp} {s:Shared} {Q:Unit→Shared→Prop},Inv X pins σ H s→Vals vs us→us.length=xs.length→(∀ s',Inv X pins (setsV is vs σ) H s'→Q () s') →
  wpAny M A (assignInOrder ((xs.zip us).map fun (n,_)=>bindName X.env n) ((xs.zip us).map (·.2))) Q E s:=by
 induction h with
 | nil =>
  intro us vs σ H s Q I r hl q
  refine PySem.wpAny_assignInOrder_none (q s ?_)
  cases r <;> exact I
 | cons hi hx hf h ih =>
  intro us vs σ H s Q I r hl q
  cases r with
  | nil=>simp at hl
  | cons r1 r =>
   refine PySem.wpAny_assignInOrder_more (PySem.wpAny_bindName (store_ok I hN hi hx r1 (fun s2 I2=>?_) hf))
   exact ih I2 r (by simpa using hl) q
structure PMs (X:Cx) (cs:List MatchCase) (t:Addr→TS):Prop where
 run:∀ (pins:List (Addr×Obj)) (s:Shared) (σ:L2.St) (H:Hp) (D:Ends) (q:Addr) (first:Bool),Inv X pins σ H s→t q D σ H→wpAny (model X.prog X.w) X.A (matchCases cs X.env (.ref q) first) (SP X pins D) X.xe s
def rMs (W:Wd) (C:Cl) (Wx:WX) (e0:Em) (H0:En) (cs:Ss):Addr→TS:=fun q D σ H=>∃ e μ σd xs vs,Ex e0 H0.h e H∧St0 W e μ H∧Lo W e H0 σd σ H∧SqL W.K H q vs∧RepL W e xs vs∧xs.length≤1000∧AftS W e0 H0 e (exMs C xs cs σd μ) D Wx
section
variable {W:Wd} {X:Cx} {n:Nat} {C:Cl} {Wx:WX} {H0:En} {e0:Em} {pins:List (Addr×Obj)} {σ:L2.St} {H H1:Hp} {s:Shared} {e e1:Em} {μ:Mu} {a b c:Expr} {A B D':E} {pos p:Pos} {es:List Expr} {ys:Es}
theorem Lo.sets:∀ {is:List Nat} {ds:List D} {vs:List V} {σd:Sg} {σ:L2.St},Lo W e H0 σd σ H→RepL W e ds vs→Lo W e H0 (setsN is ds σd) (setsV is vs σ) H
 | [],ds,vs,σd,σ,l,r=>by
  cases ds <;> cases vs <;> exact l
 | i::is,[],vs,σd,σ,l,r=>by
  cases (show vs=[] from r)
  exact l
 | i::is,d::ds,vs,σd,σ,l,r=>by
  obtain ⟨v,ws,rfl,r1,r2⟩:=r
  show Lo W e H0 (setsN is ds (σd.set i (some (.val d)))) (setsV is ws (σ.set i (some v))) H
  exact Lo.sets (l.set i r1) r2
theorem snd_ms_nil:PMs X [] (rMs W C Wx e0 H0 .nil):=⟨fun pins s σ H D q first I ⟨e,μ,σd,xs,vs,x,st,lo,_,_,_,z⟩=>PySem.wpAny_matchCases_nil ⟨σ,H,I,z.nxt x st lo⟩⟩
theorem snd_ms_any {body:List Stmt} {more:List MatchCase} {bs cs:Ss} (hb:PSs X body (rSs W C Wx e0 H0 bs)):PMs X (⟨.MatchAs none none p,none,body⟩::more) (rMs W C Wx e0 H0 (.cons (.mdf bs) cs)):=by
 refine ⟨fun pins s σ H D q first I ⟨e,μ,σd,xs,vs,x,st,lo,hq,hr,hn,z⟩=>PySem.wpAny_matchCases_cons (PySem.wpAny_matchPattern_Capture (PySem.wpAny_assignInOrder_none ?_))⟩
 have z:AftS W e0 H0 e (exSs C bs σd μ) D Wx:=z
 exact hb.run pins s σ H D I ⟨e,μ,σd,x,st,lo,z⟩
theorem snd_ms_case (h:Hyp W X n C Wx) {key:Str} {kk:_} {p1 p2 p3:Pos} {ps:List Pattern} {xs:List Str} {ns:List Nat} {body:List Stmt} {more:List MatchCase} {bs cs:Ss} (hp:Caps ps xs) (hs:Slots X ns xs) (hb:PSs X body (rSs W C Wx e0 H0 bs)) (hm:PMs X more (rMs W C Wx e0 H0 cs)) :
  PMs X (⟨.MatchSequence (.MatchValue (.Constant (.str key) kk p1) p2::ps) p3,none,body⟩::more) (rMs W C Wx e0 H0 (.cons (.mcs key ns bs) cs)):=by
 have hln:ns.length=xs.length:=by
  clear hp
  induction hs with
  | nil=>rfl
  | cons _ _ _ _ ih=>simp [ih]
 have hlp:=hp.length
 have hstar:(Pattern.MatchValue (.Constant (.str key) kk p1) p2::ps).findIdx? (·.isStar)=none:=by
  rw [List.findIdx?_eq_none_iff]
  intro p hm
  rcases List.mem_cons.mp hm with rfl | hm
  ·rfl
  ·exact hp.noStar p hm
 have hwild:((Pattern.MatchValue (.Constant (.str key) kk p1) p2::ps).all fun p=>p.isWildcard || (p.isStar&&p.names.isEmpty))=false:=rfl
 refine ⟨fun pins s σ H D q first I ⟨e,μ,σd,ds,vs,x,st,lo,hq,hr,hn,z⟩=>PySem.wpAny_matchCases_cons ?_⟩
 have hq':SqL X.K H q vs:=by rw [h.K]; exact hq
 obtain ⟨its,rv,pl,hz⟩:=I.list hq'
 have l1:=rv.length
 have l2:=hr.length
 have hfit:(its.toArray.size:Int) < 2^63:=by
  have:its.toArray.size=its.length:=by simp
  omega
 have z:AftS W e0 H0 e (match mcsAt key ns ds σd with
  | .some (.some σ')=>exSs C bs σ' μ
  | .some .none=>exMs C ds cs σd μ
  | .none => .stuck) D Wx:=z
 have next:∀ s' first',Inv X pins σ H s'→mcsAt key ns ds σd=some none→wpAny (model X.prog X.w) X.A (matchCases more X.env (.ref q) first') (SP X pins D) X.xe s':=fun s' first' I' em=>by
  rw [em] at z
  exact hm.run pins s' σ H D q first' I' ⟨e,μ,σd,ds,vs,x,st,lo,hq,hr,hn,z⟩
 by_cases hl:ds.length=ns.length+1
 ·refine matchSeq_list_hit pl.isList hfit (by simp; omega) ?_ hstar hwild
  have hsz:(Pattern.MatchValue (.Constant (.str key) kk p1) p2::ps).length=its.toArray.size:=by simp; omega
  rw [hsz]
  have hw:WarmAt X.A s.heap:=h.warmW.at_ I
  refine unpack_list_warm (s:={ s with toks:=s.toks+1+1 }) hw pl.isList fun h' k=>?_
  have I':Inv X pins σ H { s with heap:=h',toks:=s.toks+1+1 }:=I.kept fun b o e=>k b o (Nat.ne_of_lt (Heap.lt_size e)) e
  match ds,vs,hr,l2,hl,z,next with
  | [],_,_,_,hl,_,_=>simp at hl
  | d::ds,vs,hr,l2,hl,z,next =>
  obtain ⟨v,ws,rfl,r1,r2⟩:=hr
  cases rv with
  | cons u1 us =>
  rename_i u its
  have mc:mcsAt key ns (d::ds) σd=match d with
   | .str w=>some (if w=key then some (setsN ns ds σd) else none)
   | _=>none:=by
   unfold mcsAt
   rw [if_pos hl]
   cases d <;> rfl
  rw [mc] at z
  cases d with
  | str w =>
   cases (show v = .str w from r1)
   refine PySem.wpAny_matchEach_cons (PySem.wpAny_matchPattern_Value ?_) rfl
   refine thn (pe_str.run pins _ σ H (fun y H1=>y = .str key∧H1=H) I' ⟨rfl,rfl⟩) fun c s2 ⟨y,H1,I2,ry,e1,e2⟩=>?_
   subst e1 e2
   refine thn (op_eq pins s2 σ H1 (.str w) (.str key) u c (fun y H2=>(∃ b:Bool,y = .bl b∧(b=true↔w=key))∧H2=H1) I2 u1 ry ⟨rfl,⟨_,rfl,by simp⟩,rfl⟩) fun t s3 ⟨y,H2,I3,rt,⟨b,e1,eb⟩,e2⟩=>?_
   subst e1 e2
   cases rt
   refine wpAny_truthy_bool ?_
   cases b with
   | true =>
    have hk:=eb.mp rfl
    simp only [if_true]
    have z:AftS W e0 H0 e (match (some (if w=key then some (setsN ns ds σd) else none):Option (Option Sg)) with
     | .some (.some σ')=>exSs C bs σ' μ
     | .some .none=>exMs C (.str w::ds) cs σd μ
     | .none => .stuck) D Wx:=z
    rw [if_pos hk] at z
    have hul:its.length=xs.length:=by simp at l1 l2 hl; omega
    refine each_caps hp hul ?_
    show wpAny _ _ (assignInOrder ((xs.zip its).map fun (n,_)=>bindName X.env n) ((xs.zip its).map (·.2))) _ _ _
    exact bind_caps h.nd hs I3 us hul fun s4 I4=>hb.run pins s4 _ H2 D I4 ⟨e,μ,_,x,st,Lo.sets lo r2,z⟩
   | false =>
    have hk:¬ w=key:=fun z=>Bool.false_ne_true (eb.mpr z)
    simp only [Bool.false_eq_true,if_false]
    exact next s3 false I3 (by rw [mc]; simp [hk])
  | _=>exact z.elim
 ·refine matchSeq_list_miss pl.isList hfit (by simp; omega) ?_ hstar hwild
  exact next _ false (I.tok _) (by unfold mcsAt; rw [if_neg hl])
end
end Ev
set_option maxRecDepth 100000
set_option maxHeartbeats 2000000
namespace Ev
open PySem PySem.Spec PyProof.Rows L2
section
variable {W:Wd} {X:Cx} {n:Nat} {C:Cl} {Wx:WX} {H0:En} {e0:Em} {pos bp:Pos} {a b:Expr} {A B:E}
theorem pe_addO (h:Hyp W X n C Wx) (ha:PE X a (rE W C Wx H0 A)) (hb:PE X b (rE W C Wx H0 B)):PE X (.BinOp a .Add b bp) (fun σ H Q=>∃ e μ σd,St0 W e μ H∧Lo W e H0 σd σ H ∧
  Aft W e H ((evE C A σd μ).bind fun x m=>(evE C B σd m).bind fun y m=>addL2 x y m) (fun d _ e' H'=>∃ zs,d=D.lst zs∧∀ p0 vs,H' p0=none→RepL W e' zs vs→Q (.ref p0) (upd H' p0 (HO.lst vs))) (xkA Wx σ)):=by
 refine ⟨fun pins s σ H Q I ⟨e,μ,σd,st,lo,q⟩=>?_⟩
 refine wpAny_BinOp (bin ha hb (R:=fun x y H2=>∃ e2 μ2 dx dy,St0 W e2 μ2 H2∧RepH W e2 H2 dx x∧RepH W e2 H2 dy y∧Aft W e2 H2 (addL2 dx dy μ2) (fun d _ e' H'=>∃ zs,d=D.lst zs∧∀ p0 vs,H' p0=none→RepL W e' zs vs→Q (.ref p0) (upd H' p0 (HO.lst vs))) (xkA Wx σ)) I
  (rE.at st lo (Aft.bind q) fun d m e' H' v _ st' lo' r hv=>rE.at st' lo' (Aft.bind r) fun d2 m2 e2 H2 v2 x2 st2 lo2 r2 hv2=>⟨e2,m2,d,d2,st2,hv.ex x2,hv2,r2⟩)
  fun v u s2 x y H2 I2 rx ry ⟨e2,μ2,dx,dy,st2,h1,h2,q2⟩=>?_)
 cases dx with
 | lst xs =>
  cases dy with
  | lst ys =>
   have q2:Aft W e2 H2 (if xs.length+ys.length≤LINE then Res.ok (D.lst (xs++ys)) μ2 else .stuck) (fun d _ e' H'=>∃ zs,d=D.lst zs∧∀ p0 vs,H' p0=none→RepL W e' zs vs→Q (.ref p0) (upd H' p0 (HO.lst vs))) (xkA Wx σ):=q2
   by_cases z:xs.length+ys.length≤LINE
   ·rw [if_pos z] at q2
    obtain ⟨a,vs,rfl,sa,ra⟩:=(RepH.of (show nbD (D.lst xs)=true from rfl) h1:Rep W e2 (D.lst xs) _)
    obtain ⟨b,ws,rfl,sb,rb⟩:=(RepH.of (show nbD (D.lst ys)=true from rfl) h2:Rep W e2 (D.lst ys) _)
    cases rx
    cases ry
    obtain ⟨its,m1,g1,r1,_⟩:=sq_exact h I2 st2 sa
    obtain ⟨its2,m2,g2,r2,_⟩:=sq_exact h I2 st2 sb
    have z:xs.length+ys.length≤16777216:=z
    have l1:=ra.length
    have l2:=rb.length
    have k1:=r1.length
    have k2:=r2.length
    refine PySem.P.add_list g1 g2 ?_ (by rw [List.size_toArray,List.size_toArray,sizeLine_eq]; omega)
    have hf:H2 s2.heap.objs.size=none:=I2.hok.fresh (Nat.le_refl _)
    have ea:its.toArray++its2.toArray=(its++its2).toArray:=by simp
    rw [ea]
    obtain ⟨zs,ez,k⟩:=q2.now st2
    cases ez
    refine ⟨.ref _,_,I2.laid (t':=s2.toks) (o:=.lst (vs++ws)) (fun b u z=>Heap.get?_push_of_some _ z) (Nat.le_refl _) ?_,rfl,k _ _ hf (ra.append rb)⟩
    exact ⟨by rw [List.length_append,sizeLine_eq]; omega,_,0,r1.append r2,Heap.get?_push_size _ rfl⟩
   ·rw [if_neg z] at q2; exact q2.elim
  | _=>exact q2.elim
 | _=>exact q2.elim
theorem snd_owna (h:Hyp W X n C Wx) {i:Nat} {y:Str} {py:Pos} (hy:X.N[i]?=some y) (hyl:Loc X.env.scope y) (hyf:X.fn y=true∨X.env.scope.names.lookup y=some .local) (ha:PE X a (rE W C Wx H0 A)) (hb:PE X b (rE W C Wx H0 B)) :
  PS X (.Assign [.Name y py] (.BinOp a .Add b bp) pos) (rS W C Wx e0 H0 (.owna i A B)):=by
 refine ⟨fun pins s σ H D I ⟨e,μ,σd,x0,st,lo,q⟩=>?_⟩
 refine (ps_set h.nd hy hyl (pe_addO h ha hb) (by rfl) hyf).run pins s σ H D I ?_
 have q:AftS W e0 H0 e (((evE C A σd μ).bind fun x m=>(evE C B σd m).bind fun y m=>addL2 x y m).st σd fun d m=>match d with | .lst vs => .nx (σd.set i (some (.own vs))) m | _ => .stuck) D Wx:=q
 refine ⟨e,μ,σd,st,lo,(AftS.of_st x0 lo q).imp fun d m e' H' x' st' r=>?_⟩
 cases d with
 | lst zs =>
  refine ⟨zs,rfl,fun p0 vs hp0 rv=>?_⟩
  have r:AftS W e0 H0 e' (.nx (σd.set i (some (.own zs))) m) D Wx:=r
  have lo':=lo.ex x'
  have hG:e'.G p0=none:=by
   cases z:e'.G p0 with
   | none=>rfl
   | some u=>rw [st'.sub p0 u z] at hp0; cases hp0
  have hr:∀ j,e'.r j≠some p0:=fun j z=>by
   obtain ⟨u,hu⟩:=st'.rH z
   rw [hp0] at hu; cases hu
  obtain ⟨x1,st1⟩:=st'.grown (H1:=upd H' p0 (.lst vs)) fun b u z=>by rw [upd_ne (ne_of_none z hp0)]; exact z
  have h0:H0.h p0=none:=none_back x0.dom (none_back x'.dom hp0)
  exact r e' _ _ ((x0.trans x').trans x1) (Gr.refl e') st1 ((lo'.ex x1).take rfl (fun j l hj hp=>lo'.fresh hp0 j l hj hp) ⟨p0,vs,rfl,upd_same,rv,hG,hr,h0⟩)
 | _=>exact r.elim
end
end Ev
set_option maxRecDepth 100000
set_option maxHeartbeats 4000000
namespace Ev
open PySem PySem.Spec PyProof.Rows L2
def isStar:Expr→Bool
 | .Starred _ _=>true
 | _=>false
theorem sw_par {x y:Str} {px py pt pt2:Pos} {kt k2:Nat} {u v:Expr} {env:Env} (hk:env.scope.kind = .function) (hx:env.scope.names.lookup x=some .local) (hy:env.scope.names.lookup y=some .local) (hl:(py.line == px.line)=true) (hne:x≠y)
  (hu:noStar u=true) (hv:noStar v=true) (hf:[u,v].all (foldedForSure 8)=false) (hc:[u,v].all (constantsAlone 8)=false) :
  swappedStores [.Tuple [.Name x px,.Name y py] kt pt] (.Tuple [u,v] k2 pt2) env=pure (some [x,y]):=by
 have hs:([u,v].any fun | .Starred .. => true | _=>false)=false:=by
  have st:∀ z:Expr,noStar z=true→isStar z=false:=fun z hz=>by cases z <;> first | rfl | exact absurd hz (by simp [noStar])
  show (isStar u || (isStar v || false))=false
  rw [st u hu,st v hv]; rfl
 have hb:env.blockKind = .function:=by unfold Env.blockKind; rw [hk]; rfl
 have h1:env.kindOf x=some .local:=hx
 have h2:env.kindOf y=some .local:=hy
 have hl':py.line=px.line:=by simpa using hl
 have he:([x,y]:List Str).eraseDups=[x,y]:=by
  simp [List.eraseDups_cons,hne,Ne.symm hne]
 unfold swappedStores
 dsimp only
 rw [hb,if_neg (by simp)]
 refine Eq.trans (if_neg (fun z=>Bool.false_ne_true (hs.symm.trans z))) ?_
 simp only [List.filterMap_cons,List.filterMap_nil,h1,h2,List.head?_cons,Option.map_some,Option.getD_some,Expr.pos,hl',hf,hc]
 simp [he]
theorem sw_par3 {x y z:Str} {px py pz pt pt2:Pos} {kt k2:Nat} {u v w:Expr} {env:Env} (hk:env.scope.kind = .function) (hx:env.scope.names.lookup x=some .local) (hy:env.scope.names.lookup y=some .local) (hz:env.scope.names.lookup z=some .local) (hl:(py.line == px.line)=true) (hl2:(pz.line == px.line)=true) (hxy:x≠y) (hxz:x≠z) (hyz:y≠z)
  (hu:noStar u=true) (hv:noStar v=true) (hw:noStar w=true) (hf:[u,v,w].all (foldedForSure 8)=false) (hc:[u,v,w].all (constantsAlone 8)=false) :
  swappedStores [.Tuple [.Name x px,.Name y py,.Name z pz] kt pt] (.Tuple [u,v,w] k2 pt2) env=pure (some [x,y,z]):=by
 have hs:([u,v,w].any fun | .Starred .. => true | _=>false)=false:=by
  have st:∀ z:Expr,noStar z=true→isStar z=false:=fun z hz=>by cases z <;> first | rfl | exact absurd hz (by simp [noStar])
  show (isStar u || (isStar v || (isStar w || false)))=false
  rw [st u hu,st v hv,st w hw]; rfl
 have hb:env.blockKind = .function:=by unfold Env.blockKind; rw [hk]; rfl
 have h1:env.kindOf x=some .local:=hx
 have h2:env.kindOf y=some .local:=hy
 have h3:env.kindOf z=some .local:=hz
 have hl':py.line=px.line:=by simpa using hl
 have hl2':pz.line=px.line:=by simpa using hl2
 have he:([x,y,z]:List Str).eraseDups=[x,y,z]:=by
  simp [List.eraseDups_cons,hxy,hxz,hyz,Ne.symm hxy,Ne.symm hxz,Ne.symm hyz]
 unfold swappedStores
 dsimp only
 rw [hb,if_neg (by simp)]
 refine Eq.trans (if_neg (fun z=>Bool.false_ne_true (hs.symm.trans z))) ?_
 simp only [List.filterMap_cons,List.filterMap_nil,h1,h2,h3,List.head?_cons,Option.map_some,Option.getD_some,Expr.pos,hl',hl2',hf,hc]
 simp [he]
theorem sw_ok {tg x:Expr} {l:Nat} {env:Env} (h:swB tg x=true):swapsWithSole [tg] x l env=pure false:=by
 unfold swB at h
 cases x <;> first | rfl | (cases tg <;> first | rfl | cases h)
theorem sws_ok {es:List Expr} {k:Nat} {p:Pos} {z:Expr} (h:swsB z=true):swB (.Tuple es k p) z=true∧swpB (.Tuple es k p) z=true:=by
 cases z <;> first | exact ⟨rfl,rfl⟩ | cases h
theorem swp_ok {tg x:Expr} {env:Env} (h:swpB tg x=true):swappedStores [tg] x env=pure none:=by
 cases tg <;> first | rfl | (cases x <;> first | rfl | cases h | skip)
 rename_i ts _ _ vs _ _
 have h:3 < ts.length:=of_decide_eq_true h
 unfold swappedStores
 dsimp only
 rw [if_pos]
 have h2:(ts.length == 2 || ts.length == 3)=false:=by
  rw [Bool.or_eq_false_iff]
  exact ⟨by simp; omega,by simp; omega⟩
 rw [h2]; rfl
theorem fm_short {α β:Type} {f:α→Option β}:∀ {ts:List α} {t:α},t∈ts→f t=none→(ts.filterMap f).length < ts.length
 | a::ts,t,h,e=>by
  rcases List.mem_cons.mp h with rfl | h
  ·rw [List.filterMap_cons_none e]
   exact Nat.lt_succ_of_le (List.length_filterMap_le _ _)
  ·have:=fm_short h e
   cases q:f a with
   | none=>rw [List.filterMap_cons_none q]; exact Nat.lt_succ_of_lt this
   | some b=>rw [List.filterMap_cons_some q]; exact Nat.succ_lt_succ this
theorem swc_ok {tg x:Expr} {env:Env} (h:swcB env.scope tg x=true):swappedStores [tg] x env=pure none:=by
 cases tg <;> first | cases h | skip
 rename_i ts _ _
 cases x <;> first | cases h | skip
 rename_i vs _ _
 obtain ⟨t,ht,h⟩:=List.any_eq_true.mp h
 unfold swappedStores
 dsimp only
 split
 ·rfl
 ·split
  ·rfl
  ·rw [if_pos]
   rw [Bool.or_eq_true]
   left
   have:(ts.filterMap fun t=>match t with
    | .Name id pos=>if env.kindOf id == some .local&&pos.line == (ts.head?.map (·.pos.line)).getD 0 then some id else none
    | _=>none).length < ts.length:=fm_short ht (by
     cases t <;> first | rfl | skip
     rename_i y p
     have h:env.scope.names.lookup y=some .cell:=of_decide_eq_true (show isCell env.scope (.Name y p)=true from h)
     have e:(env.kindOf y == some .local)=false:=by unfold Env.kindOf; rw [h]; rfl
     simp [e])
   exact bne_iff_ne.mpr (Nat.ne_of_lt this)
theorem mgr_ok {T:Tb} {c:Nat} (h:mgrB T c=true):∃ ci f g,T.cls[c]?=some ci∧ci.isexc=false∧ci.meths.lookup 20=some f∧ci.meths.lookup 21=some g:=by
 unfold mgrB at h
 cases hc:T.cls[c]? with
 | none=>rw [hc] at h; cases h
 | some ci =>
  rw [hc] at h
  simp only [Bool.and_eq_true,Bool.not_eq_true',Option.isSome_iff_exists] at h
  obtain ⟨⟨h1,f,h2⟩,g,h3⟩:=h
  exact ⟨ci,f,g,rfl,h1,h2,h3⟩
structure CkSt (W:Wd) (N:List Str) (k:Nat):Prop where
 S:∀ (X:Cx) (n:Nat) (C:Cl) (Wx:WX) (e0:Em) (H0:En) (sc:Scope) (a:S) (x:Stmt),Hyp W X n C Wx→Pn W X C H0→X.N=N→X.env.scope=sc→Fl X→chkS N W.T k sc a x=true→PS X x (rS W C Wx e0 H0 a)
 Ss:∀ (X:Cx) (n:Nat) (C:Cl) (Wx:WX) (e0:Em) (H0:En) (sc:Scope) (a:Ss) (x:List Stmt),Hyp W X n C Wx→Pn W X C H0→X.N=N→X.env.scope=sc→Fl X→chkSs N W.T k sc a x=true→PSs X x (rSs W C Wx e0 H0 a)
 M:∀ (X:Cx) (n:Nat) (C:Cl) (Wx:WX) (e0:Em) (H0:En) (sc:Scope) (cs:Ev.Ss) (xs:List MatchCase),Hyp W X n C Wx→Pn W X C H0→X.N=N→X.env.scope=sc→Fl X→chkM N W.T k sc cs xs=true→PMs X xs (rMs W C Wx e0 H0 cs)
 Hs:∀ (X:Cx) (n:Nat) (C:Cl) (Wx:WX) (e0:Em) (H0:En) (sc:Scope) (hs:Hs) (x:List ExceptHandler),Hyp W X n C Wx→X.N=N→X.env.scope=sc→Fl X→chkHs N W.T k sc hs x=true →
  EvW.HdsX X x (clauses W C e0 H0 hs)∧∀ c',c'∈hsCls hs→∃ i',W.T.cls[c']?=some i'∧i'.isexc=true
section
variable {W:Wd} {N:List Str}
theorem not_of {b:Bool} (h:(!b)=true):b=false:=by cases b <;> first | rfl | cases h
theorem att_sw {o:Expr} {f:Str} {p:Pos} {x:Expr} {l:Nat} {env:Env} (h:notComp x=true):swapsWith x (some (.Attribute o f p)) l env=pure false:=by cases x <;> first | rfl | cases h
theorem exp_sw {x:Expr} {l:Nat} {env:Env} (h:notComp x=true):swapsWith x none l env=pure false:=by cases x <;> first | rfl | cases h
theorem lc_hyps {X:Cx} {n:Nat} {C:Cl} {Wx:WX} {H0:En} {sc scope:Scope} {k:Nat} {a:E} {t:Tg} {it:Ev.It} {cond:To} {vs:List Nat} {elt tg iter:Expr} {ifs:List Expr} (h:Hyp W X n C Wx) (pn:Pn W X C H0) (hN:X.N=N) (hsc:X.env.scope=sc) (hc:chkLc N W.T k sc a t it cond vs elt tg iter ifs scope=true) :
  EvW.PIW X tg iter (rI W C Wx H0 true it)∧BlkOk X.N X.env.scope scope (vs.map fun v=>(N.getD v "",v))∧tgIn vs t=true ∧
  (∀ (s:Shared) (H:Hp) (C':Addr) (cl:List (Str×Addr)) (fp:List Addr),PG (EvW.blkW X s H scope (compEnvC scope cl C' X.env) fp) tg (rG W H0 t))∧(∀ (s:Shared) (H:Hp) (C':Addr) (cl:List (Str×Addr)) (fp:List Addr),PTs (EvW.blkW X s H scope (compEnvC scope cl C' X.env) fp) ifs (rTo W C Wf H0 cond)) ∧
  (∀ (s:Shared) (H:Hp) (C':Addr) (cl:List (Str×Addr)) (fp:List Addr),PE (EvW.blkW X s H scope (compEnvC scope cl C' X.env) fp) elt (rE W C Wf H0 a))∧∀ x,foldedSetIterable iter X.env x=pure x:=by
 unfold chkLc at hc
 obtain ⟨hc,h7⟩:=and2 hc
 obtain ⟨hc,h6⟩:=and2 hc
 obtain ⟨hc,h5⟩:=and2 hc
 obtain ⟨hc,h4⟩:=and2 hc
 obtain ⟨hc,h3⟩:=and2 hc
 obtain ⟨h1,h2⟩:=and2 hc
 have al:=ck_all (W:=W) (N:=N) k
 refine ⟨al.I X n C Wx H0 sc true _ _ _ h pn hN hsc h1,by rw [hN,hsc]; exact blkOk_by h3,h4,fun s2 H2 C2 cl fp=>?_,fun s2 H2 C2 cl fp=>?_,fun s2 H2 C2 cl fp=>?_,foldB h2⟩
 ·exact (chk_tgG (fl:=true) (sc:=scope) (h.blk s2 H2 scope _ fp) (fun i y z=>blk_st hN z) k).1 _ _ h5
 ·exact al.To _ n C Wf H0 (relS scope sc) _ _ (h.blk s2 H2 scope _ fp) (pn.blk s2 H2 scope _ fp) hN (by rw [← hsc]; rfl) h6
 ·exact al.E _ n C Wf H0 (relS scope sc) _ _ (h.blk s2 H2 scope _ fp) (pn.blk s2 H2 scope _ fp) hN (by rw [← hsc]; rfl) h7
theorem loc_of {sc:Scope} {y:Str} (h:locB true (sc.names.lookup y)=true):Loc sc y:=by
 unfold locB at h
 split at h
 ·rename_i e; exact .inl e
 ·rename_i e; exact .inr e
 ·cases h
theorem loc_fn {X:Cx} (f:Fl X) {y:Str} (h:Loc X.env.scope y):X.fn y=true∨X.env.scope.names.lookup y=some .local:=by
 rcases h with h | h
 ·exact .inr h
 ·rcases f.fn y with z | z
  ·exact .inl z
  ·exact absurd h z
theorem sw_cell {elt:Expr} {gs:List Comprehension} {scope:Scope} {pos py:Pos} {y:Str} {l:Nat} {env:Env} (h:env.scope.names.lookup y=some .cell):swapsWithSole [.Name y py] (.ListComp elt gs scope pos) l env=pure false:=by
 have ky:env.kindOf y=some .cell:=h
 unfold swapsWithSole swapsWith
 simp only [ky]
 cases env.blockKind == .function <;> rfl
theorem nm_hyps {X:Cx} {sc scope:Scope} {i:Nat} {y:Str} {py pos:Pos} {elt:Expr} {gs:List Comprehension} {l:Nat} (hN:X.N=N) (hsc:X.env.scope=sc) (hc:chkNm N sc scope i y py pos=true) :
  X.N[i]?=some y∧X.env.scope.names.lookup y=some .local∧swapsWith (.ListComp elt gs scope pos) (some (.Name y py)) l X.env=pure true:=by
 unfold chkNm at hc
 obtain ⟨hc,h5⟩:=and2 hc
 obtain ⟨hc,h4⟩:=and2 hc
 obtain ⟨hc,h3⟩:=and2 hc
 obtain ⟨h1,h2⟩:=and2 hc
 have h2':=of_decide_eq_true h2
 have h3':=of_decide_eq_true h3
 refine ⟨by rw [hN]; exact of_decide_eq_true h1,by rw [hsc]; exact h2',sw_true (by rw [hsc]; exact h3') (by rw [hsc]; exact h2') h4 (not_of h5)⟩
theorem cap_ok {X:Cx} {sc:Scope} (hN:X.N=N) (hsc:X.env.scope=sc) (hf:true=true→∀ x,X.fn x=true∨X.env.scope.names.lookup x≠some .cell):∀ (is:List Nat) (ps:List Pattern),capB N sc is ps=true→∃ xs,Caps ps xs∧Slots X is xs:=by
 intro is ps h
 fun_induction capB N sc is ps with
 | case1=>exact ⟨[],.nil,.nil⟩
 | case2 i is x p ps ih =>
  obtain ⟨h1,h2⟩:=and2 h
  obtain ⟨xs,c1,c2⟩:=ih h2
  obtain ⟨g1,g2,g3⟩:=st_ok (fl:=true) hN hsc hf h1
  exact ⟨x::xs,.cons c1,.cons g1 g2 g3 c2⟩
 | case3=>cases h
theorem ck_Sx {k:Nat} (X:Cx) (n:Nat) (C:Cl) (Wx:WX) (e0:Em) (H0:En) (sc:Scope) (a:S) (x:Stmt) (h:Hyp W X n C Wx) (pn:Pn W X C H0) (hN:X.N=N) (hsc:X.env.scope=sc) (hf:Fl X) (hc:chkSx N W.T k sc a x=true):PS X x (rS W C Wx e0 H0 a):=by
 have ie:=fun a x (z:chkE N W.T k sc a x=true)=>(ck_all (W:=W) (N:=N) k).E X n C Wx H0 sc a x h pn hN hsc z
 unfold chkSx at hc
 split at hc
 ·obtain ⟨hc,h5⟩:=and2 hc
  obtain ⟨hc,h4⟩:=and2 hc
  obtain ⟨hc,h3⟩:=and2 hc
  obtain ⟨h1,h2⟩:=and2 hc
  cases of_decide_eq_true h1
  have h3':=loc_of (hsc▸h3)
  exact snd_owna h (by rw [hN]; exact of_decide_eq_true h2) h3' (loc_fn hf h3') (ie _ _ h4) (ie _ _ h5)
 ·cases hc
theorem ck_S {k:Nat} (ih:CkSt W N k) (X:Cx) (n:Nat) (C:Cl) (Wx:WX) (e0:Em) (H0:En) (sc:Scope) (a:S) (x:Stmt) (h:Hyp W X n C Wx) (pn:Pn W X C H0) (hN:X.N=N) (hsc:X.env.scope=sc) (hf:Fl X) (hc:chkS N W.T (k+1) sc a x=true):PS X x (rS W C Wx e0 H0 a):=by
 have ie:=fun a x (z:chkE N W.T k sc a x=true)=>(ck_all (W:=W) (N:=N) k).E X n C Wx H0 sc a x h pn hN hsc z
 have it:=fun a x (z:chkT N W.T k sc a x=true)=>(ck_all (W:=W) (N:=N) k).T X n C Wx H0 sc a x h pn hN hsc z
 have is:=fun a x (z:chkSs N W.T k sc a x=true)=>ih.Ss X n C Wx e0 H0 sc a x h pn hN hsc hf z
 unfold chkS at hc
 split at hc
 ·rcases (Bool.or_eq_true _ _).mp hc with hc | hc
  ·obtain ⟨h1,h2⟩:=and2 hc
   obtain ⟨n1,n2,n3⟩:=nm_hyps hN hsc h1
   obtain ⟨l1,l2,l3,l4,l5,l6,l7⟩:=lc_hyps (C:=C) (Wx:=Wx) (H0:=H0) h pn hN hsc h2
   exact snd_setLc h false n1 n2 n3 l1 l2 (by simp [Function.comp_def]) l3 l4 l5 l6 l7
  ·obtain ⟨hc,h3⟩:=and2 hc
   obtain ⟨h1,h2⟩:=and2 hc
   exact snd_asg rfl (ie _ _ h3) ((chk_tg (fl:=true) h hN hsc (fun _=>hf.fn) k).1 _ _ h2) (sw_cell (by rw [hsc]; exact of_decide_eq_true h1)) rfl
 ·obtain ⟨hc,h5⟩:=and2 hc
  obtain ⟨hc,h4⟩:=and2 hc
  obtain ⟨hc,h3⟩:=and2 hc
  obtain ⟨h1,h2⟩:=and2 hc
  cases of_decide_eq_true h1
  obtain ⟨g1,g2,g3,g4⟩:=nm_ok hN hsc h2
  exact snd_app h g1 g2 g3 g4 h3 h4 (ie _ _ h5)
 ·obtain ⟨hc,h5⟩:=and2 hc
  obtain ⟨hc,h4⟩:=and2 hc
  obtain ⟨hc,h3⟩:=and2 hc
  obtain ⟨h1,h2⟩:=and2 hc
  have h3:swappedStores [_] _ X.env=pure none:=(Bool.or_eq_true _ _▸h3).elim swp_ok fun z=>swc_ok (by rw [hsc]; exact z)
  exact snd_asg h1 (ie _ _ h5) ((chk_tg (fl:=true) h hN hsc (fun _=>hf.fn) k).1 _ _ h4) (sw_ok h2) h3
 ·exact snd_ret (ie _ _ hc)
 ·obtain ⟨hc,h3⟩:=and2 hc
  obtain ⟨h1,h2⟩:=and2 hc
  exact snd_if (it _ _ h1) (is _ _ h2) (is _ _ h3)
 ·obtain ⟨hc,h4⟩:=and2 hc
  obtain ⟨hc,h3⟩:=and2 hc
  obtain ⟨h1,h2⟩:=and2 hc
  exact snd_for h ((ck_all (W:=W) (N:=N) k).I X n C Wx H0 sc false _ _ _ h pn hN hsc h2) ((chk_tg (fl:=true) h hN hsc (fun _=>hf.fn) k).1 _ _ h3) (is _ _ h4) (foldB h1)
 ·exact snd_never fun _ _=>rfl
 ·exact ck_Sx X n C Wx e0 H0 sc _ _ h pn hN hsc hf hc
theorem ck_st:∀ k,CkSt W N k:=by
 intro k
 induction k with
 | zero=>exact ⟨fun _ _ _ _ _ _ _ _ _ _ _ _ _ _ h=>(nomatch h),fun _ _ _ _ _ _ _ _ _ _ _ _ _ _ h=>(nomatch h),fun _ _ _ _ _ _ _ _ _ _ _ _ _ _ h=>(nomatch h),fun _ _ _ _ _ _ _ _ _ _ _ _ _ h=>(nomatch h)⟩
 | succ k ih =>
  refine ⟨ck_S ih,fun X n C Wx e0 H0 sc as xs h pn hN hsc hf hc=>?_,fun X n C Wx e0 H0 sc cs xs h pn hN hsc hf hc=>?_,fun X n C Wx e0 H0 sc hs xs h hN hsc hf hc=>?_⟩
  ·unfold chkSs at hc
   split at hc
   ·exact snd_ss_nil
   ·exact snd_frz (ih.Ss X n C Wx e0 H0 sc _ _ h pn hN hsc hf hc)
   ·exact snd_cel (ih.Ss X n C Wx e0 H0 sc _ _ h pn hN hsc hf hc)
   ·obtain ⟨h1,h2⟩:=and2 hc
    exact snd_ss (ih.S X n C Wx e0 H0 sc _ _ h pn hN hsc hf h1) (ih.Ss X n C Wx e0 H0 sc _ _ h pn hN hsc hf h2)
   ·cases hc
  ·unfold chkM at hc
   split at hc
   ·exact snd_ms_nil
   ·exact snd_ms_any (ih.Ss X n C Wx e0 H0 sc _ _ h pn hN hsc hf hc)
   ·obtain ⟨hc,h4⟩:=and2 hc
    obtain ⟨hc,h3⟩:=and2 hc
    obtain ⟨h1,h2⟩:=and2 hc
    cases of_decide_eq_true h1
    obtain ⟨ns,c1,c2⟩:=cap_ok hN hsc (fun _=>hf.fn) _ _ h2
    exact snd_ms_case h c1 c2 (ih.Ss X n C Wx e0 H0 sc _ _ h pn hN hsc hf h3) (ih.M X n C Wx e0 H0 sc _ _ h pn hN hsc hf h4)
   ·cases hc
  ·have su:∀ {b:Ss} {z:Stmt} {zs:List Stmt},chkSs N W.T k sc b (z::zs)=true→∀ (a:Addr) (oe:Obj) (cls:Value) (d:Option Addr) (p2:List (Addr×Obj)),L2N.Zn cls d oe→(∃ vs,oe.data = .fields vs)→PSs (X.suite a ((a,oe)::p2)) (z::zs) (suT W C e0 H0 b a cls d):=by
    intro b z zs hz a oe cls d p2 hzn hfl
    refine ⟨fun pins s σ H D I ⟨c,dx,e1,e2,hr⟩=>?_⟩
    refine (ih.Ss (X.suite a ((a,oe)::p2)) n C.heat Wf e0 { H0 with x:=some (a,c,dx) } sc b (z::zs) (h.inSuite hzn hfl) ⟨fun z=>(nomatch z),fun a' c' dx' z=>?_⟩ hN hsc ⟨hf.fn,hf.stk,hf.frm⟩ hz).run pins s σ H D I hr
    cases z
    exact ⟨oe,List.mem_cons_self,by rw [hzn.1,e1],by rw [hzn.2.1,e2],hfl⟩
   have nms:∀ {c:Nat} {x:Str} {i:ClI},glOk sc x=true→W.T.cls[c]?=some i→i.name=x→Names X x (.ref (W.ca c)):=by
    intro c x i h1 hi hn
    obtain ⟨g1,g2⟩:=gl_ok hsc h1
    exact ⟨g1,g2,.inl (by rw [h.mg,← hn]; exact (h.txt.clsg c i hi).1)⟩
   unfold chkHs at hc
   split at hc
   ·exact ⟨.nil,fun c' z=>nomatch z⟩
   ·obtain ⟨hc,h4⟩:=and2 hc
    obtain ⟨hc,h3⟩:=and2 hc
    obtain ⟨h1,h2⟩:=and2 hc
    obtain ⟨i,hi,hx,hn,_⟩:=excN_ok h2
    obtain ⟨g1,g2⟩:=ih.Hs X n C Wx e0 H0 sc _ _ h hN hsc hf h4
    refine ⟨.bare (nms h1 hi hn) (su h3) g1,fun c' z=>?_⟩
    rcases List.mem_cons.mp z with z | z
    ·rw [z]; exact ⟨i,hi,hx⟩
    ·exact g2 c' z
   ·obtain ⟨hc,h6⟩:=and2 hc
    obtain ⟨hc,h5⟩:=and2 hc
    obtain ⟨hc,h4⟩:=and2 hc
    obtain ⟨hc,h3⟩:=and2 hc
    obtain ⟨h1,h2⟩:=and2 hc
    obtain ⟨i,hi,hx,hn,_⟩:=excN_ok h2
    obtain ⟨g1,g2⟩:=ih.Hs X n C Wx e0 H0 sc _ _ h hN hsc hf h6
    refine ⟨.named (nms h1 hi hn) (by rw [hN]; exact of_decide_eq_true h3) (by show X.env.scope.names.lookup _=_; rw [hsc]; exact of_decide_eq_true h4) (su h5) g1,fun c' z=>?_⟩
    rcases List.mem_cons.mp z with z | z
    ·rw [z]; exact ⟨i,hi,hx⟩
    ·exact g2 c' z
   ·cases hc
theorem sup_args {i:FnI} {p:SupI} {scope:Scope} {es:List Expr} (k:Nat) (hc:chkEs i.names W.T k scope p.args es=true):SupArgs W i p scope es:=fun X n C Wx H0 h pn hN hsc _=>(ck_all k).Es X n C Wx H0 scope p.args es h pn hN hsc hc
theorem body_ok {i:FnI} {body:List Stmt} {scope:Scope} (k:Nat) (hc:chkSs i.names W.T k scope i.body body=true):BodyOk W i body scope:=fun X n C Wx e0 H0 h pn hN hsc hf=>(ck_st k).Ss X n C Wx e0 H0 scope i.body body h pn hN hsc hf hc
end
end Ev
set_option maxRecDepth 100000
set_option maxHeartbeats 4000000
namespace Ev
open PySem PySem.Spec PyProof.Rows L2
theorem fm_congr {α β:Type} {f g:α→Option β}:∀ {l:List α},(∀ a∈l,f a=g a)→l.filterMap f=l.filterMap g
 | [],_=>rfl
 | a::l,h=>by rw [List.filterMap_cons,List.filterMap_cons,h a List.mem_cons_self,fm_congr fun b hb=>h b (List.mem_cons_of_mem _ hb)]
theorem zip_look {ps:List Str}:∀ {us:List Value},ps.Nodup→us.length=ps.length→(∀ n∈ps,((ps.zip us).lookup n).isSome=true)∧ps.filterMap (fun n=>((ps.zip us).lookup n).map (n,·))=ps.zip us:=by
 induction ps with
 | nil=>intro us _ _; exact ⟨fun n h=>(nomatch h),rfl⟩
 | cons p ps ih =>
  intro us nd hl
  cases us with
  | nil=>simp at hl
  | cons u us =>
   rw [List.nodup_cons] at nd
   obtain ⟨i1,i2⟩:=ih (us:=us) nd.2 (by simpa using hl)
   refine ⟨fun n hn=>?_,?_⟩
   ·rw [List.zip_cons_cons,List.lookup_cons]
    split
    ·rfl
    ·rename_i hne
     rcases List.mem_cons.mp hn with e | e
     ·subst e; simp at hne
     ·exact i1 n e
   ·rw [List.zip_cons_cons,List.filterMap_cons]
    simp only [List.lookup_cons,beq_self_eq_true,Option.map_some]
    congr 1
    refine Eq.trans (fm_congr fun n hn=>?_) i2
    have hne:(n == p)=false:=by
     rw [beq_eq_false_iff_ne]
     rintro rfl
     exact nd.1 hn
    rw [hne]
theorem bind_plain {x qual:Str} {as:List Arg} {dx:List Expr} {body:List Stmt} {scope:Scope} {kV doc pm:Value} {an:Option Addr} {cdv ct:Value} {us:List Value} (nd:(as.map (·.arg)).Nodup) (hl:us.length=as.length) :
  bindArgs (PySem.W.fnOf x qual ⟨[],as,none,[],[],none,dx⟩ body scope .none kV doc pm an cdv ct) ⟨us,[]⟩=pure ((as.map (·.arg)).zip us):=by
 obtain ⟨z1,z2⟩:=zip_look (ps:=as.map (·.arg)) (us:=us) nd (by simpa using hl)
 have e1:(List.filter (fun n=>((((as.map (·.arg)).zip us).lookup n).isNone)) ((as.map (·.arg)).take as.length))=[]:=by
  rw [List.filter_eq_nil_iff]
  intro n hn
  have:=z1 n (List.mem_of_mem_take hn)
  obtain ⟨v,hv⟩:=Option.isSome_iff_exists.mp this
  rw [hv]; simp
 unfold bindArgs PySem.W.fnOf
 dsimp only
 simp only [List.map_nil,List.nil_append,List.append_nil,List.forIn_nil,pure_bind,hl,List.length_map,gt_iff_lt,Nat.lt_irrefl]
 have e2:seqItems? Value.none=pure none:=by rfl
 have e3:(#[]:Array Value).toList=[]:=rfl
 rw [e2]
 simp only [pure_bind,Option.getD_none,e3,List.drop_nil,List.length_nil,Nat.sub_zero,e1,List.isEmpty_nil,Bool.not_true,Bool.false_eq_true,if_false,decide_false,Bool.false_and,List.zip_nil_right,List.forIn_nil,z2]
theorem dfl_loop:∀ (zs:List (Str×Value)) (slots:List (Str×Value)),(∀ z∈zs,slots.lookup z.1=none)→(zs.map (·.1)).Nodup →
  (forIn zs slots fun (x:Str×Value) (r:List (Str×Value))=>if ((r.lookup x.1).isNone)=true then (pure (ForInStep.yield (r++[(x.1,x.2)])):Sem _) else pure (ForInStep.yield r))=(pure (slots++zs):Sem _)
 | [],slots,_,_=>by simp
 | (n,d)::zs,slots,h,nd=>by
  have h0:=h (n,d) List.mem_cons_self
  have h0:slots.lookup n=none:=h0
  rw [List.forIn_cons]
  simp only [h0,Option.isNone_none,if_true,pure_bind]
  rw [List.map_cons,List.nodup_cons] at nd
  rw [dfl_loop zs (slots++[(n,d)]) (fun z hz=>?_) nd.2]
  ·simp
  ·have hne:(z.1 == n)=false:=by
    rw [beq_eq_false_iff_ne]
    intro e
    exact nd.1 (by rw [← show z.1=n from e]; exact List.mem_map.mpr ⟨z,hz,rfl⟩)
   rw [List.lookup_append,h z (List.mem_cons_of_mem _ hz)]
   simp [List.lookup_cons,hne]
theorem zip_look2 {ps:List Str} {us:List Value} (nd:ps.Nodup) (hl:us.length≤ps.length):(∀ n∈ps.take us.length,((ps.zip us).lookup n).isSome=true)∧∀ n∈ps.drop us.length,(ps.zip us).lookup n=none:=by
 have e:ps.zip us=(ps.take us.length).zip us:=by
  rw [List.zip_eq_zip_take_min]
  simp [Nat.min_eq_right hl]
 refine ⟨fun n hn=>?_,fun n hn=>?_⟩
 ·rw [e]
  exact (zip_look (nd.sublist (List.take_sublist _ _)) (by simp [Nat.min_eq_left hl])).1 n hn
 ·cases q:(ps.zip us).lookup n with
  | none=>rfl
  | some v =>
   have m1:=PySem.mem_of_lookup q
   rw [e] at m1
   have m2:=(List.of_mem_zip m1).1
   have nd2:(ps.take us.length++ps.drop us.length).Nodup:=by rw [List.take_append_drop]; exact nd
   exact absurd rfl ((List.nodup_append.mp nd2).2.2 n m2 n hn)
theorem zip_app {ps:List Str} {us its:List Value} (hl:us.length≤ps.length):ps.zip us++(ps.drop us.length).zip its=ps.zip (us++its):=by
 induction us generalizing ps with
 | nil=>simp
 | cons u us ih =>
  cases ps with
  | nil=>simp at hl
  | cons p ps =>
   rw [List.zip_cons_cons,List.cons_append,List.cons_append,List.zip_cons_cons]
   rw [← ih (ps:=ps) (by simpa using hl)]
   rfl
theorem skip_loop:∀ (ys zs slots:List (Str×Value)),(∀ y∈ys,(slots.lookup y.1).isSome=true)→(∀ z∈zs,slots.lookup z.1=none)→(zs.map (·.1)).Nodup →
  (forIn (ys++zs) slots fun (x:Str×Value) (r:List (Str×Value))=>if ((r.lookup x.1).isNone)=true then (pure (ForInStep.yield (r++[(x.1,x.2)])):Sem _) else pure (ForInStep.yield r))=(pure (slots++zs):Sem _)
 | [],zs,slots,_,h,nd=>dfl_loop zs slots h nd
 | y::ys,zs,slots,hy,h,nd=>by
  obtain ⟨v,hv⟩:=Option.isSome_iff_exists.mp (hy y List.mem_cons_self)
  rw [List.cons_append,List.forIn_cons]
  simp only [hv,Option.isNone_some,Bool.false_eq_true,if_false,pure_bind]
  exact skip_loop ys zs slots (fun z hz=>hy z (List.mem_cons_of_mem _ hz)) h nd
theorem bind_dfl {x qual:Str} {as:List Arg} {dx:List Expr} {body:List Stmt} {scope:Scope} {kV doc pm:Value} {an:Option Addr} {cdv ct:Value} {T:Addr} {us its:List Value} (nd:(as.map (·.arg)).Nodup) (h1:us.length≤as.length) (h2:its.length≤as.length) (h3:as.length≤us.length+its.length) :
  ∃ k,bindArgs (PySem.W.fnOf x qual ⟨[],as,none,[],[],none,dx⟩ body scope (.ref T) kV doc pm an cdv ct) ⟨us,[]⟩=seqItems? (.ref T) >>= k∧k (some its.toArray)=pure ((as.map (·.arg)).zip (us++its.drop (us.length+its.length - as.length))):=by
 obtain ⟨z1,z2⟩:=zip_look2 (ps:=as.map (·.arg)) (us:=us) nd (by simpa using h1)
 refine ⟨_,by
  unfold bindArgs PySem.W.fnOf
  dsimp only
  simp only [List.map_nil,List.nil_append,List.append_nil,List.forIn_nil,pure_bind]
  rfl,?_⟩
 have e3:((some its.toArray).getD (#[]:Array Value)).toList=its:=by simp
 have hp:(as.map (·.arg)).length=as.length:=by simp
 have e4:its.length - as.length=0:=by omega
 have hnot:¬ us.length > as.length:=by omega
 have e1:(List.filter (fun n=>((((as.map (·.arg)).zip us).lookup n).isNone)) ((as.map (·.arg)).take (as.length - its.length)))=[]:=by
  rw [List.filter_eq_nil_iff]
  intro n hn
  have hn':n∈(as.map (·.arg)).take us.length:=by
   rw [show as.length - its.length=min (as.length - its.length) us.length by omega,← List.take_take] at hn
   exact List.mem_of_mem_take hn
  obtain ⟨v,hv⟩:=Option.isSome_iff_exists.mp (z1 n hn')
  rw [hv]; simp
 have lp:=skip_loop (((as.map (·.arg)).drop (as.length - its.length)).zip its |>.take (us.length+its.length - as.length)) (((as.map (·.arg)).drop us.length).zip (its.drop (us.length+its.length - as.length))) ((as.map (·.arg)).zip us) (fun y hy=>?_) (fun z hz=>z2 _ (List.of_mem_zip hz).1) ?_
 ·have hsplit:((as.map (·.arg)).drop (as.length - its.length)).zip its=(((as.map (·.arg)).drop (as.length - its.length)).zip its |>.take (us.length+its.length - as.length))++(((as.map (·.arg)).drop us.length).zip (its.drop (us.length+its.length - as.length))):=by
   conv=>lhs; rw [← List.take_append_drop (us.length+its.length - as.length) (((as.map (·.arg)).drop (as.length - its.length)).zip its)]
   congr 1
   rw [List.zip,List.drop_zipWith,List.drop_drop]
   rw [show as.length - its.length+(us.length+its.length - as.length)=us.length by omega]
  rw [← hsplit] at lp
  simp only [e3,hp,e4,List.drop_zero,gt_iff_lt,decide_eq_false hnot,Bool.false_and,Bool.false_eq_true,if_false,e1,List.isEmpty_nil,Bool.not_true]
  rw [zip_app (by rw [hp]; exact h1)] at lp
  rw [lp,pure_bind]
  congr 1
  exact (zip_look nd (by rw [List.length_append,List.length_drop,hp]; omega)).2
 ·refine z1 _ ?_
  have hy2:y∈(((as.map (·.arg)).drop (as.length - its.length)).take (us.length+its.length - as.length)).zip (its.take (us.length+its.length - as.length)):=by
   rw [List.zip,← List.take_zipWith]; exact hy
  have m:=(List.of_mem_zip hy2).1
  rw [List.take_drop] at m
  have m2:=List.mem_of_mem_drop m
  rw [show as.length - its.length+(us.length+its.length - as.length)=us.length by omega] at m2
  exact m2
 ·rw [List.map_fst_zip (by rw [List.length_drop,List.length_drop,hp]; omega)]
  exact nd.sublist (List.drop_sublist _ _)
theorem kw_loop {f:Str×Value→List (Str×Value)×List (Str×Value)→Sem (ForInStep (List (Str×Value)×List (Str×Value)))} {ps:List Str} (hf:∀ kv sl ex,kv.1∈ps→sl.lookup kv.1=none→f kv (sl,ex)=pure (.yield (sl++[kv],ex))):∀ (zs sl ex:List (Str×Value)),(∀ z∈zs,z.1∈ps)→(∀ z∈zs,sl.lookup z.1=none)→(zs.map (·.1)).Nodup→(forIn zs (sl,ex) f:Sem _)=pure (sl++zs,ex)
 | [],sl,ex,_,_,_=>by rw [List.forIn_nil,List.append_nil]
 | z::zs,sl,ex,h1,h2,nd=>by
  rw [List.map_cons,List.nodup_cons] at nd
  rw [List.forIn_cons,hf z sl ex (h1 z List.mem_cons_self) (h2 z List.mem_cons_self),pure_bind]
  dsimp only
  rw [kw_loop hf zs (sl++[z]) ex (fun y hy=>h1 y (List.mem_cons_of_mem _ hy)) (fun y hy=>?_) nd.2,List.append_assoc]
  ·rfl
  ·have hne:(y.1 == z.1)=false:=by
    rw [beq_eq_false_iff_ne]
    intro e
    exact nd.1 (by rw [← e]; exact List.mem_map.mpr ⟨y,hy,rfl⟩)
   rw [List.lookup_append,h2 y (List.mem_cons_of_mem _ hy)]
   obtain ⟨z1,z2⟩:=z
   rw [List.lookup_cons,hne]; rfl
theorem look_mem {k:Str} {v:Value}:∀ {l:List (Str×Value)},(l.map (·.1)).Nodup→(k,v)∈l→l.lookup k=some v
 | [],_,h=>by cases h
 | (a,b)::l,nd,h=>by
  rw [List.map_cons,List.nodup_cons] at nd
  rw [List.lookup_cons]
  rcases List.mem_cons.mp h with e | h'
  ·cases e
   simp
  ·have hne:(k == a)=false:=by
    rw [beq_eq_false_iff_ne]
    rintro rfl
    exact nd.1 (List.mem_map.mpr ⟨_,h',rfl⟩)
   rw [hne]
   exact look_mem nd.2 h'
theorem look_rev {k:Str} {l:List (Str×Value)} (nd:(l.map (·.1)).Nodup):l.reverse.lookup k=l.lookup k:=by
 have nr:(l.reverse.map (·.1)).Nodup:=by rw [List.map_reverse]; exact (List.reverse_perm _).nodup_iff.mpr nd
 cases h:l.lookup k with
 | some v=>exact look_mem nr (List.mem_reverse.mpr (PySem.mem_of_lookup h))
 | none =>
  cases g:l.reverse.lookup k with
  | none=>rfl
  | some v=>rw [look_mem nd (List.mem_reverse.mp (PySem.mem_of_lookup g))] at h; cases h
theorem zip_rev {α β:Type}:∀ {xs:List α} {ys:List β},xs.length=ys.length→xs.reverse.zip ys=(xs.zip ys.reverse).reverse:=by
 intro xs ys h
 have e:∀ {as:List α} {bs:List β},as.length=bs.length→(as.zip bs).reverse=as.reverse.zip bs.reverse:=by
  intro as
  induction as with
  | nil=>intro bs h; simp
  | cons a as ih =>
   intro bs h
   cases bs with
   | nil=>simp at h
   | cons b bs =>
    have h':as.length=bs.length:=by simpa using h
    rw [List.zip_cons_cons,List.reverse_cons,ih h',List.reverse_cons,List.reverse_cons,List.zip_append (by simpa using h')]
    rfl
 rw [e (by simpa using h),List.reverse_reverse]
theorem kw_slots {ps:List Str} {us ws:List Value} (nd:ps.Nodup) (hl:us.length+ws.length=ps.length) (k:Str):(ps.zip us++((ps.drop us.length).reverse.zip ws)).lookup k=(ps.zip (us++ws.reverse)).lookup k:=by
 have e1:ps.zip (us++ws.reverse)=ps.zip us++(ps.drop us.length).zip ws.reverse:=(zip_app (by omega)).symm
 rw [e1,List.lookup_append,List.lookup_append,zip_rev (by rw [List.length_drop]; omega),look_rev]
 rw [List.map_fst_zip (by rw [List.length_drop,List.length_reverse]; omega)]
 exact nd.sublist (List.drop_sublist _ _)
theorem kw_first {as:List Arg} {us ws:List Value} (nd:(as.map (·.arg)).Nodup) (hl:us.length+ws.length=as.length):(∀ z∈((as.map (·.arg)).drop us.length).reverse.zip ws,z.1∈as.map (·.arg))∧(∀ z∈((as.map (·.arg)).drop us.length).reverse.zip ws,((as.map (·.arg)).zip us).lookup z.1=none)∧((((as.map (·.arg)).drop us.length).reverse.zip ws).map (·.1)).Nodup:=by
 have hm:∀ z∈((as.map (·.arg)).drop us.length).reverse.zip ws,z.1∈(as.map (·.arg)).drop us.length:=fun z hz=>List.mem_reverse.mp (List.of_mem_zip (show (z.1,z.2)∈_ from hz)).1
 refine ⟨fun z hz=>List.mem_of_mem_drop (hm z hz),fun z hz=>(zip_look2 nd (by rw [List.length_map]; omega)).2 _ (hm z hz),?_⟩
 rw [List.map_fst_zip (by rw [List.length_reverse,List.length_drop,List.length_map]; omega)]
 exact (List.reverse_perm _).nodup_iff.mpr (nd.sublist (List.drop_sublist _ _))
theorem bind_kw {x qual:Str} {as:List Arg} {dx:List Expr} {body:List Stmt} {scope:Scope} {kV doc pm:Value} {an:Option Addr} {cdv ct:Value} {us ws:List Value} (nd:(as.map (·.arg)).Nodup) (hl:us.length+ws.length=as.length) :
  bindArgs (PySem.W.fnOf x qual ⟨[],as,none,[],[],none,dx⟩ body scope .none kV doc pm an cdv ct) ⟨us,((as.map (·.arg)).drop us.length).reverse.zip ws⟩=pure ((as.map (·.arg)).zip (us++ws.reverse)):=by
 obtain ⟨k1,k2,k3⟩:=kw_first nd hl
 have ks:=kw_slots nd (us:=us) (ws:=ws) (by rw [List.length_map]; exact hl)
 obtain ⟨z1,z2⟩:=zip_look (ps:=as.map (·.arg)) (us:=us++ws.reverse) nd (by simpa using hl)
 unfold bindArgs PySem.W.fnOf
 dsimp only
 simp only [List.map_nil,List.nil_append,List.append_nil,pure_bind]
 rw [kw_loop (ps:=as.map (·.arg)) (fun kv sl ex h1 h2=>by
  have c:(List.map (fun x=>x.arg) as).contains kv.1=true:=by simpa using h1
  simp only [c,Bool.true_or,if_true,h2,Option.isSome_none,Bool.false_eq_true,if_false]) _ _ _ k1 k2 k3,pure_bind]
 dsimp only
 have e1:(List.filter (fun n=>((((as.map (·.arg)).zip us++((as.map (·.arg)).drop us.length).reverse.zip ws).lookup n).isNone)) ((as.map (·.arg)).take as.length))=[]:=by
  rw [List.filter_eq_nil_iff]
  intro n hn
  rw [ks]
  obtain ⟨v,hv⟩:=Option.isSome_iff_exists.mp (z1 n (List.mem_of_mem_take hn))
  rw [hv]; simp
 have e2:seqItems? Value.none=pure none:=by rfl
 have e3:(#[]:Array Value).toList=[]:=rfl
 have hnot:¬ us.length > as.length:=by omega
 have z3:(as.map (·.arg)).filterMap (fun n=>(((as.map (·.arg)).zip us++((as.map (·.arg)).drop us.length).reverse.zip ws).lookup n).map (n,·))=(as.map (·.arg)).zip (us++ws.reverse):=by
  rw [← z2]
  exact fm_congr fun n _=>by rw [ks]
 rw [e2]
 simp only [pure_bind,List.forIn_nil,List.length_map,hnot,Option.getD_none,e3,List.drop_nil,List.length_nil,Nat.sub_zero,e1,List.isEmpty_nil,Bool.not_true,Bool.false_eq_true,if_false,decide_false,Bool.false_and,List.zip_nil_right,List.forIn_nil,z3]
theorem full_loop:∀ (ys slots:List (Str×Value)),(∀ y∈ys,(slots.lookup y.1).isSome=true) →
  (forIn ys slots fun (x:Str×Value) (r:List (Str×Value))=>if ((r.lookup x.1).isNone)=true then (pure (ForInStep.yield (r++[(x.1,x.2)])):Sem _) else pure (ForInStep.yield r))=(pure slots:Sem _)
 | [],slots,_=>by simp
 | y::ys,slots,hy=>by
  obtain ⟨v,hv⟩:=Option.isSome_iff_exists.mp (hy y List.mem_cons_self)
  rw [List.forIn_cons]
  simp only [hv,Option.isNone_some,Bool.false_eq_true,if_false,pure_bind]
  exact full_loop ys slots fun z hz=>hy z (List.mem_cons_of_mem _ hz)
theorem bind_kwd {x qual:Str} {as:List Arg} {dx:List Expr} {body:List Stmt} {scope:Scope} {kV doc pm:Value} {an:Option Addr} {cdv ct:Value} {T:Addr} {us ws its:List Value} (nd:(as.map (·.arg)).Nodup) (hl:us.length+ws.length=as.length) (h2:its.length≤as.length) :
  ∃ k,bindArgs (PySem.W.fnOf x qual ⟨[],as,none,[],[],none,dx⟩ body scope (.ref T) kV doc pm an cdv ct) ⟨us,((as.map (·.arg)).drop us.length).reverse.zip ws⟩=seqItems? (.ref T) >>= k∧k (some its.toArray)=pure ((as.map (·.arg)).zip (us++ws.reverse)):=by
 obtain ⟨k1,k2,k3⟩:=kw_first nd hl
 have ks:=kw_slots nd (us:=us) (ws:=ws) (by rw [List.length_map]; exact hl)
 obtain ⟨z1,z2⟩:=zip_look (ps:=as.map (·.arg)) (us:=us++ws.reverse) nd (by simpa using hl)
 refine ⟨_,by
  unfold bindArgs PySem.W.fnOf
  dsimp only
  simp only [List.map_nil,List.nil_append,List.append_nil,pure_bind]
  rw [kw_loop (ps:=as.map (·.arg)) (fun kv sl ex h1 h2=>by
   have c:(List.map (fun x=>x.arg) as).contains kv.1=true:=by simpa using h1
   simp only [c,Bool.true_or,if_true,h2,Option.isSome_none,Bool.false_eq_true,if_false]) _ _ _ k1 k2 k3,pure_bind],?_⟩
 have e1:(List.filter (fun n=>((((as.map (·.arg)).zip us++((as.map (·.arg)).drop us.length).reverse.zip ws).lookup n).isNone)) ((as.map (·.arg)).take (as.length - its.length)))=[]:=by
  rw [List.filter_eq_nil_iff]
  intro n hn
  rw [ks]
  obtain ⟨v,hv⟩:=Option.isSome_iff_exists.mp (z1 n (List.mem_of_mem_take hn))
  rw [hv]; simp
 have e3:((some its.toArray).getD (#[]:Array Value)).toList=its:=by simp
 have hp:(as.map (·.arg)).length=as.length:=by simp
 have e4:its.length - as.length=0:=by omega
 have hnot:¬ us.length > as.length:=by omega
 have z3:(as.map (·.arg)).filterMap (fun n=>(((as.map (·.arg)).zip us++((as.map (·.arg)).drop us.length).reverse.zip ws).lookup n).map (n,·))=(as.map (·.arg)).zip (us++ws.reverse):=by
  rw [← z2]
  exact fm_congr fun n _=>by rw [ks]
 have lp:=full_loop (((as.map (·.arg)).drop (as.length - its.length)).zip its) ((as.map (·.arg)).zip us++((as.map (·.arg)).drop us.length).reverse.zip ws) (fun y hy=>by
  rw [ks]
  exact z1 _ (List.mem_of_mem_drop (List.of_mem_zip (show (y.1,y.2)∈_ from hy)).1))
 simp only [e3,hp,e4,List.drop_zero,gt_iff_lt,decide_eq_false hnot,Bool.false_and,Bool.false_eq_true,if_false,e1,List.isEmpty_nil,Bool.not_true,lp,pure_bind,List.forIn_nil,z3]
end Ev
set_option maxRecDepth 100000
set_option maxHeartbeats 4000000
namespace Ev
open PySem PySem.Spec PyProof.Rows L2
section
variable {W:Wd}
theorem all_lookup {β:Type} {l:List (Nat×β)} {p:Nat×β→Bool} (h:l.all p=true) {k:Nat} {v:β} (e:l.lookup k=some v):p (k,v)=true:=by
 have m:(k,v)∈l:=by
  induction l with
  | nil=>cases e
  | cons q l ih =>
   obtain ⟨k',v'⟩:=q
   rw [List.lookup_cons] at e
   rw [List.all_cons,Bool.and_eq_true] at h
   split at e
   ·rename_i hk
    cases e
    rw [beq_iff_eq.mp hk]
    exact List.mem_cons_self
   ·exact List.mem_cons_of_mem _ (ih h.2 e)
 exact List.all_eq_true.mp h _ m
theorem dflB_rep {e:Em} {d:D} {v:Value} (h:dflB d v=true):∃ x,RelV x v∧∀ e,Rep W e d x:=by
 unfold dflB at h
 split at h
 ·exact ⟨.non,rfl,fun _=>rfl⟩
 ·exact ⟨.bl _,rfl,fun _=>by rw [of_decide_eq_true h]; rfl⟩
 ·exact ⟨.int _,⟨_,rfl⟩,fun _=>by rw [of_decide_eq_true h]; rfl⟩
 ·exact ⟨.str _,⟨_,rfl⟩,fun _=>by rw [of_decide_eq_true h]; rfl⟩
 ·cases h
theorem con_f {i:ClI} {a:Addr} {k:Nat} {d:D} (h:conB W.K W.T i a (k,d)=true):∃ v u,Con W.K a (an W.T k) v u∧ClX.CVal W.K a (.type "type") (an W.T k) v u∧ClX.CRead W.K a (.type "type")∧(∀ e,Rep W e d v)∧∀ k'∈i.flds,an W.T k'≠an W.T k:=by
 unfold conB at h
 have of:∀ {a b:Option (Option Value)},optV a b=true→a=b:=fun h=>of_decide_eq_true h
 split at h
 ·rename_i u hu
  simp only [Bool.and_eq_true] at h
  obtain ⟨⟨⟨⟨⟨⟨h1,h2⟩,h3⟩,h4⟩,h5⟩,h6⟩,h7⟩:=h
  obtain ⟨v,r,rp⟩:=dflB_rep (W:=W) (e:=⟨fun _=>none,fun _=>none⟩) h1
  split at h4
  ·rename_i u' hu'
   cases of_decide_eq_true h4
   exact ⟨v,u,⟨hu,r,of h2,by simpa using h3⟩,⟨hu',r⟩,⟨h5,of h6⟩,rp,fun k' hk'=>by have:=List.all_eq_true.mp h7 k' hk'; simpa using this⟩
  ·cases h4
 ·cases h
theorem cls_f {c:Nat} {i:ClI} (hi:W.T.cls[c]?=some i) (h:clsB W.K W.T i=true):ClsF W c i:=by
 have ea:W.ca c=gadr W.K i.name:=by unfold Wd.ca; rw [hi]
 unfold clsB at h
 simp only [Bool.and_eq_true] at h
 obtain ⟨⟨⟨⟨⟨⟨⟨⟨⟨⟨⟨⟨⟨⟨⟨hC,hX⟩,h1⟩,h2⟩,h3⟩,h4⟩,h5⟩,h6⟩,h7⟩,h8⟩,h9⟩,h10⟩,h11⟩,h12⟩,h13⟩,h14⟩:=h
 have of:∀ {a b:Option (Option Value)},optV a b=true→a=b:=fun h=>of_decide_eq_true h
 refine ⟨by rw [ea]; exact ⟨h1,h2,h3,of h4⟩,fun k hk=>?_,fun k hk k' hk' e=>?_,fun m f hm=>?_,fun k f hp=>?_,by rw [ea]; exact h9,fun hne=>?_,by rw [ea]; exact of_decide_eq_true h11,by rw [ea]; exact of h12,by rw [ea]; exact of_decide_eq_true h13,fun j hj=>?_,fun ty hty=>?_,fun hno=>?_,fun c' i' hi' hx'=>?_,fun f j hf hj=>?_,fun k hk hm=>?_,fun k d hk=>?_⟩
 ·rw [ea]; exact of (List.all_eq_true.mp h5 k hk)
 ·have:=List.all_eq_true.mp (List.all_eq_true.mp h6 k hk) k' hk'
  rw [e] at this
  simpa using this
 ·have z:=all_lookup h7 hm
  cases hj:W.T.fns[f]? with
  | none=>rw [show (m,f).2=f from rfl,hj] at z; cases z
  | some j =>
   rw [show (m,f).2=f from rfl,hj] at z
   simp only [Bool.and_eq_true] at z
   obtain ⟨z1,z2⟩:=z
   unfold methB at z1
   simp only [Bool.and_eq_true] at z1
   refine ⟨j,rfl,by rw [ea]; exact ⟨of z1.1.1,z1.1.2,z1.2⟩,fun k hk e=>?_⟩
   have:=List.all_eq_true.mp z2 k hk
   rw [e] at this
   simp at this
 ·have z:=all_lookup h8 hp
  cases hj:W.T.fns[f]? with
  | none=>rw [show (k,f).2=f from rfl,hj] at z; cases z
  | some j =>
   rw [show (k,f).2=f from rfl,hj] at z
   have z:propB W.K (gadr W.K i.name) (an W.T k) (fadr W.K W.T j.loc)=true:=z
   unfold propB at z
   split at z
   ·rename_i p hp2
    simp only [Bool.and_eq_true] at z
    obtain ⟨⟨z1,z2⟩,z3⟩:=z
    split at z3
    ·rename_i g' rest hr
     refine ⟨j,p,rfl,by rw [ea]; exact ⟨hp2,of z1,of_decide_eq_true z2,rest,by rw [hr,of_decide_eq_true z3]⟩⟩
    ·cases z3
   ·cases z
 ·rw [ea]
  cases hl:i.meths.lookup 6 with
  | none=>exact absurd hl hne
  | some f=>rw [hl] at h10; simp at h10; exact of h10
 ·rw [hj] at h14
  simp only [Bool.and_eq_true] at h14
  rw [ea]
  exact ⟨h14.1.1.1,of h14.1.1.2,h14.1.2,h14.2⟩
 all_goals
  unfold clsX at hX
  simp only [Bool.and_eq_true] at hX
  obtain ⟨⟨⟨⟨x0,x1⟩,x2⟩,x3⟩,x4⟩:=hX
 ·rw [ea]; exact of_decide_eq_true (List.all_eq_true.mp x1 ty hty)
 ·rw [ea]
  rw [hno] at x2
  simp at x2
  exact ⟨of x2.1,of x2.2⟩
 ·have hl:c' < W.T.cls.length:=(List.getElem?_eq_some_iff.mp hi').1
  have z:=List.all_eq_true.mp x3 c' (List.mem_range.mpr hl)
  rw [hi'] at z
  simp only [hx',Bool.false_or] at z
  have ec:W.ca c'=gadr W.K i'.name:=by unfold Wd.ca; rw [hi']
  rw [ea,ec]; exact of_decide_eq_true z
 ·unfold qinB at x0
  rw [hf] at x0
  dsimp only at x0
  rw [hj] at x0
  dsimp only at x0
  simp only [Bool.and_eq_true] at x0
  obtain ⟨⟨y1,y2⟩,y3⟩:=x0
  rw [ea]
  refine ⟨y1,of y2,?_⟩
  split at y3
  ·rename_i v hv
   rw [hv,of_decide_eq_true y3]
  ·cases y3
 ·have z:=List.all_eq_true.mp x4 k hk
  rw [hm] at z
  simp at z
  rw [ea]; exact of z
 ·rw [ea]; exact con_f (all_lookup hC hk)
end
theorem nodupB_ok:∀ {l:List Str},nodupB l=true→l.Nodup
 | [],_ => .nil
 | x::xs,h=>by
  have h:(!(xs.any fun y=>decide (y=x))&&nodupB xs)=true:=h
  rw [Bool.and_eq_true] at h
  rw [List.nodup_cons]
  refine ⟨fun hm=>?_,nodupB_ok h.2⟩
  have:(xs.any fun y=>decide (y=x))=true:=List.any_eq_true.mpr ⟨x,hm,by simp⟩
  rw [this] at h
  exact absurd h.1 (by simp)
theorem scopeB_ok {N:List Str} {k:Nat} {sc:Scope} (h:scopeB N (N.take k) sc=true):FnScope N (N.take k) sc:=by
 unfold scopeB at h
 simp only [Bool.and_eq_true] at h
 obtain ⟨⟨⟨⟨⟨h1,h2⟩,h3⟩,h4⟩,h5⟩,h6⟩:=h
 refine ⟨of_decide_eq_true h1,by simpa using h2,by simpa using h3,nodupB_ok h4,?_,fun x hx=>?_,fun y hy=>?_⟩
 ·rw [List.length_take]
  by_cases z:k≤N.length
  ·rw [Nat.min_eq_left z]
  ·rw [Nat.min_eq_right (by omega),List.take_of_length_le (Nat.le_refl _),List.take_of_length_le (by omega)]
 ·have:=List.all_eq_true.mp h5 x hx
  cases q:sc.names.lookup x with
  | none=>rw [q] at this; cases this
  | some kk=>rw [q] at this; cases kk <;> first | exact .inl rfl | exact .inr rfl | cases this
 ·have:=List.all_eq_true.mp h6 y hy
  simpa using this
section
variable {W:Wd}
theorem dflsB_rep:∀ {ds:List D} {vs:List Value},dflsB ds vs=true→∃ xs,Vals xs vs∧∀ e,RepL W e ds xs
 | [],[],_=>⟨[],.nil,fun _=>rfl⟩
 | d::ds,v::vs,h=>by
  have h:(dflB d v&&dflsB ds vs)=true:=h
  rw [Bool.and_eq_true] at h
  obtain ⟨x,h1,h2⟩:=dflB_rep (W:=W) (e:=⟨fun _=>none,fun _=>none⟩) h.1
  obtain ⟨xs,h3,h4⟩:=dflsB_rep h.2
  exact ⟨x::xs,.cons h1 h3,fun e => .cons (h2 e) (h4 e)⟩
 | [],_::_,h=>by cases h
 | _::_,[],h=>by cases h
end
end Ev
set_option maxRecDepth 100000
set_option maxHeartbeats 4000000
namespace Ev
open PySem PySem.Spec PyProof.Rows L2
section
variable {W:Wd}
theorem fn_t {k:Nat} {i:FnI} (h:fnB W.K W.T k i=true):∃ body scope,FnT W i body scope∧(i.ok=true→chkSs i.names W.T k scope i.body body=true) ∧
  (i.dfl=[]→∀ oc od fd osl,W.K.lookup (fadr W.K W.T i.loc)=some ⟨oc,od,.func fd,osl⟩→∀ us:List Value,us.length=(i.names.take i.np).length→bindArgs fd ⟨us,[]⟩=pure ((i.names.take i.np).zip us)):=by
 unfold fnB at h
 split at h
 ·rename_i oc od fd osl lk
  split at h
  ·rename_i body hbd
   simp only [Bool.and_eq_true] at h
   obtain ⟨⟨⟨⟨⟨⟨⟨⟨⟨⟨h1,h2⟩,h3⟩,h4⟩,h5⟩,h6⟩,h7⟩,h8⟩,h9⟩,h10⟩,h11⟩:=h
   have hfd:fd=PySem.W.fnOf fd.name fd.qualname fd.params body fd.scope fd.defaults fd.kwdefaults fd.doc fd.pyModule fd.annotations fd.code fd.closureTuple:=by
    obtain ⟨_,_,_,_,_,_,_,_,_,_,_,_,_,_,_⟩:=fd
    have e1:=of_decide_eq_true h1
    have e2:=List.isEmpty_iff.mp h2
    have e3:=of_decide_eq_true h3
    simp only at e1 e2 e3 hbd
    subst e1 e2 e3 hbd
    rfl
   unfold parB at h7
   simp only [Bool.and_eq_true] at h7
   obtain ⟨⟨⟨⟨⟨p1,p2⟩,p3⟩,p4⟩,p5⟩,p6⟩:=h7
   have hp:fd.params=⟨[],fd.params.args,none,[],[],none,fd.params.defaults⟩:=by
    generalize fd.params=p at p1 p2 p3 p4 p5 p6 ⊢
    obtain ⟨_,_,_,_,_,_,_⟩:=p
    simp only [List.isEmpty_iff,Option.isNone_iff_eq_none] at p1 p2 p3 p4 p5
    subst p1 p2 p3 p4 p5
    rfl
   have hps:=of_decide_eq_true p6
   have nd:(fd.params.args.map (·.arg)).Nodup:=by rw [hps]; exact (scopeB_ok h10).nd.sublist (List.take_sublist _ _)
   have hlen:fd.params.args.length=i.np:=by rw [← of_decide_eq_true h8,← hps,List.length_map]
   refine ⟨body,fd.scope,⟨?_,scopeB_ok h10,of_decide_eq_true h8⟩,fun ho=>?_,fun hdf oc2 od2 fd2 osl2 lk2 us hl=>?_⟩
   ·unfold dflV at h5
    split at h5
    ·-- no default
     rename_i e1 e2
     refine ⟨fd.name,fd.qualname,fd.params,[],fd,⟨⟨oc,od,fd.defaults,fd.kwdefaults,fd.doc,fd.pyModule,fd.annotations,fd.code,fd.closureTuple,osl,hfd,lk,h4,.inl ⟨rfl,e2⟩,.inl rfl⟩,h6⟩,fun k hk=>⟨[],[],.nil,fun _=>by rw [e1]; simp; exact RepL.nil,?_⟩,fun s us ws _ hl=>?_⟩
     ·refine Binds.all fun us hl=>?_
      rw [← hps] at hl ⊢
      rw [hfd,e2,hp]
      exact bind_plain nd (by simpa using hl)
     ·rw [← hps] at hl ⊢
      refine BindsTo.of_eq ?_
      rw [hfd,e2,hp]
      exact bind_kw nd (by simpa using hl)
    ·rename_i d ds T e1 e2
     split at h5
     ·rename_i oc2 od2 its n2 sl2 lT
      obtain ⟨dvs,rv,rr⟩:=dflsB_rep (W:=W) h5
      have ldv:dvs.length=i.dfl.length:=by rw [e1]; exact (rr ⟨fun _=>none,fun _=>none⟩).length
      have lits:its.toList.length=i.dfl.length:=by rw [← rv.length,ldv]
      refine ⟨fd.name,fd.qualname,fd.params,dvs,fd,⟨⟨oc,od,fd.defaults,fd.kwdefaults,fd.doc,fd.pyModule,fd.annotations,fd.code,fd.closureTuple,osl,hfd,lk,h4,.inr ⟨fun z=>?_,T,_,its.toList,n2,e2,lT,?_,rv⟩,.inl rfl⟩,h6⟩,fun k hk=>⟨its.toList.drop k,dvs.drop k,rv.drop k,fun e=>by rw [e1]; exact (rr e).drop k,fun s us hK hl=>?_⟩,fun s us ws hK hl=>?_⟩
      ·rw [z,e1] at ldv; cases ldv
      ·simp
      ·have hl2:us.length+(its.toList.length - k)=fd.params.args.length:=by
        have:=hl
        rw [← hps,List.length_append,List.length_drop,List.length_map] at this
        exact this
       have h9':=of_decide_eq_true h9
       obtain ⟨kk,b1,b2⟩:=bind_dfl (x:=fd.name) (qual:=fd.qualname) (dx:=fd.params.defaults) (body:=body) (scope:=fd.scope) (kV:=fd.kwdefaults) (doc:=fd.doc) (pm:=fd.pyModule) (an:=fd.annotations) (cdv:=fd.code) (ct:=fd.closureTuple) (T:=T) (us:=us) (its:=its.toList) nd (by omega) (by omega) (by omega)
       rw [show us.length+its.toList.length - fd.params.args.length=k by omega] at b2
       refine BindsTo.of_looks fun M=>?_
       rw [hfd,e2,hp,b1,← hps]
       have b3:kk (some its)=pure ((List.map (fun x=>x.arg) fd.params.args).zip (us++List.drop k its.toList)):=by simpa using b2
       exact looks_items hK lT rfl (.of_pure b3)
      ·rw [← hps] at hl ⊢
       have h9':=of_decide_eq_true h9
       obtain ⟨kk,b1,b2⟩:=bind_kwd (x:=fd.name) (qual:=fd.qualname) (dx:=fd.params.defaults) (body:=body) (scope:=fd.scope) (kV:=fd.kwdefaults) (doc:=fd.doc) (pm:=fd.pyModule) (an:=fd.annotations) (cdv:=fd.code) (ct:=fd.closureTuple) (T:=T) (us:=us) (ws:=ws) (its:=its.toList) nd (by simpa using hl) (by omega)
       refine BindsTo.of_looks fun M=>?_
       rw [hfd,e2,hp,b1]
       have b3:kk (some its)=pure ((List.map (fun x=>x.arg) fd.params.args).zip (us++ws.reverse)):=by simpa using b2
       exact looks_items hK lT rfl (.of_pure b3)
     ·cases h5
    ·cases h5
   ·rw [ho] at h11
    simpa using h11
   ·rw [lk] at lk2
    cases lk2
    have e2:fd.defaults = .none:=by
     unfold dflV at h5
     rw [hdf] at h5
     split at h5
     ·assumption
     ·rename_i e1 _; cases e1
     ·cases h5
    rw [← hps] at hl ⊢
    rw [hfd,e2,hp]
    exact bind_plain nd (by simpa using hl)
  ·cases h
 ·cases h
end
end Ev
set_option maxRecDepth 100000
set_option maxHeartbeats 4000000
namespace Ev
open PySem PySem.Spec PyProof.Rows L2
theorem nsc2_ok {N ps fr:List Str} {sc:Scope} (h:nsc2 N ps fr sc=true):NdefX.NScope N ps fr sc:=by
 unfold nsc2 at h
 simp only [Bool.and_eq_true,Bool.not_eq_true',decide_eq_true_eq,List.all_eq_true,Bool.or_eq_true,decide_eq_false_iff_not,List.any_eq_true] at h
 obtain ⟨⟨⟨⟨⟨⟨⟨⟨h1,h2⟩,h3⟩,h4⟩,h5⟩,h6⟩,h7⟩,h8⟩,h9⟩:=h
 exact ⟨h1,h2,h3,nodupB_ok h4,h5,h6,h7,fun y hy e=>(h8 y hy).elim (fun z=>absurd e z) fun ⟨z,z1,z2⟩=>z2▸z1,h9⟩
section
variable {W:Wd}
theorem file_ok {f:Str} {o:Option Value} (h:fileB f o=true):∃ t,o=some (.str f t):=by
 unfold fileB at h
 split at h
 ·exact ⟨_,by rw [of_decide_eq_true h]⟩
 ·cases h
theorem code_ok {K:PySem.W.Frag} {f:Str} {c:Addr} (h:codeB K f c=true):∃ ccl cdd vs ccs t,K.lookup c=some ⟨ccl,cdd,.fields vs,ccs⟩∧vs[2]?=some (.str f t):=by
 unfold codeB at h
 split at h
 ·rename_i e
  obtain ⟨t,ht⟩:=file_ok h
  exact ⟨_,_,_,_,t,e,ht⟩
 ·cases h
theorem cell_ok {K:PySem.W.Frag} {c a:Addr} (h:cellB K c a=true):∃ cl cld csl,K.lookup c=some ⟨cl,cld,.cell (some (.ref a)),csl⟩:=by
 unfold cellB at h
 split at h
 ·rename_i e
  rw [of_decide_eq_true h] at e
  exact ⟨_,_,_,e⟩
 ·cases h
theorem none_ok {v:Value} (h:noneV v=true):v = .none:=by
 unfold noneV at h
 split at h
 ·rfl
 ·cases h
theorem last_ok {T:Tb} {k:Nat} {i:FnI} {p:SupI} {sc:Scope} {body:List Stmt} (h:lastB T k i p sc body=true):∃ pre p0 p1 apos cpos epos e0 es,body=pre++[.Expr (.Call (.Attribute (.Call (.Name "super" p0) [] [] p1) p.m apos) (e0::es) [] cpos) epos]∧(apos.endLine == cpos.line)=true∧(e0::es).all noStar=true∧decide ((e0::es).length < 30)=true ∧
  chkSs i.names T k sc i.body pre=true∧chkEs i.names T k sc p.args (e0::es)=true:=by
 unfold lastB at h
 split at h
 ·rename_i sn p0 p1 m apos e0 es cpos epos pre e
  obtain ⟨h,h7⟩:=and2 h
  obtain ⟨h,h6⟩:=and2 h
  obtain ⟨h,h5⟩:=and2 h
  obtain ⟨h,h4⟩:=and2 h
  obtain ⟨h,h3⟩:=and2 h
  obtain ⟨h1,h2⟩:=and2 h
  cases of_decide_eq_true h1
  cases of_decide_eq_true h2
  have e2:=congrArg List.reverse e
  rw [List.reverse_reverse,List.reverse_cons] at e2
  exact ⟨pre.reverse,p0,p1,apos,cpos,epos,e0,es,e2,h3,h4,h5,h6,h7⟩
 ·cases h
theorem sup_t {k:Nat} {i:FnI} {p:SupI} (h:supB W.K W.T k i p=true):∃ pre scope d,SupT W i p pre scope d∧chkSs i.names W.T k scope i.body pre=true∧chkEs i.names W.T k scope p.args (d.e0::d.es)=true:=by
 unfold supB at h
 split at h
 ·rename_i oc od fd osl lk
  split at h
  ·rename_i body x cc cda hb hcl hcd
   unfold supB2 at h
   obtain ⟨h,h18⟩:=and2 h
   obtain ⟨h,h17⟩:=and2 h
   obtain ⟨h,h16⟩:=and2 h
   obtain ⟨h,h15⟩:=and2 h
   obtain ⟨h,h14⟩:=and2 h
   obtain ⟨h,h13⟩:=and2 h
   obtain ⟨h,h12⟩:=and2 h
   obtain ⟨h,h11⟩:=and2 h
   obtain ⟨h,h10⟩:=and2 h
   obtain ⟨h,h9⟩:=and2 h
   obtain ⟨h,h8⟩:=and2 h
   obtain ⟨h,h7⟩:=and2 h
   obtain ⟨h,h6⟩:=and2 h
   obtain ⟨h,h5⟩:=and2 h
   obtain ⟨h,h4⟩:=and2 h
   obtain ⟨h,h3⟩:=and2 h
   obtain ⟨h1,h2⟩:=and2 h
   cases of_decide_eq_true h1
   split at h17
   ·rename_i j hj
    obtain ⟨h17,m3⟩:=and2 h17
    obtain ⟨m1,m2⟩:=and2 h17
    obtain ⟨pre,p0,p1,apos,cpos,epos,e0,es,eb,l1,l2,l3,l4,l5⟩:=last_ok h18
    obtain ⟨ccl,cdd,vs,ccs,tf,c1,c2⟩:=code_ok h5
    obtain ⟨cl,cld,csl,c3⟩:=cell_ok h6
    obtain ⟨cdD,c4⟩:=Option.isSome_iff_exists.mp h7
    have h10:=none_ok h10
    have hfd:fd=PySem.W.ksFn fd.name fd.qualname fd.params body fd.scope fd.defaults fd.kwdefaults fd.doc fd.pyModule fd.annotations (.ref cda) fd.closureTuple cc:=by
     obtain ⟨_,_,_,_,_,_,_,_,_,_,_,_,_,_,_⟩:=fd
     have e1:=of_decide_eq_true h2
     have e3:=of_decide_eq_true h3
     simp only at e1 hcl e3 hb hcd
     subst e1 hcl e3 hb hcd
     rfl
    unfold parB at h9
    simp only [Bool.and_eq_true] at h9
    obtain ⟨⟨⟨⟨⟨q1,q2⟩,q3⟩,q4⟩,q5⟩,q6⟩:=h9
    have hp:fd.params=⟨[],fd.params.args,none,[],[],none,fd.params.defaults⟩:=by
     generalize fd.params=p at q1 q2 q3 q4 q5 q6 ⊢
     obtain ⟨_,_,_,_,_,_,_⟩:=p
     simp only [List.isEmpty_iff,Option.isNone_iff_eq_none] at q1 q2 q3 q4 q5
     subst q1 q2 q3 q4 q5
     rfl
    have hps:=of_decide_eq_true q6
    have S:=nsc2_ok h14
    have hnp:=of_decide_eq_true h11
    have np0:=of_decide_eq_true h12
    have nd:(fd.params.args.map (·.arg)).Nodup:=by rw [hps]; exact S.nd.sublist (List.take_sublist _ _)
    have hlen:fd.params.args.length=i.np:=by rw [← hnp,← hps,List.length_map]
    obtain ⟨ar,r,har⟩:∃ ar r,fd.params.args=ar::r:=by
     cases z:fd.params.args with
     | nil=>rw [z] at hlen; simp at hlen; omega
     | cons a r=>exact ⟨a,r,rfl⟩
    have hx0:i.names[0]?=some ar.arg:=by
     have z:(i.names.take i.np)[0]?=some ar.arg:=by rw [← hps,har]; rfl
     rw [List.getElem?_take,if_pos np0] at z
     exact z
    have hpos:fd.params.posonlyargs=[]:=List.isEmpty_iff.mp q1
    have efd:fd=SupD.fd ⟨fd.name,fd.qualname,fd.params,fd.defaults,fd.kwdefaults,fd.doc,fd.pyModule,fd.closureTuple,oc,fd.annotations,od,osl,cda,cc,p0,p1,apos,cpos,epos,ccl,cl,cdd,cld,ccs,csl,vs,tf,ar,cdD,e0,es,j⟩ p pre fd.scope:=by
     rw [eb] at hfd
     exact hfd
    refine ⟨pre,fd.scope,⟨fd.name,fd.qualname,fd.params,fd.defaults,fd.kwdefaults,fd.doc,fd.pyModule,fd.closureTuple,oc,fd.annotations,od,osl,cda,cc,p0,p1,apos,cpos,epos,ccl,cl,cdd,cld,ccs,csl,vs,tf,ar,cdD,e0,es,j⟩,?_,l4,l5⟩
    refine ⟨by rw [← efd]; exact lk,h4,c1,c2,c3,c4,of_decide_eq_true h8,by show (fd.params.posonlyargs++fd.params.args).head?=some ar; rw [hpos,har]; rfl,hx0,fun s us hl=>?_,fun s us ws _ hl=>?_,S,of_decide_eq_true h15,hnp,np0,List.isEmpty_iff.mp h13,by simpa using h16,hj,of_decide_eq_true m1,m2,of_decide_eq_true m3,l1,l2,l3⟩
    ·rw [← efd,← hps]
     refine BindsTo.of_eq ?_
     rw [hfd,h10,hp]
     show bindArgs (PySem.W.fnOf fd.name fd.qualname ⟨[],fd.params.args,none,[],[],none,fd.params.defaults⟩ body fd.scope .none fd.kwdefaults fd.doc fd.pyModule fd.annotations (.ref cda) fd.closureTuple) ⟨us,[]⟩=_
     exact bind_plain nd (by rw [hl,hlen])
    ·rw [← hps,List.length_map] at hl
     rw [← efd,← hps]
     refine BindsTo.of_eq ?_
     rw [hfd,h10,hp]
     show bindArgs (PySem.W.fnOf fd.name fd.qualname ⟨[],fd.params.args,none,[],[],none,fd.params.defaults⟩ body fd.scope .none fd.kwdefaults fd.doc fd.pyModule fd.annotations (.ref cda) fd.closureTuple) ⟨us,_⟩=_
     exact bind_kw nd hl
   ·cases h17
  ·cases h
 ·cases h
end
end Ev
set_option maxRecDepth 100000
set_option maxHeartbeats 4000000
namespace Ev
open PySem PySem.Spec PyProof.Rows L2
theorem ns_here {K:PySem.W.Frag} {h:Heap} {a:Addr} {m:Str→Option Value} {x:Str} {v:Option Value} (X:K.In h) (G:h.Ns a m) (e:PySem.W.nsIn K a x=some v):m x=v:=by
 obtain ⟨ob,ents,ep,hob,hdat,_,look⟩:=G
 unfold PySem.W.nsIn at e
 cases hk:K.lookup a with
 | none=>rw [hk] at e; cases e
 | some o2 =>
  have z:=X a o2 hk
  rw [hob] at z
  cases z
  obtain ⟨c1,c2,c3,c4⟩:=ob
  have hdat:c3 = .dict ents ep:=hdat
  subst hdat
  rw [hk] at e
  rw [← look x]
  unfold nsFind findBy
  rw [← Array.find?_toList]
  have e:(match ents.toList.find? (·.key.isStr x) with
   | some e=>some (some e.val)
   | none=>if ents.toList.any (·.refKey) then none else some none)=some v:=e
  cases hq:ents.toList.find? (·.key.isStr x) with
  | some en =>
   rw [hq] at e
   cases e
   rfl
  | none =>
   rw [hq] at e
   have e:(if ents.toList.any (·.refKey) then none else some none)=some v:=e
   split at e
   ·cases e
   ·cases e; rfl
theorem optV_eq {a b:Option (Option Value)} (h:optV a b=true):a=b:=of_decide_eq_true h
theorem noSeer_of {K:PySem.W.Frag} {mg:Str→Option Value} {h:Heap} (M:Mod K mg h) (b:seerB K=true):h.NoSeer:=by
 unfold seerB noneAt at b
 simp only [Bool.and_eq_true] at b
 obtain ⟨⟨⟨⟨b1,b2⟩,b3⟩,b4⟩,b5⟩:=b
 refine ⟨?_,?_,M.blt,?_⟩
 ·obtain ⟨mc,n1,_⟩:=M.nolimit
  exact ⟨mc,n1,ns_here M.kin n1 (optV_eq b1),ns_here M.kin n1 (optV_eq b2)⟩
 ·split at b4
  ·rename_i c1 c2 es ep c4 hk
   have hn:h.Ns sysModules (nsFind es):=⟨_,es,ep,M.kin _ _ hk,rfl,(fun e he=>by
    have z:=List.all_eq_true.mp b4 e (Array.mem_toList_iff.mpr he)
    cases q:e.key with
    | str n t=>exact ⟨n,t,rfl⟩
    | _=>rw [q] at z; cases z),fun _=>rfl⟩
   exact ⟨_,hn,ns_here M.kin hn (optV_eq b3)⟩
  ·cases b4
 ·split at b5
  ·rename_i bm hb
   split at b5
   ·rename_i ob hk
    rw [Bool.and_eq_true] at b5
    exact ⟨mg,bm,ob,M.glob,ns_here M.kin M.glob hb,M.kin _ _ hk,of_decide_eq_true b5.1,of_decide_eq_true b5.2⟩
   ·cases b5
  ·cases b5
section
variable {W:Wd}
theorem ca_eq (c:Nat):W.ca c=caK W.K W.T c:=rfl
theorem ty_eq (t:Ty):tyV W t=tyK W.K W.T t:=by cases t <;> rfl
theorem kd_eq (k:Kd):kdV W k=kdK W.K W.T k:=by cases k <;> rfl
theorem ty_mem {T:Tb}:∀ {t:Ty},tyIn T t=true→t∈tysOf T
 | .non,_=>by simp [tysOf]
 | .bl,_=>by simp [tysOf]
 | .int,_=>by simp [tysOf]
 | .str,_=>by simp [tysOf]
 | .lst,_=>by simp [tysOf]
 | .tup,_=>by simp [tysOf]
 | .dct,_=>by simp [tysOf]
 | .ins c,h=>by
  have hc:c < T.cls.length:=by
   rcases Nat.lt_or_ge c T.cls.length with z | z
   ·exact z
   ·have h:(T.cls[c]?).isSome=true:=h
    rw [List.getElem?_eq_none_iff.mpr z] at h; cases h
  simp [tysOf,hc]
theorem kd_mem {T:Tb}:∀ {k:Kd},kdIn T k=true→k∈kdsOf T
 | .int,_=>by simp [kdsOf]
 | .str,_=>by simp [kdsOf]
 | .bool,_=>by simp [kdsOf]
 | .list,_=>by simp [kdsOf]
 | .tuple,_=>by simp [kdsOf]
 | .verr,_=>by simp [kdsOf]
 | .arerr,_=>by simp [kdsOf]
 | .lkerr,_=>by simp [kdsOf]
 | .cls c,h=>by
  have hc:c < T.cls.length:=by
   rcases Nat.lt_or_ge c T.cls.length with z | z
   ·exact z
   ·have h:(T.cls[c]?).isSome=true:=h
    rw [List.getElem?_eq_none_iff.mpr z] at h; cases h
  simp [kdsOf,hc]
theorem glb_ok (M:Mod W.K W.mg W.base) {x:Str} {a:Addr} (h:glbB W.K x a=true):W.mg x=some (.ref a)∧PySem.W.keepIn W.K (.ref a)=true:=by
 unfold glbB at h
 rw [Bool.and_eq_true] at h
 exact ⟨ns_here M.kin M.glob (optV_eq h.1),h.2⟩
theorem ext_f {K:PySem.W.Frag} {C:Addr} {b:EvT.Bk} (h:extB K C b=true):EvT.ExT K C b:=by
 unfold extB at h
 simp only [Bool.and_eq_true] at h
 obtain ⟨⟨⟨⟨h1,h2⟩,h3⟩,h4⟩,h5⟩:=h
 refine ⟨?_,optV_eq h2,of_decide_eq_true h3,of_decide_eq_true h4,h5⟩
 split at h1
 ·rename_i dd cd sl ho
  split at h1
  ·rename_i C' bm k0 k1 k2 k3 nn k5 hm hs
   simp only [Bool.and_eq_true] at h1
   obtain ⟨⟨⟨⟨q1,q2⟩,q3⟩,q4⟩,q5⟩:=h1
   obtain rfl:=of_decide_eq_true q1
   obtain rfl:=of_decide_eq_true q2
   obtain ⟨nm,bs,mro,ns,qn,hd,sn,sub,ab,col,del⟩:=cd
   dsimp only at hm q3 q4
   have q3:del=false:=by simpa using q3
   subst hm q3 q4
   obtain ⟨l⟩:=sl
   have hs:l=_:=hs
   subst hs
   exact ⟨nm,qn,ns,bs,bm,sn,sub,ab,col,dd,k0,k1,k2,k3,k5,ho,of_decide_eq_true q5⟩
  ·cases h1
 ·cases h1
theorem init_f {K:PySem.W.Frag} {c:Value} {b:EvT.Bk} (h:initB K c b=true):PySem.W.findCls K c (.type "type") "__init__" = some (.val (.builtin b.initId)):=by
 unfold initB at h
 split at h
 ·rename_i v hv
  rw [hv,of_decide_eq_true h]
 ·cases h
theorem base_f (M:Mod W.K W.mg W.base) {b:EvT.Bk} {x:Str} (h:baseB W.K b x=true):EvT.BaseN W.K W.mg b x:=by
 unfold baseB at h
 rw [Bool.or_eq_true] at h
 rcases h with h | h
 ·simp only [Bool.and_eq_true] at h
  exact .inl ⟨of_decide_eq_true h.1.1,ns_here M.kin M.glob (optV_eq h.1.2),init_f h.2⟩
 ·split at h
  ·rename_i S hS
   simp only [Bool.and_eq_true] at h
   exact .inr ⟨S,ns_here M.kin M.glob hS,h.1.1,optV_eq h.1.2,init_f h.2⟩
  ·cases h
theorem locN_f {sc:Scope} {x:Str} (h:locN sc x=true):sc.names.lookup x=some .local∧(x == ("__debug__" : Str))=false∧(x == ("__classdict__" : Str))=false:=by
 unfold locN at h
 simp only [Bool.and_eq_true] at h
 exact ⟨of_decide_eq_true h.1.1,by simpa using h.1.2,by simpa using h.2⟩
theorem xbody_f (M:Mod W.K W.mg W.base) {b:EvT.Bk} {f:Str} {N:List Str} {sc:Scope} {body:List Stmt} (h:xbodyB W.K b f N sc body=true):XBody W.K W.mg b f N sc body:=by
 unfold xbodyB at h
 split at h
 ·rename_i bn p1 m p2 sf p3 txt j p4 p5 p6 sf2 p7 f2 p8 vl p9 p10
  simp only [Bool.and_eq_true] at h
  obtain ⟨⟨⟨⟨⟨⟨⟨⟨⟨h1,h2⟩,h3⟩,h4⟩,h5⟩,h6⟩,h7⟩,h8⟩,h9⟩,h10⟩:=h
  cases of_decide_eq_true h1
  cases of_decide_eq_true h2
  cases of_decide_eq_true h3
  obtain ⟨a1,a2,a3⟩:=locN_f h6
  obtain ⟨b1,b2,b3⟩:=locN_f h7
  exact ⟨_,_,_,_,_,_,_,_,_,_,_,_,_,_,_,of_decide_eq_true h4,rfl,h5,a1,b1,of_decide_eq_true h8,by simpa using h9,a2,a3,b2,b3,base_f M h10⟩
 ·cases h
theorem xm_f (M:Mod W.K W.mg W.base) {a:Addr} {i:ClI} (h:xmB W.K W.T a i=true) (hne:i.flds≠[]):∃ (b:EvT.Bk) (k:Nat) (j:FnI) (body:List Stmt) (scope:Scope),EvT.ExT W.K a b∧i.flds=[k]∧PySem.W.findIn W.K (.ref a) (an W.T k)=some none∧W.T.fns[i.init]?=some j ∧
  PySem.W.findIn W.K (.ref a) "__init__" = some (some (.ref (fadr W.K W.T j.loc)))∧PySem.W.typeIn W.K (.ref (fadr W.K W.T j.loc))=some (.type "function")∧FnT W j body scope∧j.np=2∧j.dfl=[]∧XBody W.K W.mg b (an W.T k) j.names scope body:=by
 unfold xmB at h
 split at h
 ·rename_i k j hfl hj
  simp only [Bool.and_eq_true] at h
  obtain ⟨⟨⟨⟨⟨⟨h1,h2⟩,h3⟩,h4⟩,h5⟩,h6⟩,h7⟩:=h
  obtain ⟨b,_,hb⟩:=List.any_eq_true.mp h1
  rw [Bool.and_eq_true] at hb
  obtain ⟨body,scope,ft,_⟩:=fn_t (W:=W) (k:=0) h5
  have hbody:initBody W.K (fadr W.K W.T j.loc)=some (scope,body):=by
   obtain ⟨x,qual,params,dvs,fd,F,_⟩:=ft.ex
   obtain ⟨oc,od,dV,kV,doc,pm,an',cdv,ct,osl,rfl,lk,_⟩:=F.ex
   unfold initBody
   rw [lk]
   try rfl
  have hb2:=hb.2
  rw [hbody] at hb2
  exact ⟨b,k,j,body,scope,ext_f hb.1,hfl,optV_eq h2,hj,optV_eq h3,of_decide_eq_true h4,ft,of_decide_eq_true h6,List.isEmpty_iff.mp h7,xbody_f M hb2⟩
 ·rename_i hfl
  exact absurd hfl hne
 ·cases h
theorem xc_f (M:Mod W.K W.mg W.base) {c:Nat} {i:ClI} (hi:W.T.cls[c]?=some i) (h:xcB W.K W.T i=true):ExcF W c i:=by
 have ea:W.ca c=gadr W.K i.name:=by unfold Wd.ca; rw [hi]
 unfold xcB at h
 dsimp only at h
 simp only [Bool.and_eq_true] at h
 obtain ⟨⟨⟨⟨⟨h1,h8⟩,h9⟩,h10⟩,h11⟩,h12⟩:=h
 refine ⟨fun hne=>by rw [ea]; exact xm_f M h1 hne,by rw [ea]; exact xfB_ok h8,by rw [ea]; exact optV_eq h9,by rw [ea]; exact of_decide_eq_true h10,by rw [ea]; exact h11,fun c' i' hi' hx'=>?_⟩
 have l2:c' < W.T.cls.length:=(List.getElem?_eq_some_iff.mp hi').1
 have z:=List.all_eq_true.mp h12 c' (by simp [l2])
 rw [hi'] at z
 simp only [hx'] at z
 rw [ea,ca_eq c']
 unfold isSubc
 rw [hi]
 exact of_decide_eq_true (by simpa using z)
theorem glc_ok (M:Mod W.K W.mg W.base) {x:Str} {d:D} (h:glcB W.K x d=true):∃ u v,W.mg x=some u∧vC d=some v∧RelV v u:=by
 unfold glcB at h
 split at h
 ·rename_i i t j e
  cases of_decide_eq_true h
  exact ⟨_,_,ns_here M.kin M.glob e,rfl,_,rfl⟩
 ·rename_i i t j e
  cases of_decide_eq_true h
  exact ⟨_,_,ns_here M.kin M.glob e,rfl,_,rfl⟩
 ·cases h
theorem nsIn_vals {K:PySem.W.Frag} {x:Str} {kvs:List (Str×D)} (h:gdvB K x kvs=true) {k:Str} {d:D} (hk:dGet kvs k=some d):∃ u v,PySem.W.nsIn K (gdA K x) k=some (some u)∧vC d=some v∧RelV v u:=by
 unfold dGet at hk
 obtain ⟨p,hp,rfl⟩:=Option.map_eq_some_iff.mp hk
 have hm:=List.mem_of_find?_eq_some hp
 have e:p.1=k:=by simpa using List.find?_some hp
 unfold gdvB at h
 rw [Bool.and_eq_true] at h
 have z:=List.all_eq_true.mp h.2 p hm
 rw [e] at z
 split at z
 ·rename_i s t j e1 e2
  cases of_decide_eq_true z
  exact ⟨_,.str _,e1,by rw [e2]; rfl,_,rfl⟩
 ·cases z
theorem keysOf {P:Params}:∀ {l:List DictEntry} {ks:List Str},l.map He.keyOf=He.keysIn P ks→∀ e∈l,∃ k t,k∈ks∧e.key = .str k t
 | [],_,_,e,he=>by cases he
 | a::r,[],h,e,he=>by cases h
 | a::r,k::ks,h,e,he=>by
  have h1:He.keyOf a::r.map He.keyOf=some (k,PyData.keyHash P k)::He.keysIn P ks:=h
  injection h1 with h2 h3
  rcases List.mem_cons.mp he with rfl | he
  ·unfold He.keyOf at h2
   split at h2
   ·rename_i x t q
    obtain ⟨h5,h6⟩:=Prod.mk.inj (Option.some.inj h2)
    exact ⟨k,t,List.mem_cons_self,by rw [q,h5]⟩
   ·cases h2
  ·obtain ⟨k',t,m,q⟩:=keysOf h3 e he
   exact ⟨k',t,List.mem_cons_of_mem _ m,q⟩
theorem nsIn_none {K:PySem.W.Frag} {w:World} {a:Addr} {kvs:List (Str×D)} {es:Array DictEntry} {n:Nat} (h:He.dicW K a=some (He.keysIn w.params (kvs.map (·.1)))) (D:L2.KDict K w a es n) {k:Str} (hk:dGet kvs k=none):PySem.W.nsIn K a k=some none:=by
 have l:=D.at_
 unfold He.dicW at h
 rw [l] at h
 have hm:es.toList.map He.keyOf=He.keysIn w.params (kvs.map (·.1)):=by
  dsimp only at h
  split at h
  ·exact Option.some.inj h
  ·cases h
 unfold PySem.W.nsIn
 rw [l]
 have no:∀ e∈es.toList,e.key.isStr k=false∧e.refKey=false:=fun e he=>by
  obtain ⟨k',t,m,q⟩:=keysOf hm e he
  have ne:k'≠k:=fun z=>by
   subst z
   obtain ⟨p,hp,rfl⟩:=List.mem_map.mp m
   unfold dGet at hk
   rw [Option.map_eq_none_iff,List.find?_eq_none] at hk
   exact hk p hp (by simp)
  refine ⟨?_,?_⟩
  ·unfold Value.isStr
   rw [q]
   simp [ne]
  ·unfold DictEntry.refKey
   rw [q]
 have f1:es.toList.find? (·.key.isStr k)=none:=by
  rw [List.find?_eq_none]
  intro e he
  rw [(no e he).1]; simp
 have f2:es.toList.any (·.refKey)=false:=by
  rw [List.any_eq_false]
  intro e he
  rw [(no e he).2]; simp
 dsimp only
 rw [f1]
 dsimp only
 rw [f2]
 rfl
theorem gds_ok (M:Mod W.K W.mg W.base) {x:Str} {kvs:List (Str×D)} (hm:(x,kvs)∈W.T.gds) (h:gdvB W.K x kvs=true) (hk:gdK W.K W.T=gdV W.T W.w):∃ (A:Addr) (es:Array DictEntry) (n:Nat),W.mg x=some (.ref A)∧L2.KDict W.K W.w A es n∧(∀ k d,dGet kvs k=some d→∃ u v,PySem.W.nsIn W.K A k=some (some u)∧vC d=some v∧RelV v u)∧∀ k,dGet kvs k=none→PySem.W.nsIn W.K A k=some none:=by
 have e:He.dicW W.K (gdA W.K x)=some (He.keysIn W.w.params (kvs.map (·.1))):=by
  have:=List.map_inj_left.mp hk (x,kvs) hm
  exact this
 obtain ⟨es,n,D⟩:=He.dicW_ok e
 refine ⟨gdA W.K x,es,n,?_,D,fun k d hd=>nsIn_vals h hd,fun k hk=>nsIn_none e D hk⟩
 unfold gdvB at h
 rw [Bool.and_eq_true] at h
 have h1:=h.1
 unfold gdA
 split at h1
 ·rename_i a e1
  exact ns_here M.kin M.glob e1
 ·cases h1
theorem all_ok {fuel:Nat} (M:Mod W.K W.mg W.base) (tr:W.P.given.tree=none) (fl:W.P.main.file=W.T.file) (ns:(W.P.main.scope.names.lookup ("super" : Str)).isSome=false) (h:allB W.K W.T fuel=true) (hk:gdK W.K W.T=gdV W.T W.w):Txt W∧Defs W:=by
 unfold allB at h
 simp only [Bool.and_eq_true] at h
 obtain ⟨⟨⟨⟨⟨⟨⟨⟨⟨⟨⟨⟨⟨⟨⟨⟨h1,h2⟩,h3⟩,h4⟩,h5⟩,h6⟩,h7⟩,h8⟩,h9⟩,h10⟩,h11⟩,h12⟩,h13⟩,h14⟩,h15⟩,h16⟩,h17⟩:=h
 refine ⟨⟨fun t k ht hk=>?_,optV_eq h3,of_decide_eq_true h4,fun j x hx=>?_,fun c i hc hx=>?_,fun c i hc hx=>?_,fun c c' i i' hc hc' e=>?_,fun f i x hf hl=>?_,fun c i hc=>?_,fun x hx=>?_,noSeer_of M h10,tr,fl,ns,ns_here M.kin M.glob (optV_eq h14),optV_eq h15,fun x d hx=>glc_ok M (List.all_eq_true.mp h16 _ hx),fun x kvs hx=>gds_ok M hx (List.all_eq_true.mp h17 _ hx) hk⟩,⟨fun f i hf ho=>?_,fun c k i hc hv hf=>?_⟩⟩
 ·have z:=List.all_eq_true.mp h2 t (ty_mem ht)
  rw [ht] at z
  have z:((kdsOf W.T).all fun k=>decide (PySem.W.kitOne W.K (tyK W.K W.T t) (kdK W.K W.T k)=some (isTy W.T t k)))=true:=z
  have z:=List.all_eq_true.mp z k (kd_mem hk)
  rw [ty_eq,kd_eq]
  exact of_decide_eq_true z
 ·have z:=of_decide_eq_true h1
  have e:(W.T.ats.take DUN.length)[j]?=some x:=by rw [z]; exact hx
  have hj:j < DUN.length:=(List.getElem?_eq_some_iff.mp hx).1
  rw [List.getElem?_take,if_pos hj] at e
  unfold an
  rw [List.getD_eq_getElem?_getD,e]; rfl
 ·have z:=List.all_eq_true.mp h5 i (List.mem_of_getElem? hc)
  rw [hx] at z
  exact cls_f hc z
 ·have z:=List.all_eq_true.mp h5 i (List.mem_of_getElem? hc)
  rw [hx] at z
  exact xc_f M hc z
 ·have l1:c < W.T.cls.length:=(List.getElem?_eq_some_iff.mp hc).1
  have l2:c' < W.T.cls.length:=(List.getElem?_eq_some_iff.mp hc').1
  have z:=List.all_eq_true.mp (List.all_eq_true.mp h6 c (by simp [l1])) c' (by simp [l2])
  rw [← ca_eq,← ca_eq,e] at z
  simpa using z
 ·have z:=List.all_eq_true.mp h7 i (List.mem_of_getElem? hf)
  rw [hl] at z ⊢
  exact glb_ok M z
 ·have z:=List.all_eq_true.mp h8 i (List.mem_of_getElem? hc)
  have e:W.ca c=gadr W.K i.name:=by unfold Wd.ca; rw [hc]
  rw [e]
  exact glb_ok M z
 ·exact ns_here M.kin M.glob (optV_eq (List.all_eq_true.mp h9 x hx))
 ·have z:=List.all_eq_true.mp h12 i (List.mem_of_getElem? hf)
  rw [ho] at z
  cases hs:i.sup with
  | none =>
   rw [hs] at z
   obtain ⟨body,scope,t,b,_⟩:=fn_t (W:=W) (k:=fuel) (i:=i) (by simpa using z)
   exact ⟨body,scope,.inl ⟨rfl,t,body_ok fuel (b ho)⟩⟩
  | some p =>
   rw [hs] at z
   obtain ⟨pre,scope,d,t,b1,b2⟩:=sup_t (W:=W) (k:=fuel) (i:=i) (p:=p) (by simpa using z)
   exact ⟨pre,scope,.inr ⟨p,d,rfl,t,body_ok fuel b1,sup_args fuel b2⟩⟩
 ·have z:=List.all_eq_true.mp h13 k (List.mem_of_getElem? hc)
  rw [hv,hf] at z
  have z:(decide (0 < i.np)&&i.sup.isNone)=true:=by simpa using z
  obtain ⟨z1,z2⟩:=and2 z
  exact ⟨of_decide_eq_true z1,by simpa using z2⟩
end
end Ev
set_option maxRecDepth 100000
set_option maxHeartbeats 4000000
namespace Ev
open PySem PySem.Spec PyProof.Rows L2
abbrev Al:Type:=Bool×List (Option (List (Option (Str×Int))))
def seen (T:Tb) (n:List Addr) (fuel:Nat) (g:Addr→Option Obj):Al:=(allB (He.frG g n) T fuel,gdK (He.frG g n) T)
def hookT (T:Tb) (n:List Addr) (fuel:Nat):PySem.W.Hook where
 α:=Al
 obs:=fun s=>seen T n fuel s.heap.get?
 val:=fun w=>(true,gdV T w)
 says:=fun w h=>∃ K:PySem.W.Frag,K.In h∧allB K T fuel=true∧gdK K T=gdV T w
 of:=fun _ _ e=>⟨_,He.frG_in,congrArg (fun z:Al=>z.1) e,congrArg (fun z:Al=>z.2) e⟩
 keeps:=fun _ _ _ ⟨K,hK,c⟩ k=>⟨K,PySem.W.Frag.In.keeps hK k,c⟩
def obT (T:Tb) (n:List Addr) (fuel:Nat) (s:PySem.W.SharedT):Al:=seen T n fuel (HandSHeadRun.getT s)
theorem obT_eq (T:Tb) (n:List Addr) (fuel:Nat) (s:PySem.W.SharedT):obT T n fuel s=(hookT T n fuel).obs s.abs:=by
 have e:HandSHeadRun.getT s=s.abs.heap.get?:=funext (HandSHeadRun.getT_eq s)
 show seen T n fuel (HandSHeadRun.getT s)=seen T n fuel s.abs.heap.get?
 rw [e]
theorem mem_look {β:Type} {a:Addr} {o:β}:∀ {l:List (Addr×β)},l.lookup a=some o→(a,o)∈l
 | [],h=>by cases h
 | (b,u)::l,h=>by
  rw [List.lookup_cons] at h
  split at h
  ·rename_i hk
   cases h
   rw [beq_iff_eq.mp hk]
   exact List.mem_cons_self
  ·exact List.mem_cons_of_mem _ (mem_look h)
theorem sqX_of {K:PySem.W.Frag} {H:Hp} {a:Addr} {vs:List V} (hb:lstB K=true) (h:SqL K H a vs):SqX K H a vs:=by
 rcases h with h | ⟨o,its,n,h1,h2,h3,h4,h5,h6⟩
 ·exact .inl h
 ·refine .inr ⟨its,n,?_,h5,h6⟩
  have z:=List.all_eq_true.mp hb (a,o) (mem_look h1)
  obtain ⟨c1,c2,c3,c4⟩:=o
  have h2:c1 = .type "list":=h2
  have h3:c2=none:=h3
  have h4:c3 = .seq its n:=h4
  subst h2 h3 h4
  have z:(!decide (Value.type "list" = .type "list") || c4.isEmpty)=true:=z
  rw [decide_eq_true rfl] at z
  have z:c4.isEmpty=true:=z
  have e:c4 = #[]:=by simpa using z
  rw [h1,e]
theorem ints_rep {W:Wd} {e:Em}:∀ ns:List Int,RepL W e (ns.map D.int) (ns.map V.int)
 | []=>rfl
 | n::ns => .cons rfl (ints_rep ns)
def spLaw (K:PySem.W.Frag) (most:Nat):Sp:=fun vs H Q _=>∃ (a:Addr) (ns:List Int),vs=[.ref a]∧ns.length≤most∧(∀ z∈ns,Builtin.Int.intBits z≤1048576)∧SqX K H a (ns.map V.int)∧∀ H',Q (.bl true) H'
def LawTrue (T:Tb) (n fi:Nat) (most:Nat):Prop:=∀ ns:List Int,ns.length≤most→(∀ z∈ns,Builtin.Int.intBits z≤1048576)→∃ m,callT T (lev T false n) fi [.lst (ns.map D.int)] [] = .ok (.bl true) m
theorem topcall {P:Program} {w:World} {K:PySem.W.Frag} {mg mb:Str→Option Value} {most k:Nat} {fa a:Addr} {fd:FuncData} {x:Str} {s₁:Shared} {vs:List Value} {ns:List Int}
  (KX:K.In s₁.heap) (lb:lstB K=true) (gl:s₁.heap.Ns mainGlobals mg) (bl:s₁.heap.Ns builtinsNs mb) (bb:∀ x:Str,x ≠ "__name__" → mb x=bootBuiltins x) (nl:s₁.heap.NoLimit) (ge:s₁.gens = #[])
  (ob:s₁.heap.get? a=some { cls:=.type "list",data:=.seq vs.toArray }) (hia:IntsAre vs ns) (short:ns.length≤sizeLine) (room:L2H.RoomH k callerA)
  (F:∀ base:Heap,K.In base→base.Ns mainGlobals mg→FnG false true P w K mg base (L2N.CX P w) k fa fd [x] (spLaw K most)) (bind:∀ (s:Shared) (u:Value),BindsTo s fd ⟨[u],[]⟩ [(x,u)]) (hm:ns.length≤most) (bits:∀ z∈ns,Builtin.Int.intBits z≤1048576) :
  codeAny (model P w) callerA (.call (.ref fa) ⟨[.ref a],[]⟩) (fun r s'=>r = .ok (.ret (.bool true))∧OldK s₁.heap s'.heap∧s'.os=s₁.os∧AllBare s'.gens) s₁:=by
 have rel:=vals_ints hia
 have len:=hia.length
 obtain ⟨H,hA,hO,hK,sq,ok⟩:∃ H:Hp,(∀ b,b≠a→H b=none)∧(∀ u,H a=some u→∃ o us,u = .frz o (.lst us))∧(∀ u,H a=some u→K.lookup a=none)∧SqX K H a (ns.map V.int)∧HOk P w H s₁.heap:=by
  cases hk:K.lookup a with
  | some o =>
   have e:=KX a o hk
   rw [ob] at e
   cases e
   refine ⟨fun _=>none,fun _ _=>rfl,fun _ z=>(nomatch z),fun _ z=>(nomatch z),sqX_of lb (.inr ⟨_,vs.toArray,_,hk,rfl,rfl,rfl,?_,by simpa using rel⟩),fun _ _ z=>(nomatch z)⟩
   rw [List.size_toArray,len]; exact short
  | none =>
   refine ⟨fun b=>if b=a then some (.frz { cls:=.type "list",data:=.seq vs.toArray } (.lst (ns.map V.int))) else none,fun b hb=>if_neg hb,fun u hu=>?_,fun _ _=>rfl,.inl (.inr ⟨_,if_pos rfl⟩),fun b u hu=>?_⟩
   ·have hu:=(if_pos (rfl:a=a)).symm.trans hu
    cases hu
    exact ⟨_,_,rfl⟩
   ·by_cases hb:b=a
    ·subst hb
     have hu:=(if_pos (rfl:b=b)).symm.trans hu
     cases hu
     exact ⟨ob,by rw [List.length_map]; exact short,vs,_,rel,ob⟩
    ·have hu:=(if_neg hb).symm.trans hu
     cases hu
 have keep:∀ {b:Addr} {o:Obj},s₁.heap.get? b=some o→(b≠a∨H a=none)→(hidT s₁.heap H).get? b=some o:=fun {b o} e z=>hidT_get e (by
  rcases z with z | z
  ·exact hA b z
  ·by_cases hb:b=a
   ·rw [hb]; exact z
   ·exact hA b hb)
 have isA:∀ {b:Addr} {m:Str→Option Value},s₁.heap.Ns b m→b≠a:=fun {b m} ⟨o,es,ep,e,d,_⟩ z=>by
  rw [z,ob] at e
  cases e
  cases d
 have nsK:∀ {b:Addr} {m:Str→Option Value},s₁.heap.Ns b m→(hidT s₁.heap H).Ns b m:=fun {b m} z=>by
  have hne:=isA z
  obtain ⟨o,es,ep,e,r⟩:=z
  exact ⟨o,es,ep,keep e (.inl hne),r⟩
 have kin:K.In (hidT s₁.heap H):=fun b o e=>keep (KX b o e) (by
  by_cases hb:b=a
  ·refine .inr ?_
   cases q:H a with
   | none=>rfl
   | some u=>rw [hb,hK u q] at e; cases e
  ·exact .inl hb)
 have md:Mod K mg (hidT s₁.heap H):=by
  obtain ⟨mc,n1,n2⟩:=nl
  exact ⟨kin,nsK gl,⟨mb,nsK bl,bb⟩,mc,nsK n1,n2⟩
 have e0:Env0 P w K mg (hidT s₁.heap H) callerA [] s₁ H:=by
  refine ⟨rfl,md,fun b o e=>of_hidT e,Nat.le_of_eq (hidT_size _ _),trivial,fun b hb=>?_,ok,.of_eq ge⟩
  exact absurd (show b∈([]:List Addr) from hb) (by simp)
 have run:=(F _ kin (nsK gl)).run callerA [] s₁ H ⟨[.ref a],[]⟩ [.ref a] [.ref a] (fun v _=>v = .bl true) (fun _ _ _=>False) (fun _=>rfl) room (.inl rfl) e0 (bind s₁ (.ref a)) (.cons rfl .nil) ⟨a,ns,rfl,hm,bits,sq,fun _=>rfl⟩
 refine codeAny_mono run fun r s' h=>?_
 match r,h with
 | .error e,⟨_,_,_,_,_,_,_,_,_,_,_,_,no⟩=>exact no.elim
 | .ok .next,h=>exact h.elim
 | .ok .brk,h=>exact h.elim
 | .ok .cont,h=>exact h.elim
 | .ok (.ret u),⟨v,H',os,bare,un,ok',rv,q⟩ =>
  have q:v = .bl true:=q
  subst q
  obtain rfl:u=Value.bool true:=rv
  refine ⟨rfl,OldK.of_keep fun b o e=>?_,os,bare⟩
  by_cases hn:H b=none
  ·exact un.keep b o e hn (fun z=>absurd (show b∈([]:List Addr) from z) (by simp)) (by simp)
  ·have hb:b=a:=Classical.byContradiction fun z=>hn (hA b z)
   subst hb
   cases q:H b with
   | none=>exact absurd q hn
   | some u =>
    obtain ⟨o2,us,rfl⟩:=hO u q
    have z2:=un.frzs b o2 _ q
    obtain ⟨e1,_⟩:=ok b _ q
    obtain ⟨e2,_⟩:=ok' b _ z2
    rw [e] at e1
    cases e1
    exact e2
theorem walk_ev {l:PySem.W.OpenLaw} {most:Nat} {q:Program} {loose:List Str} {XP:(Str→Option Value)→Heap→Prop} {d:DefRec} {T:Tb} {w0:List Addr} {fuel n fi:Nat} {i:FnI} {x:Str}
  (hn:l.most=some most) (hn2:most≤sizeLine) (hdf:d.params.defaults=[]) (tr:l.prog.given.tree=none) (pfl:l.prog.main.file=T.file) (pns:(l.prog.main.scope.names.lookup ("super" : Str)).isSome=false) (hi:T.fns[fi]?=some i) (ok:i.ok=true) (hsup:i.sup=none) (hl:i.loc=(d.name,none)) (hx:i.names.take i.np=[x]) (hnp:i.np=1) (hd:i.dfl=[])
  (hr:L2H.RoomH (n+35) callerA) (law:LawTrue T n fi most) :
  PySem.W.WalkO q loose XP (hookT T w0 fuel).says l.row.toRowW d [] (fun f vs=>PySem.call f vs):=by
 refine Att.attach_callB hn hdf fun w s₀ s₁ mg mb fa o pm cd doc a vs ns G Y ho hd' hcd hmg hobj hints hlen hbits hg=>?_
 obtain ⟨K,KX,hB,hKd⟩:=Y
 have hB0:=hB
 unfold allB at hB0
 simp only [Bool.and_eq_true] at hB0
 have hglob:=hB0.1.1.1.1.1.1.1.1.1.1.2
 have hlst:=hB0.1.1.1.1.1.1.2
 have hfns:=hB0.1.1.1.1.1.2
 have ef:fadr K T i.loc=fa:=by
  have z:=List.all_eq_true.mp hglob i (List.mem_of_getElem? hi)
  rw [hl] at z ⊢
  have z:glbB K d.name (fadr K T (d.name,none))=true:=z
  unfold glbB at z
  rw [Bool.and_eq_true] at z
  have e:=ns_here KX G.T.g (optV_eq z.1)
  rw [hmg] at e
  cases e; rfl
 have hfn:fnB K T fuel i=true:=by
  have z:=List.all_eq_true.mp hfns i (List.mem_of_getElem? hi)
  rw [ok,hsup] at z
  simpa using z
 obtain ⟨body,scope,t0,b0,a0⟩:=fn_t (W:=⟨l.prog,w,K,mg,s₁.heap,T⟩) (k:=fuel) (i:=i) hfn
 obtain ⟨xn,qual,params,dvs,fd,F,bi⟩:=t0.ex
 refine topcall (K:=K) (k:=n+35) (fd:=fd) (x:=x) (most:=most) KX hlst G.T.g G.T.b G.T.builtins G.T.nolimit hg hobj hints (Nat.le_trans hlen hn2) hr (fun base hK hns=>⟨fun _ _ _ _ ⟨_,_,h,_⟩=>by rw [h]; rfl,fun A outer s H args us vs Q E hgu hr hlu he hb hv hs=>?_⟩) (fun s u=>?_) hlen hbits
 ·-- the promise,over the base
  obtain ⟨tx,df⟩:=all_ok (W:=⟨l.prog,w,K,mg,base,T⟩) he.mod tr pfl pns hB hKd
  have fo:=fnOk_fd hsup (W:=⟨l.prog,w,K,mg,base,T⟩) (n:=n) (i:=i) tx (calls_ok tx df n false) t0.sc t0.np (body_ok fuel (b0 ok)) F
  have fo2:=fo.run A outer s H args us vs Q E hgu hr hlu he
  rw [show fadr _ _ i.loc=fa from ef,hx,hnp] at fo2
  refine fo2 hb hv ?_
  obtain ⟨a2,ms,rfl,h1,h2,h3,h4⟩:=hs
  obtain ⟨m,hm⟩:=law ms h1 h2
  have hm2:runF (lev T false n) i [.lst (ms.map D.int)] [] = .ok (.bl true) m:=by
   unfold callT at hm
   rw [hi] at hm
   simpa [ok] using hm
  have rp:Rep ⟨l.prog,w,K,mg,base,T⟩ ⟨H,fun _=>none⟩ (.lst (ms.map D.int)) (.ref a2):=⟨a2,_,rfl,h3,ints_rep ms⟩
  refine ⟨⟨H,fun _=>none⟩,[],[.lst (ms.map D.int)],rfl,⟨fun _ _ h=>h,fun i o h=>(nomatch h),fun _ _=>rfl,fun _ _ _ h _=>(nomatch h),fun _ _ h=>(nomatch h)⟩,RepVL.to (.cons rp .nil),?_⟩
  show Aft _ _ _ (runF (lev T false n) i _ _) _ _
  rw [hm2]
  intro e' H' _ _ v hv
  have hv:v = .bl true:=hv
  rw [hv]
  exact h4 H'
 ·obtain ⟨oc,od,_,_,_,_,_,_,_,osl,_,lk,_⟩:=F.ex
  have z:=a0 hd oc od fd osl lk [u] (by rw [hx]; rfl)
  rw [hx] at z
  exact .of_eq z
end Ev
set_option maxRecDepth 100000
namespace Ev
open PySem
set_option maxHeartbeats 0
theorem hd_run (w:World):HandSHeadRun.RunEq (PySem.W.OpenLaw.row PySem.Challenge.rw_springrows_k04_error_classes) (PySem.W.view (PySem.W.OpenLaw.row PySem.Challenge.rw_springrows_k04_error_classes).prog [19]) (hookT Tk adr 80) (obT Tk adr 80) 12000 loose w:=by
 intro os
 have h0:=runM w os
 have hc:=run0 w os
 have h1:=run1 w os
 have h2:=run2 w os
 revert h0 hc h1 h2
 show (HandSHeadRun.endF _ _ _ _ _).map _=_→(HandSHeadRun.endF _ _ _ _ _).map _=_→(HandSHeadRun.endF _ _ _ _ _).map _=_→(HandSHeadRun.endF _ _ _ _ _).map _=_→(HandSHeadRun.endF _ _ _ _ _).map _=_
 generalize HandSHeadRun.endF _ _ _ _ _=o
 cases o with
 | none=>intro h; cases h
 | some s =>
  intro h0 hc h1 h2
  simp only [Option.map_some,Option.some.injEq,Prod.mk.injEq] at h0 hc h1 h2 ⊢
  have z:=Prod.mk.inj h0.2
  have z2:(allM (He.frG (HandSHeadRun.getT s) adr) Tk 80,gdK (He.frG (HandSHeadRun.getT s) adr) Tk)=(true,gdV Tk w):=z.2
  have m1:allM (He.frG (HandSHeadRun.getT s) adr) Tk 80=true:=(Prod.mk.inj z2).1
  have m2:gdK (He.frG (HandSHeadRun.getT s) adr) Tk=gdV Tk w:=(Prod.mk.inj z2).2
  have c1:Tk.cls.all (clsQ (He.frG (HandSHeadRun.getT s) adr) Tk)=true:=hc
  have c2:(Tk.fns.take 8).all (fnQ (He.frG (HandSHeadRun.getT s) adr) Tk 80)=true:=h1
  have c3:(Tk.fns.drop 8).all (fnQ (He.frG (HandSHeadRun.getT s) adr) Tk 80)=true:=h2
  have b1:allB (He.frG (HandSHeadRun.getT s) adr) Tk 80=true:=all_parts (K:=He.frG (HandSHeadRun.getT s) adr) (T:=Tk) (fuel:=80) (k:=8) m1 c1 c2 c3
  have b2:(allB (He.frG (HandSHeadRun.getT s) adr) Tk 80,gdK (He.frG (HandSHeadRun.getT s) adr) Tk)=(true,gdV Tk w):=by rw [b1,m2]
  have b3:obT Tk adr 80 s=(hookT Tk adr 80).val w:=b2
  refine ⟨h0.1,?_⟩
  rw [b3,z.1]
end Ev
set_option maxRecDepth 100000
namespace Ev
open PySem
def outF:SR→Res D
 | .nx _ m => .ok .non m
 | .ret d _ m => .ok d m
 | .exc c fs _ m => .exc c fs m
 | _ => .stuck
@[simp] theorem outF_nx (s m):outF (.nx s m) = .ok .non m:=rfl
@[simp] theorem outF_ret (d s m):outF (.ret d s m) = .ok d m:=rfl
@[simp] theorem outF_exc (c fs s m):outF (.exc c fs s m) = .exc c fs m:=rfl
noncomputable def outS (C:Cl) (p:SupI):SR→Res D
 | .nx σ m=>supRun C p σ m
 | .ret _ _ _ => .stuck
 | .exc c fs _ m => .exc c fs m
 | _ => .stuck
@[simp] theorem outS_nx (C:Cl) (p:SupI) (s m):outS C p (.nx s m)=supRun C p s m:=rfl
@[simp] theorem outS_exc (C:Cl) (p:SupI) (c fs s m):outS C p (.exc c fs s m) = .exc c fs m:=rfl
def outM (a:Nat):Res D→Res D
 | .ok .non m => .ok (.obj a) m
 | .exc c fs m => .exc c fs m
 | _ => .stuck
@[simp] theorem outM_ok (a m):outM a (.ok .non m) = .ok (.obj a) m:=rfl
@[simp] theorem outM_exc (a c fs m):outM a (.exc c fs m) = .exc c fs m:=rfl
def outI (c:Nat) (ks:List Nat):SR→Res D
 | .nx σ m=>selfOut c ks σ m
 | .exc c' fs σ m=>excOut c σ c' fs m
 | _ => .stuck
@[simp] theorem outI_nx (c ks s m):outI c ks (.nx s m)=selfOut c ks s m:=rfl
noncomputable def turnF (C:Cl) (t:Tg) (b:Ss) (x:D) (σ:Sg) (m:Mu):SR:=match bindT t x σ with
 | some σ'=>exSs C b σ' m
 | none => .stuck
theorem xs_for {C:Cl} {t:Tg} {it:It} {b:Ss} {σ:Sg} {μ:Mu}:exS C (.for_ t it b) σ μ=(evIt C false it σ μ).st σ fun xs m=>forL (turnF C t b) xs σ m:=by rw [exS]; rfl
noncomputable def compF (C:Cl) (elt:E) (t:Tg) (cond:To) (vs:List Nat) (σ:Sg) (x:D) (m:Mu):Res (Option D):=match bindT t x (wipeD σ vs) with
 | some σ'=>(evTo C cond σ' m).bind fun b m=>if b then (evE C elt σ' m).bind fun d m=>if nbD d then .ok (some d) m else .stuck else .ok none m
 | none => .stuck
theorem xe_comp {C:Cl} {elt:E} {t:Tg} {it:It} {cond:To} {vs:List Nat} {σ:Sg} {μ:Mu}:evE C (.comp elt t it cond vs) σ μ=(evIt C true it σ μ).bind fun xs m=>if lim xs.length then
   (noExc (compL (compF C elt t cond vs σ) xs m)).bind fun ds m => .ok (.lst ds) m
  else .stuck:=by rw [evE]; rfl
section
variable {C:Cl} {μ:Mu} {i j:Int} {x y d:D}
section
variable {b:Bool} {s:Str} {xs:List D} {c k:Nat}
theorem bT_name {σ:Sg}:bindT (.name k) d σ=if nbD d then some (σ.set k (some (.val d))) else none:=rfl
end
end
theorem forL_inv {turn:D→Sg→Mu→SR} (P:Sg→Mu→Prop):∀ (xs:List D) (σ:Sg) (μ:Mu),(∀ x∈xs,∀ σ μ,P σ μ→∃ σ' μ',turn x σ μ = .nx σ' μ'∧P σ' μ')→P σ μ→∃ σ' μ',forL turn xs σ μ = .nx σ' μ'∧P σ' μ'
 | [],σ,μ,_,h=>⟨σ,μ,rfl,h⟩
 | x::xs,σ,μ,t,h=>by
  obtain ⟨σ1,μ1,e1,h1⟩:=t x List.mem_cons_self σ μ h
  obtain ⟨σ2,μ2,e2,h2⟩:=forL_inv P xs σ1 μ1 (fun y hy=>t y (List.mem_cons_of_mem _ hy)) h1
  exact ⟨σ2,μ2,by unfold forL; rw [e1]; exact e2,h2⟩
def rt (c:Nat) (q:Rat):D:=.ins c [.int q.num,.int (q.den:Int)]
def sz (q:Rat) (k:Nat):Prop:=q.num.natAbs < 2^k∧q.den < 2^k
theorem sz.mono {q:Rat} {j k:Nat} (h:sz q j) (hk:j≤k):sz q k:=
 ⟨Nat.lt_of_lt_of_le h.1 (Nat.pow_le_pow_right (by omega) hk),Nat.lt_of_lt_of_le h.2 (Nat.pow_le_pow_right (by omega) hk)⟩
theorem ediv_abs (x:Int) (g:Nat):(x / (g:Int)).natAbs≤x.natAbs:=by
 rcases Nat.eq_zero_or_pos g with h | h
 ·subst h; simp
 ·have hg:(0:Int) < (g:Int):=by omega
  rcases Int.lt_or_le x 0 with hx | hx
  ·have h1:x≤x / (g:Int):=by
    rw [Int.le_ediv_iff_mul_le hg]
    have:x * (g:Int)≤x * 1:=Int.mul_le_mul_of_nonpos_left (by omega) (by omega)
    omega
   have h2:x / (g:Int) < 0:=Int.ediv_neg_of_neg_of_pos hx hg
   omega
  ·have h1:x / (g:Int)≤x:=Int.ediv_le_self _ hx
   have h2:0≤x / (g:Int):=Int.ediv_nonneg hx (by omega)
   omega
theorem sz_pos {q:Rat} {k:Nat} (h:sz q k):1≤k:=by
 rcases Nat.eq_zero_or_pos k with z | z
 ·subst z
  have:=h.2
  have:=q.den_pos
  simp at *; omega
 ·exact z
theorem pow_pos2 (k:Nat):0 < 2^k:=Nat.pow_pos (by omega)
theorem mul_lt2 {a b x y:Nat} (h:a < 2^x) (g:b < 2^y):a * b < 2^(x+y):=by
 rw [Nat.pow_add]
 exact Nat.mul_lt_mul'' h g
theorem sz_add {p q:Rat} {a b:Nat} (h:sz p a) (g:sz q b):sz (p+q) (a+b+1):=by
 refine ⟨?_,?_⟩
 ·rw [Rat.num_add]
  refine Nat.lt_of_le_of_lt (ediv_abs _ _) ?_
  have h1:(p.num * (q.den:Int)).natAbs < 2^(a+b):=by rw [Int.natAbs_mul]; exact mul_lt2 h.1 g.2
  have h2:(q.num * (p.den:Int)).natAbs < 2^(a+b):=by rw [Int.natAbs_mul,Nat.add_comm]; exact mul_lt2 g.1 h.2
  rw [Nat.pow_succ]
  omega
 ·rw [Rat.den_add]
  refine Nat.lt_of_le_of_lt (Nat.div_le_self _ _) (Nat.lt_of_lt_of_le (mul_lt2 h.2 g.2) (Nat.pow_le_pow_right (by omega) (by omega)))
theorem sz_neg {p:Rat} {a:Nat} (h:sz p a):sz (-p) a:=by
 refine ⟨?_,?_⟩
 ·rw [Rat.neg_num,Int.natAbs_neg]; exact h.1
 ·rw [Rat.neg_den]; exact h.2
theorem sz_sub {p q:Rat} {a b:Nat} (h:sz p a) (g:sz q b):sz (p - q) (a+b+1):=by
 rw [Rat.sub_eq_add_neg]; exact sz_add h (sz_neg g)
theorem sz_mul {p q:Rat} {a b:Nat} (h:sz p a) (g:sz q b):sz (p * q) (a+b):=by
 refine ⟨?_,?_⟩
 ·rw [Rat.num_mul]
  refine Nat.lt_of_le_of_lt (ediv_abs _ _) ?_
  rw [Int.natAbs_mul]; exact mul_lt2 h.1 g.1
 ·rw [Rat.den_mul]
  exact Nat.lt_of_le_of_lt (Nat.div_le_self _ _) (mul_lt2 h.2 g.2)
theorem sz_inv {p:Rat} {a:Nat} (h:sz p a):sz p⁻¹ a:=by
 refine ⟨?_,?_⟩
 ·rw [Rat.num_inv,Int.natAbs_mul,Int.natAbs_sign]
  have:=h.2
  have:=pow_pos2 a
  split <;> omega
 ·rw [Rat.den_inv]
  have:=h.1
  have:=Nat.one_lt_two_pow (n:=a) (by have:=sz_pos h; omega)
  split <;> omega
theorem sz_div {p q:Rat} {a b:Nat} (h:sz p a) (g:sz q b):sz (p / q) (a+b):=by
 rw [Rat.div_def]; exact sz_mul h (sz_inv g)
theorem sz_abs {p:Rat} {a:Nat} (h:sz p a):sz p.abs a:=by
 unfold Rat.abs
 split
 ·exact h
 ·exact sz_neg h
class Sz (q:Rat) (k:outParam Nat):Prop where
 h:sz q k
instance:Sz 0 1:=⟨⟨by decide,by decide⟩⟩
instance:Sz 1 1:=⟨⟨by decide,by decide⟩⟩
instance {p q:Rat} {a b:Nat} [hp:Sz p a] [hq:Sz q b]:Sz (p+q) (a+b+1):=⟨sz_add hp.h hq.h⟩
instance {p q:Rat} {a b:Nat} [hp:Sz p a] [hq:Sz q b]:Sz (p - q) (a+b+1):=⟨sz_sub hp.h hq.h⟩
instance {p q:Rat} {a b:Nat} [hp:Sz p a] [hq:Sz q b]:Sz (p * q) (a+b):=⟨sz_mul hp.h hq.h⟩
instance {p q:Rat} {a b:Nat} [hp:Sz p a] [hq:Sz q b]:Sz (p / q) (a+b):=⟨sz_div hp.h hq.h⟩
instance {p:Rat} {a:Nat} [hp:Sz p a]:Sz (-p) a:=⟨sz_neg hp.h⟩
instance {p:Rat} {a:Nat} [hp:Sz p a]:Sz p.abs a:=⟨sz_abs hp.h⟩
theorem sz_int {i:Int} {k:Nat} (h:i.natAbs < 2^k) (h1:1≤k):sz (i:Rat) k:=by
 refine ⟨by rw [Rat.num_intCast]; exact h,?_⟩
 rw [Rat.den_intCast]
 exact Nat.one_lt_two_pow (by omega)
instance {p:Rat} {a:Nat} [hp:Sz p a]:Sz (p.num:Rat) a:=⟨sz_int hp.h.1 (sz_pos hp.h)⟩
instance {p:Rat} {a:Nat} [hp:Sz p a]:Sz (((p.den:Nat):Int):Rat) a:=⟨sz_int (by simpa using hp.h.2) (sz_pos hp.h)⟩
end Ev
namespace Ev
abbrev Pt:=Rat×Rat
structure Shp where
 pts:List Pt
 fst:Pt
 lst:Pt
namespace Ge
def sm (a:Pt):Rat:=a.1+a.2
def flatP:Pt:=(1,0)
def dirP (a b:Pt):Pt:=if b.2 - a.2=0 then (1,0) else ((b.1 - a.1) / (b.2 - a.2),1)
def md (d:Pt):Rat:=d.1 / (d.1+d.2)
def mm (a b:Pt):Rat:=(b.1 - a.1) / (sm b - sm a)
def Dir (d:Pt):Prop:=(d.2=1∧0≤d.1)∨d=(1,0)
def le' (a b:Pt):Prop:=a.1≤b.1∧a.2≤b.2∧sm a < sm b
def aftL (m:Rat) (a:Pt):List Pt→Rat→Rat
 | [],σ=>a.1+(σ - sm a) * m
 | b::bs,σ=>if σ≤sm b then a.1+(σ - sm a) * mm a b else aftL m b bs σ
def evL (S:Shp) (σ:Rat):Rat:=match S.pts with
 | []=>0
 | a::as=>if σ≤sm a then a.1+(σ - sm a) * md S.fst else aftL (md S.lst) a as σ
def on (S:Shp) (x:Pt):Prop:=x.1=evL S (sm x)
structure Good (S:Shp):Prop where
 ne:S.pts≠[]
 srt:S.pts.Pairwise le'
 df:Dir S.fst
 dl:Dir S.lst
theorem div_nn {a b:Rat} (h:0≤a) (g:0≤b):0≤a / b:=by
 by_cases e:b=0
 ·subst e; rw [Rat.div_def,Rat.inv_zero]; grind
 ·rw [Rat.div_def]
  have:=Rat.inv_pos.mpr (show 0 < b by grind)
  exact Rat.mul_nonneg h (by grind)
theorem div_le1 {a b:Rat} (h:a≤b) (g:0 < b):a / b≤1:=by
 have e:a / b=1 - (b - a) / b:=by grind
 have:=div_nn (a:=b - a) (b:=b) (by grind) (by grind)
 grind
theorem md_nn {d:Pt} (h:Dir d):0≤md d∧md d≤1:=by
 rcases h with ⟨h1,h2⟩ | h
 ·refine ⟨div_nn h2 (by grind),div_le1 (by grind) (by grind)⟩
 ·subst h; unfold md; constructor <;> decide +kernel
theorem mm_nn {a b:Pt} (h:le' a b):0≤mm a b∧mm a b≤1:=by
 obtain ⟨h1,h2,h3⟩:=h
 unfold mm sm at *
 exact ⟨div_nn (by grind) (by grind),div_le1 (by grind) (by grind)⟩
theorem mm_end {a b:Pt} (h:le' a b):a.1+(sm b - sm a) * mm a b=b.1:=by
 obtain ⟨h1,h2,h3⟩:=h
 unfold mm
 have:sm b - sm a≠0:=by grind
 grind
theorem sl {m x y:Rat} (h:0≤m∧m≤1) (g:x≤y):0≤(y - x) * m∧(y - x) * m≤y - x:=by
 have h1:=Rat.mul_nonneg (a:=y - x) (b:=m) (by grind) h.1
 have h2:=Rat.mul_nonneg (a:=y - x) (b:=1 - m) (by grind) (by grind)
 constructor <;> grind
theorem aft_at {m:Rat} {a:Pt} {as:List Pt} (h:(a::as).Pairwise le'):aftL m a as (sm a)=a.1:=by
 cases as with
 | nil=>unfold aftL; grind
 | cons b bs =>
  have:=List.rel_of_pairwise_cons h (List.mem_cons_self (a:=b))
  unfold aftL
  rw [if_pos (by have:=this.2.2; grind)]
  grind
theorem aft_lip {m:Rat} (hm:0≤m∧m≤1):∀ (as:List Pt) (a:Pt) (x y:Rat),(a::as).Pairwise le'→sm a≤x→x≤y→0≤aftL m a as y - aftL m a as x∧aftL m a as y - aftL m a as x≤y - x
 | [],a,x,y,h,h1,h2=>by
  unfold aftL
  have:=sl hm h2
  constructor <;> grind
 | b::bs,a,x,y,h,h1,h2=>by
  have hb:=List.rel_of_pairwise_cons h (List.mem_cons_self (a:=b))
  have hs:=(List.pairwise_cons.mp h).2
  have hmm:=mm_nn hb
  unfold aftL
  by_cases hy:y≤sm b
  ·rw [if_pos hy,if_pos (show x≤sm b by grind)]
   have:=sl hmm h2
   constructor <;> grind
  ·rw [if_neg hy]
   by_cases hx:x≤sm b
   ·rw [if_pos hx]
    have i:=aft_lip hm bs b (sm b) y hs (Rat.le_refl) (by grind)
    rw [aft_at hs] at i
    have:=sl hmm hx
    have e:=mm_end hb
    constructor <;> grind
   ·rw [if_neg hx]
    exact aft_lip hm bs b x y hs (by grind) h2
theorem ev_lip {S:Shp} (G:Good S) {x y:Rat} (h:x≤y):0≤evL S y - evL S x∧evL S y - evL S x≤y - x:=by
 obtain ⟨ne,srt,df,dl⟩:=G
 unfold evL
 split
 ·constructor <;> grind
 ·rename_i a as e
  rw [e] at srt
  have h1:=md_nn df
  have h2:=md_nn dl
  by_cases hy:y≤sm a
  ·rw [if_pos hy,if_pos (show x≤sm a by grind)]
   have:=sl h1 h
   constructor <;> grind
  ·rw [if_neg hy]
   by_cases hx:x≤sm a
   ·rw [if_pos hx]
    have i:=aft_lip h2 as a (sm a) y srt (Rat.le_refl) (by grind)
    rw [aft_at srt] at i
    have:=sl h1 hx
    constructor <;> grind
   ·rw [if_neg hx]
    exact aft_lip h2 as a x y srt (by grind) h
theorem on_mono {S:Shp} (G:Good S) {x y:Pt} (hx:on S x) (hy:on S y) (h:sm x≤sm y):x.1≤y.1∧x.2≤y.2:=by
 have i:=ev_lip G h
 unfold on at hx hy
 rw [← hx,← hy] at i
 unfold sm at i
 constructor <;> grind
theorem on_uniq {S:Shp} {x y:Pt} (hx:on S x) (hy:on S y) (h:sm x=sm y):x=y:=by
 unfold on at hx hy
 rw [h,← hy] at hx
 unfold sm at h
 exact Prod.ext hx (by grind)
theorem on_full (S:Shp) (σ:Rat):∃ x,on S x∧sm x=σ:=by
 have e:sm (evL S σ,σ - evL S σ)=σ:=by unfold sm; grind
 exact ⟨(evL S σ,σ - evL S σ),by unfold on; rw [e],e⟩
theorem on_cmp {S:Shp} (G:Good S) {x y:Pt} (hx:on S x) (hy:on S y):(x.1≤y.1∧x.2≤y.2)∨(y.1≤x.1∧y.2≤x.2):=by
 rcases Rat.le_total (a:=sm x) (b:=sm y) with h | h
 ·exact .inl (on_mono G hx hy h)
 ·exact .inr (on_mono G hy hx h)
theorem on_lt2 {S:Shp} (G:Good S) {x y:Pt} (hx:on S x) (hy:on S y) (h:x.2 < y.2):x.1≤y.1:=by
 rcases on_cmp G hx hy with g | g
 ·exact g.1
 ·grind
theorem aft_pt {m:Rat}:∀ (as:List Pt) (a v:Pt),(a::as).Pairwise le'→v∈as→aftL m a as (sm v)=v.1
 | b::bs,a,v,h,hv=>by
  have hb:=List.rel_of_pairwise_cons h (List.mem_cons_self (a:=b))
  have hs:=(List.pairwise_cons.mp h).2
  unfold aftL
  rcases List.mem_cons.mp hv with rfl | hv
  ·rw [if_pos Rat.le_refl,mm_end hb]
  ·have:=List.rel_of_pairwise_cons hs hv
   rw [if_neg (by have:=this.2.2; grind)]
   exact aft_pt bs b v hs hv
theorem on_pt {S:Shp} (G:Good S) {v:Pt} (h:v∈S.pts):on S v:=by
 obtain ⟨ne,srt,df,dl⟩:=G
 unfold on evL
 split
 ·rename_i e; rw [e] at h; cases h
 ·rename_i a as e
  rw [e] at srt h
  rcases List.mem_cons.mp h with rfl | hv
  ·rw [if_pos Rat.le_refl]; grind
  ·have:=List.rel_of_pairwise_cons srt hv
   rw [if_neg (by have:=this.2.2; grind),aft_pt as a v srt hv]
theorem aft_aff {m:Rat} (hm:0≤m∧m≤1):∀ (as:List Pt) (a:Pt) (x y:Rat),(a::as).Pairwise le'→sm a≤x→x≤y→(∀ v∈as,sm v≤x∨y≤sm v)→∃ k,0≤k∧k≤1∧∀ σ,x≤σ→σ≤y→aftL m a as σ=aftL m a as x+(σ - x) * k
 | [],a,x,y,h,h1,h2,_=>⟨m,hm.1,hm.2,fun σ _ _=>by unfold aftL; grind⟩
 | b::bs,a,x,y,h,h1,h2,hv=>by
  have hb:=List.rel_of_pairwise_cons h (List.mem_cons_self (a:=b))
  have hs:=(List.pairwise_cons.mp h).2
  have hmm:=mm_nn hb
  by_cases hy:y≤sm b
  ·refine ⟨mm a b,hmm.1,hmm.2,fun σ h3 h4=>?_⟩
   unfold aftL
   rw [if_pos (by grind),if_pos (by grind)]
   grind
  ·have hx:sm b≤x:=by rcases hv b List.mem_cons_self with g | g <;> grind
   obtain ⟨k,k0,k1,hk⟩:=aft_aff hm bs b x y hs hx h2 (fun v h=>hv v (List.mem_cons_of_mem _ h))
   refine ⟨k,k0,k1,fun σ h3 h4=>?_⟩
   have e:∀ τ,sm b≤τ→aftL m a (b::bs) τ=aftL m b bs τ:=by
    intro τ h5
    show (if τ≤sm b then a.1+(τ - sm a) * mm a b else aftL m b bs τ)=_
    split
    ·have:τ=sm b:=by grind
     rw [this,aft_at hs,mm_end hb]
    ·rfl
   rw [e σ (by grind),e x hx]
   exact hk σ h3 h4
theorem ev_aft {S:Shp} (G:Good S) {a:Pt} {as:List Pt} (e:S.pts=a::as) {σ:Rat} (h:sm a≤σ):evL S σ=aftL (md S.lst) a as σ:=by
 have srt:=G.srt
 unfold evL
 rw [e] at srt ⊢
 dsimp only
 split
 ·have:σ=sm a:=by grind
  rw [this,aft_at srt]; grind
 ·rfl
theorem ev_aff {S:Shp} (G:Good S) {x y:Rat} (h:x≤y) (hv:∀ v∈S.pts,sm v≤x∨y≤sm v):∃ k,0≤k∧k≤1∧∀ σ,x≤σ→σ≤y→evL S σ=evL S x+(σ - x) * k:=by
 cases e:S.pts with
 | nil=>exact absurd e G.ne
 | cons a as =>
  rw [e] at hv
  by_cases hy:y≤sm a
  ·refine ⟨md S.fst,(md_nn G.df).1,(md_nn G.df).2,fun σ h3 h4=>?_⟩
   unfold evL
   rw [e]
   dsimp only
   rw [if_pos (by grind),if_pos (by grind)]
   grind
  ·have hx:sm a≤x:=by rcases hv a List.mem_cons_self with g | g <;> grind
   have srt:=G.srt
   rw [e] at srt
   obtain ⟨k,k0,k1,hk⟩:=aft_aff (md_nn G.dl) as a x y srt hx h (fun v h=>hv v (List.mem_cons_of_mem _ h))
   refine ⟨k,k0,k1,fun σ h3 h4=>?_⟩
   rw [ev_aft G e (show sm a≤σ by grind),ev_aft G e hx]
   exact hk σ h3 h4
def mid (x y:Pt) (t:Rat):Pt:=(x.1+t * (y.1 - x.1),x.2+t * (y.2 - x.2))
theorem on_mid {S:Shp} (G:Good S) {x y:Pt} (hx:on S x) (hy:on S y) (h:sm x≤sm y) (hv:∀ v∈S.pts,sm v≤sm x∨sm y≤sm v) {t:Rat} (h0:0≤t) (h1:t≤1):on S (mid x y t):=by
 obtain ⟨k,k0,k1,hk⟩:=ev_aff G h hv
 have e:sm (mid x y t)=sm x+t * (sm y - sm x):=by unfold sm mid; grind
 have e0:=Rat.mul_nonneg (a:=t) (b:=sm y - sm x) h0 (by grind)
 have e1:=Rat.mul_nonneg (a:=1 - t) (b:=sm y - sm x) (by grind) (by grind)
 unfold on at *
 rw [e,hk _ (by grind) (by grind)]
 have:=hk (sm y) h Rat.le_refl
 rw [← hx] at this ⊢
 rw [← hy] at this
 unfold mid
 grind
def ray (x d:Pt) (t:Rat):Pt:=(x.1+t * d.1,x.2+t * d.2)
theorem dir_sum {d:Pt} (h:Dir d):0 < d.1+d.2:=by
 rcases h with ⟨h1,h2⟩ | h
 ·grind
 ·subst h; decide +kernel
theorem md_mul {d:Pt} (h:Dir d):(d.1+d.2) * md d=d.1:=by
 have:=dir_sum h
 unfold md
 grind
theorem aft_up {m:Rat}:∀ (as:List Pt) (a:Pt) (x:Rat),(a::as).Pairwise le'→sm a≤x→(∀ v∈as,sm v≤x)→∀ σ,x≤σ→aftL m a as σ=aftL m a as x+(σ - x) * m
 | [],a,x,h,h1,_,σ,h2=>by unfold aftL; grind
 | b::bs,a,x,h,h1,hv,σ,h2=>by
  have hb:=List.rel_of_pairwise_cons h (List.mem_cons_self (a:=b))
  have hs:=(List.pairwise_cons.mp h).2
  have hx:=hv b List.mem_cons_self
  have e:∀ τ,sm b≤τ→aftL m a (b::bs) τ=aftL m b bs τ:=by
   intro τ h5
   show (if τ≤sm b then a.1+(τ - sm a) * mm a b else aftL m b bs τ)=_
   split
   ·have:τ=sm b:=by grind
    rw [this,aft_at hs,mm_end hb]
   ·rfl
  rw [e σ (by grind),e x hx]
  exact aft_up bs b x hs hx (fun v h=>hv v (List.mem_cons_of_mem _ h)) σ h2
theorem on_up {S:Shp} (G:Good S) {x:Pt} (hx:on S x) (hv:∀ v∈S.pts,sm v≤sm x) {t:Rat} (h0:0≤t):on S (ray x S.lst t):=by
 cases e:S.pts with
 | nil=>exact absurd e G.ne
 | cons a as =>
  rw [e] at hv
  have srt:=G.srt
  rw [e] at srt
  have ha:=hv a List.mem_cons_self
  have es:sm (ray x S.lst t)=sm x+t * (S.lst.1+S.lst.2):=by unfold sm ray; grind
  have e0:=Rat.mul_nonneg (a:=t) (b:=S.lst.1+S.lst.2) h0 (by have:=dir_sum G.dl; grind)
  have i:=aft_up (m:=md S.lst) as a (sm x) srt ha (fun v h=>hv v (List.mem_cons_of_mem _ h)) (sm (ray x S.lst t)) (by grind)
  unfold on at *
  rw [ev_aft G e (by grind),i,← ev_aft G e ha,← hx,es]
  have:=md_mul G.dl
  unfold ray
  grind
theorem on_dn {S:Shp} (G:Good S) {x:Pt} (hx:on S x) (hv:∀ v∈S.pts,sm x≤sm v) {t:Rat} (h0:0≤t):on S (ray x S.fst (-t)):=by
 cases e:S.pts with
 | nil=>exact absurd e G.ne
 | cons a as =>
  rw [e] at hv
  have ha:=hv a List.mem_cons_self
  have es:sm (ray x S.fst (-t))=sm x - t * (S.fst.1+S.fst.2):=by unfold sm ray; grind
  have e0:=Rat.mul_nonneg (a:=t) (b:=S.fst.1+S.fst.2) h0 (by have:=dir_sum G.df; grind)
  unfold on at *
  unfold evL at *
  rw [e] at hx ⊢
  dsimp only at hx ⊢
  rw [if_pos ha] at hx
  rw [if_pos (by grind),es]
  have:=md_mul G.df
  unfold ray
  grind
theorem up_ray {S:Shp} (G:Good S) {x y:Pt} (hx:on S x) (hv:∀ v∈S.pts,sm v≤sm x) (hy:on S y) (h:sm x≤sm y):∃ t,0≤t∧y=ray x S.lst t:=by
 have d:=dir_sum G.dl
 refine ⟨(sm y - sm x) / (S.lst.1+S.lst.2),div_nn (by grind) (by grind),?_⟩
 refine on_uniq hy (on_up G hx hv (div_nn (by grind) (by grind))) ?_
 have:sm (ray x S.lst ((sm y - sm x) / (S.lst.1+S.lst.2)))=sm x+(sm y - sm x) / (S.lst.1+S.lst.2) * (S.lst.1+S.lst.2):=by unfold sm ray; grind
 rw [this,Rat.div_mul_cancel (by grind)]
 grind
theorem dn_ray {S:Shp} (G:Good S) {x y:Pt} (hx:on S x) (hv:∀ v∈S.pts,sm x≤sm v) (hy:on S y) (h:sm y≤sm x):∃ t,0≤t∧y=ray x S.fst (-t):=by
 have d:=dir_sum G.df
 refine ⟨(sm x - sm y) / (S.fst.1+S.fst.2),div_nn (by grind) (by grind),?_⟩
 refine on_uniq hy (on_dn G hx hv (div_nn (by grind) (by grind))) ?_
 have:sm (ray x S.fst (-((sm x - sm y) / (S.fst.1+S.fst.2))))=sm x - (sm x - sm y) / (S.fst.1+S.fst.2) * (S.fst.1+S.fst.2):=by unfold sm ray; grind
 rw [this,Rat.div_mul_cancel (by grind)]
 grind
theorem mid_of {S:Shp} (G:Good S) {x y z:Pt} (hx:on S x) (hy:on S y) (hv:∀ v∈S.pts,sm v≤sm x∨sm y≤sm v) (hz:on S z) (h1:sm x≤sm z) (h2:sm z≤sm y):∃ t,0≤t∧t≤1∧z=mid x y t:=by
 by_cases e:sm x=sm y
 ·refine ⟨0,by decide +kernel,by decide +kernel,?_⟩
  have:z=x:=on_uniq hz hx (by grind)
  rw [this]
  unfold mid
  exact Prod.ext (by grind) (by grind)
 ·have d:sm y - sm x≠0:=by grind
  have t0:=div_nn (a:=sm z - sm x) (b:=sm y - sm x) (by grind) (by grind)
  have t1:=div_le1 (a:=sm z - sm x) (b:=sm y - sm x) (by grind) (by grind)
  refine ⟨(sm z - sm x) / (sm y - sm x),t0,t1,?_⟩
  refine on_uniq hz (on_mid G hx hy (by grind) hv t0 t1) ?_
  have:sm (mid x y ((sm z - sm x) / (sm y - sm x)))=sm x+(sm z - sm x) / (sm y - sm x) * (sm y - sm x):=by unfold sm mid; grind
  rw [this,Rat.div_mul_cancel d]
  grind
end Ge
end Ev
namespace Ev
namespace Ge
abbrev Rng:=Option Rat×Option Rat
def win (l:Rat) (r:Rng):Prop:=(∀ a,r.1=some a→a≤l)∧(∀ b,r.2=some b→l≤b)
def Spec (X:Pt→Prop) (f:Rat):Option Rng→Prop
 | none=>∀ l,¬ X (l,f)
 | some r=>(∃ l,X (l,f))∧∀ l,X (l,f)↔win l r
def p0 (S:Shp):Pt:=S.pts.headD (0,0)
def pn (S:Shp):Pt:=S.pts.getLastD (0,0)
def one (l:Rat):Option Rng:=some (some l,some l)
def lensAt (S:Shp) (f:Rat):Option Rng:=
 match (S.pts.filter fun p=>decide (p.2=f)).map Prod.fst with
 | l::ls=>some (if f=(p0 S).2∧S.fst=flatP then none else some l,if f=(pn S).2∧S.lst=flatP then none else some ((l::ls).getLastD 0))
 | []=>if f < (p0 S).2 then (if S.fst=flatP then none else one ((p0 S).1 - ((p0 S).2 - f) * S.fst.1))
  else if (pn S).2 < f then (if S.lst=flatP then none else one ((pn S).1+(f - (pn S).2) * S.lst.1))
  else one (((S.pts.filter fun p=>decide (p.2 < f)).getLastD (0,0)).1+(f - ((S.pts.filter fun p=>decide (p.2 < f)).getLastD (0,0)).2) * (dirP ((S.pts.filter fun p=>decide (p.2 < f)).getLastD (0,0)) ((S.pts.filter fun p=>decide (f < p.2)).headD (0,0))).1)
theorem split3 {f:Rat}:∀ (l:List Pt),l.Pairwise le'→l=l.filter (fun p=>decide (p.2 < f))++(l.filter (fun p=>decide (p.2=f))++l.filter (fun p=>decide (f < p.2)))
 | [],_=>rfl
 | a::as,h=>by
  have hs:=(List.pairwise_cons.mp h).2
  have hr:∀ b∈as,a.2≤b.2:=fun b hb=>(List.rel_of_pairwise_cons h hb).2.1
  have i:=split3 (f:=f) as hs
  rcases Rat.le_total (a:=a.2) (b:=f) with g | g
  ·by_cases e:a.2=f
   ·have h1:as.filter (fun p=>decide (p.2 < f))=[]:=List.filter_eq_nil_iff.mpr fun b hb=>by have:=hr b hb; simp; grind
    rw [h1] at i
    have h2:¬ a.2 < f:=by grind
    have h3:¬ f < a.2:=by grind
    simp only [List.filter_cons,h1,h2,h3,e,decide_true,decide_false,if_true,Bool.false_eq_true,if_false,List.nil_append,List.cons_append]
    rw [List.nil_append] at i
    have h4:¬ f < f:=by grind
    simp [h4]
    exact i
   ·have h2:a.2 < f:=by grind
    have h3:¬ f < a.2:=by grind
    simp only [List.filter_cons,h2,h3,e,decide_true,decide_false,if_true,Bool.false_eq_true,if_false,List.nil_append,List.cons_append]
    rw [← i]
  ·by_cases e:a.2=f
   ·have h1:as.filter (fun p=>decide (p.2 < f))=[]:=List.filter_eq_nil_iff.mpr fun b hb=>by have:=hr b hb; simp; grind
    rw [h1] at i
    have h2:¬ a.2 < f:=by grind
    have h3:¬ f < a.2:=by grind
    simp only [List.filter_cons,h1,h2,h3,e,decide_true,decide_false,if_true,Bool.false_eq_true,if_false,List.nil_append,List.cons_append]
    rw [List.nil_append] at i
    have h4:¬ f < f:=by grind
    simp [h4]
    exact i
   ·have h1:as.filter (fun p=>decide (p.2 < f))=[]:=List.filter_eq_nil_iff.mpr fun b hb=>by have:=hr b hb; simp; grind
    have h1':as.filter (fun p=>decide (p.2=f))=[]:=List.filter_eq_nil_iff.mpr fun b hb=>by have:=hr b hb; simp; grind
    rw [h1,h1'] at i
    have h2:¬ a.2 < f:=by grind
    have h3:f < a.2:=by grind
    simp only [List.filter_cons,h1,h1',h2,h3,e,decide_true,decide_false,if_true,Bool.false_eq_true,if_false,List.nil_append,List.cons_append]
    rw [List.nil_append,List.nil_append] at i
    rw [← i]
section
variable {S:Shp} (G:Good S) {f:Rat}
include G
theorem srt_app {A B:List Pt} (e:S.pts=A++B):∀ a∈A,∀ b∈B,le' a b:=by
 have:=G.srt
 rw [e,List.pairwise_append] at this
 exact this.2.2
theorem pts_hd {v:Pt} {B:List Pt} (e:S.pts=v::B):∀ z∈S.pts,sm v≤sm z:=by
 intro z hz
 have srt:=G.srt
 rw [e] at hz srt
 rcases List.mem_cons.mp hz with rfl | hz
 ·exact Rat.le_refl
 ·have:=(List.rel_of_pairwise_cons srt hz).2.2; grind
theorem pts_tl {v:Pt} {A:List Pt} (e:S.pts=A++[v]):∀ z∈S.pts,sm z≤sm v:=by
 intro z hz
 have:=srt_app G e
 rw [e] at hz
 rcases List.mem_append.mp hz with hz | hz
 ·have:=(this z hz v (by simp)).2.2; grind
 ·simp at hz; subst hz; exact Rat.le_refl
theorem pts_two {u v:Pt} {A B:List Pt} (e:S.pts=A++u::v::B):∀ z∈S.pts,sm z≤sm u∨sm v≤sm z:=by
 intro z hz
 have h1:=srt_app G e
 have h2:=srt_app G (A:=A++[u,v]) (B:=B) (by rw [e]; simp)
 rw [e] at hz
 rcases List.mem_append.mp hz with hz | hz
 ·left; have:=(h1 z hz u (by simp)).2.2; grind
 ·rcases List.mem_cons.mp hz with rfl | hz
  ·exact .inl Rat.le_refl
  ·rcases List.mem_cons.mp hz with rfl | hz
   ·exact .inr Rat.le_refl
   ·right; have:=(h2 v (by simp) z hz).2.2; grind
theorem lt_two {u v:Pt} {A B:List Pt} (e:S.pts=A++u::v::B):le' u v:=srt_app G (A:=A++[u]) (B:=v::B) (by rw [e]; simp) u (by simp) v (by simp)
theorem ray_dn {x:Pt} {t:Rat} (h:S.fst≠flatP):ray x S.fst (-t)=(x.1 - t * S.fst.1,x.2 - t):=by
 rcases G.df with ⟨h1,h2⟩ | g
 ·unfold ray; exact Prod.ext (by dsimp only; grind) (by dsimp only; grind)
 ·exact absurd g h
theorem ray_up {x:Pt} {t:Rat} (h:S.lst≠flatP):ray x S.lst t=(x.1+t * S.lst.1,x.2+t):=by
 rcases G.dl with ⟨h1,h2⟩ | g
 ·unfold ray; exact Prod.ext (by dsimp only) (by dsimp only; grind)
 ·exact absurd g h
theorem low_s {A B:List Pt} {v:Pt} (e:S.pts=A++v::B) (hv:v.2=f) (hA:∀ z∈A,z.2 < f) {l:Rat} (h:on S (l,f)) (hl:l < v.1):A=[]∧S.fst=flatP:=by
 have hov:on S v:=on_pt G (by rw [e]; simp)
 have hs:sm (l,f)≤sm v:=by unfold sm; dsimp only; grind
 rcases List.eq_nil_or_concat A with rfl | ⟨A',u,rfl⟩
 ·refine ⟨rfl,Classical.byContradiction fun hf=>?_⟩
  obtain ⟨t,t0,et⟩:=dn_ray G hov (pts_hd G e) h hs
  rw [ray_dn G hf] at et
  have e1:=congrArg Prod.fst et
  have e2:=congrArg Prod.snd et
  dsimp only at e1 e2
  have:t=0:=by grind
  subst this
  grind
 ·exfalso
  have hu:=hA u (by simp)
  have hou:on S u:=on_pt G (by rw [e]; simp)
  have h1:=on_lt2 G hou h hu
  have e':S.pts=A'++u::v::B:=by rw [e]; simp
  obtain ⟨t,t0,t1,et⟩:=mid_of G hou hov (pts_two G e') h (by unfold sm; dsimp only at *; grind) hs
  have e1:=congrArg Prod.fst et
  have e2:=congrArg Prod.snd et
  unfold mid at e1 e2
  dsimp only at e1 e2
  rw [hv] at e2
  have e3:(1 - t) * (f - u.2)=0:=by grind
  rcases Rat.mul_eq_zero.mp e3 with z | z
  ·have:t=1:=by grind
   subst this; grind
  ·grind
theorem high_s {A B:List Pt} {v:Pt} (e:S.pts=A++v::B) (hv:v.2=f) (hB:∀ z∈B,f < z.2) {l:Rat} (h:on S (l,f)) (hl:v.1 < l):B=[]∧S.lst=flatP:=by
 have hov:on S v:=on_pt G (by rw [e]; simp)
 have hs:sm v≤sm (l,f):=by unfold sm; dsimp only; grind
 cases B with
 | nil =>
  refine ⟨rfl,Classical.byContradiction fun hf=>?_⟩
  obtain ⟨t,t0,et⟩:=up_ray G hov (pts_tl G e) h hs
  rw [ray_up G hf] at et
  have e1:=congrArg Prod.fst et
  have e2:=congrArg Prod.snd et
  dsimp only at e1 e2
  have:t=0:=by grind
  subst this
  grind
 | cons u B' =>
  exfalso
  have hu:=hB u (by simp)
  have hou:on S u:=on_pt G (by rw [e]; simp)
  have h1:=on_lt2 G h hou hu
  obtain ⟨t,t0,t1,et⟩:=mid_of G hov hou (pts_two G e) h hs (by unfold sm; dsimp only at *; grind)
  have e1:=congrArg Prod.fst et
  have e2:=congrArg Prod.snd et
  unfold mid at e1 e2
  dsimp only at e1 e2
  rw [hv] at e2
  have e3:t * (u.2 - f)=0:=by grind
  rcases Rat.mul_eq_zero.mp e3 with z | z
  ·subst z; grind
  ·grind
theorem gap_s {A B:List Pt} {u v:Pt} (e:S.pts=A++u::v::B) (hu:u.2 < f) (hv:f < v.2) (l:Rat):on S (l,f)↔l=u.1+(f - u.2) * (dirP u v).1:=by
 have hou:on S u:=on_pt G (by rw [e]; simp)
 have hov:on S v:=on_pt G (by rw [e]; simp)
 have d:v.2 - u.2≠0:=by grind
 have huv:=lt_two G e
 have key:mid u v ((f - u.2) / (v.2 - u.2))=(u.1+(f - u.2) * (dirP u v).1,f):=by
  unfold mid dirP
  rw [if_neg d]
  refine Prod.ext (by dsimp only; grind) ?_
  dsimp only
  rw [Rat.div_mul_cancel d]; grind
 have t0:=div_nn (a:=f - u.2) (b:=v.2 - u.2) (by grind) (by grind)
 have t1:=div_le1 (a:=f - u.2) (b:=v.2 - u.2) (by grind) (by grind)
 have hon:=on_mid G hou hov (by have:=huv.2.2; grind) (pts_two G e) t0 t1
 rw [key] at hon
 refine ⟨fun h=>?_,fun h=>by rw [h]; exact hon⟩
 have h1:=on_lt2 G hou h hu
 have h2:=on_lt2 G h hov hv
 obtain ⟨t,a0,a1,et⟩:=mid_of G hou hov (pts_two G e) h (by unfold sm; dsimp only at *; grind) (by unfold sm; dsimp only at *; grind)
 have e1:=congrArg Prod.fst et
 have e2:=congrArg Prod.snd et
 unfold mid at e1 e2
 dsimp only at e1 e2
 have:t=(f - u.2) / (v.2 - u.2):=by grind
 rw [e1,this]
 have:=congrArg Prod.fst key
 unfold mid at this
 exact this
theorem below_s {v:Pt} {B:List Pt} (e:S.pts=v::B) (hv:f < v.2) (l:Rat):on S (l,f)↔S.fst≠flatP∧l=v.1 - (v.2 - f) * S.fst.1:=by
 have hov:on S v:=on_pt G (by rw [e]; simp)
 constructor
 ·intro h
  have h1:=on_lt2 G h hov hv
  obtain ⟨t,t0,et⟩:=dn_ray G hov (pts_hd G e) h (by unfold sm; dsimp only at *; grind)
  have hf:S.fst≠flatP:=by
   intro z
   rw [z] at et
   have e2:=congrArg Prod.snd et
   unfold ray flatP at e2
   dsimp only at e2
   grind
  rw [ray_dn G hf] at et
  have e1:=congrArg Prod.fst et
  have e2:=congrArg Prod.snd et
  dsimp only at e1 e2
  refine ⟨hf,?_⟩
  have:t=v.2 - f:=by grind
  rw [e1,this]
 ·rintro ⟨hf,rfl⟩
  have:=on_dn G hov (pts_hd G e) (t:=v.2 - f) (by grind)
  rw [ray_dn G hf] at this
  have e2:v.2 - (v.2 - f)=f:=by grind
  rw [e2] at this
  exact this
theorem above_s {v:Pt} {A:List Pt} (e:S.pts=A++[v]) (hv:v.2 < f) (l:Rat):on S (l,f)↔S.lst≠flatP∧l=v.1+(f - v.2) * S.lst.1:=by
 have hov:on S v:=on_pt G (by rw [e]; simp)
 constructor
 ·intro h
  have h1:=on_lt2 G hov h hv
  obtain ⟨t,t0,et⟩:=up_ray G hov (pts_tl G e) h (by unfold sm; dsimp only at *; grind)
  have hf:S.lst≠flatP:=by
   intro z
   rw [z] at et
   have e2:=congrArg Prod.snd et
   unfold ray flatP at e2
   dsimp only at e2
   grind
  rw [ray_up G hf] at et
  have e1:=congrArg Prod.fst et
  have e2:=congrArg Prod.snd et
  dsimp only at e1 e2
  refine ⟨hf,?_⟩
  have:t=f - v.2:=by grind
  rw [e1,this]
 ·rintro ⟨hf,rfl⟩
  have:=on_up G hov (pts_tl G e) (t:=f - v.2) (by grind)
  rw [ray_up G hf] at this
  have e2:v.2+(f - v.2)=f:=by grind
  rw [e2] at this
  exact this
theorem spec_one {X:Pt→Prop} {k:Rat} (h:∀ l,X (l,f)↔l=k):Spec X f (one k):=by
 refine ⟨⟨k,(h k).mpr rfl⟩,fun l=>?_⟩
 rw [h l]
 constructor
 ·rintro rfl
  exact ⟨fun a ha=>by cases ha; exact Rat.le_refl,fun a ha=>by cases ha; exact Rat.le_refl⟩
 ·intro w
  exact Rat.le_antisymm (w.2 k rfl) (w.1 k rfl)
theorem lens_spec (f:Rat):Spec (on S) f (lensAt S f):=by
 have e:=split3 (f:=f) S.pts G.srt
 generalize hA:S.pts.filter (fun p=>decide (p.2 < f))=A at e
 generalize hM:S.pts.filter (fun p=>decide (p.2=f))=M at e
 generalize hB:S.pts.filter (fun p=>decide (f < p.2))=B at e
 have mA:∀ z∈A,z.2 < f:=fun z hz=>by rw [← hA] at hz; simpa using (List.mem_filter.mp hz).2
 have mM:∀ z∈M,z.2=f:=fun z hz=>by rw [← hM] at hz; simpa using (List.mem_filter.mp hz).2
 have mB:∀ z∈B,f < z.2:=fun z hz=>by rw [← hB] at hz; simpa using (List.mem_filter.mp hz).2
 unfold lensAt
 rw [hA,hM,hB]
 cases M with
 | cons v vs =>
  obtain ⟨vs',w,ew⟩:∃ vs' w,v::vs=vs'++[w]:=by
   rcases List.eq_nil_or_concat (v::vs) with z | ⟨L,b,z⟩
   ·cases z
   ·exact ⟨L,b,by rw [z]; simp⟩
  have hv:=mM v (by simp)
  have hw:w.2=f:=mM w (by rw [ew]; simp)
  have ew2:((v::vs).map Prod.fst).getLastD 0=w.1:=by rw [ew]; simp
  rw [List.map_cons] at ew2
  rw [List.map_cons]
  dsimp only
  rw [ew2]
  have e1:S.pts=A++v::(vs++B):=by rw [e]; simp
  have e2:S.pts=(A++vs')++w::B:=by rw [e,ew]; simp
  have hov:on S v:=on_pt G (by rw [e1]; simp)
  have how:on S w:=on_pt G (by rw [e2]; simp)
  have ev:v=(v.1,f):=Prod.ext rfl hv
  have ew3:w=(w.1,f):=Prod.ext rfl hw
  have hvw:v.1≤w.1:=by
   have hw':w∈v::vs:=by rw [ew]; simp
   rcases List.mem_cons.mp hw' with z | z
   ·rw [z]; exact Rat.le_refl
   ·exact (srt_app G (A:=A++[v]) (B:=vs++B) (by rw [e1]; simp) v (by simp) w (by simp [z])).1
  refine ⟨⟨v.1,by rw [← ev]; exact hov⟩,fun l=>?_⟩
  constructor
  ·intro h
   refine ⟨fun a ha=>?_,fun a ha=>?_⟩
   ·dsimp only at ha
    split at ha
    ·cases ha
    ·rename_i hn
     cases ha
     refine Classical.byContradiction fun z=>?_
     obtain ⟨z1,z2⟩:=low_s G e1 hv mA h (by grind)
     subst z1
     exact hn ⟨by unfold p0; rw [e1]; exact hv.symm,z2⟩
   ·dsimp only at ha
    split at ha
    ·cases ha
    ·rename_i hn
     cases ha
     refine Classical.byContradiction fun z=>?_
     obtain ⟨z1,z2⟩:=high_s G e2 hw mB h (by grind)
     subst z1
     exact hn ⟨by unfold pn; rw [e2]; simp [hw],z2⟩
  ·intro h
   rcases Rat.le_total (a:=l) (b:=v.1) with g | g
   ·by_cases c:f=(p0 S).2∧S.fst=flatP
    ·have hA0:A=[]:=by
      cases A with
      | nil=>rfl
      | cons a as =>
       have:=mA a (by simp)
       have c1:=c.1
       unfold p0 at c1
       rw [e1] at c1
       simp at c1
       grind
     subst hA0
     have:=on_dn G hov (pts_hd G e1) (t:=v.1 - l) (by grind)
     rw [c.2] at this
     have e3:ray v flatP (-(v.1 - l))=(l,f):=by unfold ray flatP; exact Prod.ext (by dsimp only; grind) (by dsimp only; grind)
     rw [← e3]; exact this
    ·have:=h.1 v.1 (by dsimp only; rw [if_neg c])
     have:l=v.1:=Rat.le_antisymm g this
     rw [this,← ev]; exact hov
   ·rcases Rat.le_total (a:=w.1) (b:=l) with g2 | g2
    ·by_cases c:f=(pn S).2∧S.lst=flatP
     ·have hB0:B=[]:=by
       rcases List.eq_nil_or_concat B with z | ⟨B',b,z⟩
       ·exact z
       ·exfalso
        have:=mB b (by rw [z]; simp)
        have c1:=c.1
        unfold pn at c1
        rw [e2,z] at c1
        have:(A++vs'++w::(B'++[b])).getLastD (0,0)=b:=by
         rw [show A++vs'++w::(B'++[b])=(A++vs'++w::B')++[b] by simp]
         rw [List.getLastD_concat]
        rw [List.concat_eq_append] at c1
        rw [this] at c1
        grind
      subst hB0
      have:=on_up G how (pts_tl G e2) (t:=l - w.1) (by grind)
      rw [c.2] at this
      have e3:ray w flatP (l - w.1)=(l,f):=by unfold ray flatP; exact Prod.ext (by dsimp only; grind) (by dsimp only; grind)
      rw [← e3]; exact this
     ·have:=h.2 w.1 (by dsimp only; rw [if_neg c])
      have:l=w.1:=Rat.le_antisymm this g2
      rw [this,← ew3]; exact how
    ·obtain ⟨x,hx,es⟩:=on_full S (l+f)
     have s1:sm v≤sm x:=by rw [es]; unfold sm; grind
     have s2:sm x≤sm w:=by rw [es]; unfold sm; grind
     have m1:=on_mono G hov hx s1
     have m2:=on_mono G hx how s2
     unfold sm at es
     have:x=(l,f):=Prod.ext (by dsimp only; grind) (by dsimp only; grind)
     rw [← this]; exact hx
 | nil =>
  rw [List.map_nil]
  dsimp only
  rw [List.nil_append] at e
  cases hA2:A with
  | nil =>
   subst hA2
   cases hB2:B with
   | nil=>subst hB2; exact absurd e G.ne
   | cons v B' =>
    subst hB2
    rw [List.nil_append] at e
    have hv:=mB v (by simp)
    have ep:p0 S=v:=by unfold p0; rw [e]; rfl
    rw [ep,if_pos hv]
    split
    ·rename_i hf
     intro l hl
     exact ((below_s G e hv l).mp hl).1 hf
    ·rename_i hf
     exact spec_one G fun l=>by rw [below_s G e hv l]; exact ⟨fun z=>z.2,fun z=>⟨hf,z⟩⟩
  | cons a as =>
   rw [← hA2]
   have ep:p0 S=a:=by unfold p0; rw [e,hA2]; rfl
   have ha:=mA a (by rw [hA2]; simp)
   rw [ep,if_neg (by grind)]
   obtain ⟨A',u,eu⟩:∃ A' u,A=A'++[u]:=by
    rcases List.eq_nil_or_concat A with z | ⟨L,b,z⟩
    ·rw [z] at hA2; cases hA2
    ·exact ⟨L,b,by rw [z]; simp⟩
   have hu:=mA u (by rw [eu]; simp)
   cases hB2:B with
   | nil =>
    subst hB2
    rw [List.append_nil,eu] at e
    have ep2:pn S=u:=by unfold pn; rw [e]; simp
    rw [ep2,if_pos hu]
    split
    ·rename_i hf
     intro l hl
     exact ((above_s G e hu l).mp hl).1 hf
    ·rename_i hf
     exact spec_one G fun l=>by rw [above_s G e hu l]; exact ⟨fun z=>z.2,fun z=>⟨hf,z⟩⟩
   | cons v B' =>
    have hv:=mB v (by rw [hB2]; simp)
    have e3:S.pts=A'++u::v::B':=by rw [e,eu,hB2]; simp
    have hpn:f < (pn S).2:=by
     have:pn S∈B:=by
      have:S.pts=A++B:=e
      unfold pn
      rw [this]
      rcases List.eq_nil_or_concat B with z | ⟨L,b,z⟩
      ·rw [z] at hB2; cases hB2
      ·rw [z,List.concat_eq_append,← List.append_assoc,List.getLastD_concat]; simp
     exact mB _ this
    rw [if_neg (by grind)]
    have eA:A.getLastD (0,0)=u:=by rw [eu]; simp
    rw [eA]
    exact spec_one G fun l=>gap_s G e3 hu hv l
end
end Ge
end Ev
namespace Ev
namespace Ge
def turn (d:Pt):Pt:=if d.1=0 then flatP else (d.2 / d.1,1)
def insA (xs:List Rat) (v:Rat):List Rat:=
 if (xs.filter fun o=>decide (o < v)).length=xs.length∨¬ xs[(xs.filter fun o=>decide (o < v)).length]?=some v then
  xs.take (xs.filter fun o=>decide (o < v)).length++v::xs.drop (xs.filter fun o=>decide (o < v)).length else xs
def asc (vs:List Rat):List Rat:=vs.foldl insA []
theorem ins_split {v:Rat}:∀ (xs:List Rat),xs.Pairwise (· < ·)→∃ A B,xs=A++B∧(∀ a∈A,a < v)∧(∀ b∈B,v≤b)∧(xs.filter fun o=>decide (o < v)).length=A.length
 | [],_=>⟨[],[],rfl,by simp,by simp,rfl⟩
 | x::xs,h=>by
  have hs:=(List.pairwise_cons.mp h).2
  have hr:∀ b∈xs,x < b:=fun b hb=>List.rel_of_pairwise_cons h hb
  obtain ⟨A,B,e,hA,hB,el⟩:=ins_split (v:=v) xs hs
  by_cases g:x < v
  ·refine ⟨x::A,B,by rw [e]; rfl,?_,hB,?_⟩
   ·intro a ha
    rcases List.mem_cons.mp ha with rfl | ha
    ·exact g
    ·exact hA a ha
   ·rw [List.filter_cons,if_pos (by simpa using g),List.length_cons,el,List.length_cons]
  ·refine ⟨[],x::xs,rfl,by simp,?_,?_⟩
   ·intro b hb
    rcases List.mem_cons.mp hb with rfl | hb
    ·grind
    ·have:=hr b hb; grind
   ·rw [List.filter_eq_nil_iff.mpr (by
     intro b hb
     rcases List.mem_cons.mp hb with rfl | hb
     ·simpa using g
     ·have:=hr b hb
      simp; grind)]
theorem ins_ok {xs:List Rat} {v:Rat} (h:xs.Pairwise (· < ·)):(insA xs v).Pairwise (· < ·)∧∀ y,y∈insA xs v↔y=v∨y∈xs:=by
 obtain ⟨A,B,e,hA,hB,el⟩:=ins_split (v:=v) xs h
 unfold insA
 rw [el]
 subst e
 rw [List.pairwise_append] at h
 obtain ⟨pA,pB,pAB⟩:=h
 split
 ·rename_i g
  have hB':∀ b∈B,v < b:=by
   intro b hb
   cases B with
   | nil=>cases hb
   | cons c cs =>
    have hc:v≠c:=by
     rintro rfl
     rcases g with g | g
     ·simp at g
     ·simp at g
    have hc':=hB c (by simp)
    have:v < c:=by grind
    rcases List.mem_cons.mp hb with rfl | hb
    ·exact this
    ·have:=List.rel_of_pairwise_cons pB hb; grind
  refine ⟨?_,fun y=>?_⟩
  ·simp only [List.take_left',List.drop_left']
   rw [List.pairwise_append]
   refine ⟨pA,List.pairwise_cons.mpr ⟨hB',pB⟩,fun a ha b hb=>?_⟩
   rcases List.mem_cons.mp hb with rfl | hb
   ·exact hA a ha
   ·exact pAB a ha b hb
  ·simp only [List.take_left',List.drop_left',List.mem_append,List.mem_cons]
   constructor
   ·rintro (h | h | h)
    ·exact .inr (.inl h)
    ·exact .inl h
    ·exact .inr (.inr h)
   ·rintro (h | h | h)
    ·exact .inr (.inl h)
    ·exact .inl h
    ·exact .inr (.inr h)
 ·rename_i g
  refine ⟨List.pairwise_append.mpr ⟨pA,pB,pAB⟩,fun y=>⟨fun h => .inr h,?_⟩⟩
  rintro (rfl | h)
  ·have:(A++B)[A.length]?=some y:=Classical.byContradiction fun z=>g (.inr z)
   exact List.mem_of_getElem? this
  ·exact h
theorem asc_go:∀ (vs xs:List Rat),xs.Pairwise (· < ·)→(vs.foldl insA xs).Pairwise (· < ·)∧∀ y,y∈vs.foldl insA xs↔y∈vs∨y∈xs
 | [],xs,h=>⟨h,fun y=>by simp⟩
 | v::vs,xs,h=>by
  obtain ⟨h1,h2⟩:=ins_ok (v:=v) h
  obtain ⟨i1,i2⟩:=asc_go vs (insA xs v) h1
  refine ⟨i1,fun y=>?_⟩
  rw [List.foldl_cons,i2 y,h2 y,List.mem_cons]
  constructor
  ·rintro (h | h | h)
   ·exact .inl (.inr h)
   ·exact .inl (.inl h)
   ·exact .inr h
  ·rintro ((h | h) | h)
   ·exact .inr (.inl h)
   ·exact .inl h
   ·exact .inr (.inr h)
theorem asc_mem (vs:List Rat) (y:Rat):y∈asc vs↔y∈vs:=by
 have:=(asc_go vs [] List.Pairwise.nil).2 y
 unfold asc
 simpa using this
end Ge
end Ev
namespace Ev
namespace Ge
section
variable {S:Shp} (G:Good S) {f:Rat}
include G
theorem pn_mem:pn S∈S.pts:=by
 rcases List.eq_nil_or_concat S.pts with e | ⟨L,b,e⟩
 ·exact absurd e G.ne
 ·unfold pn; rw [e]; simp
theorem p0_le {v:Pt} (h:v∈S.pts):(p0 S).1≤v.1∧(p0 S).2≤v.2∧sm (p0 S)≤sm v:=by
 have srt:=G.srt
 unfold p0
 cases e:S.pts with
 | nil=>exact absurd e G.ne
 | cons a as =>
  rw [e] at h srt
  rw [List.headD_cons]
  rcases List.mem_cons.mp h with rfl | h
  ·exact ⟨Rat.le_refl,Rat.le_refl,Rat.le_refl⟩
  ·have:=List.rel_of_pairwise_cons srt h
   exact ⟨this.1,this.2.1,by have:=this.2.2; grind⟩
theorem pn_le {v:Pt} (h:v∈S.pts):v.1≤(pn S).1∧v.2≤(pn S).2∧sm v≤sm (pn S):=by
 have srt:=G.srt
 rcases List.eq_nil_or_concat S.pts with e | ⟨L,b,e⟩
 ·exact absurd e G.ne
 ·rw [List.concat_eq_append] at e
  have ep:pn S=b:=by unfold pn; rw [e]; simp
  rw [ep]
  rw [e] at h srt
  rcases List.mem_append.mp h with h | h
  ·have:=(List.pairwise_append.mp srt).2.2 v h b (by simp)
   exact ⟨this.1,this.2.1,by have:=this.2.2; grind⟩
  ·simp at h
   subst h
   exact ⟨Rat.le_refl,Rat.le_refl,Rat.le_refl⟩
theorem al_iff:lensAt S f≠none↔(S.fst=flatP→(p0 S).2≤f)∧(S.lst=flatP→f≤(pn S).2):=by
 have hpn:=(p0_le G (pn_mem G)).2.1
 unfold lensAt
 split
 ·rename_i l ls e
  have:l∈(S.pts.filter fun p=>decide (p.2=f)).map Prod.fst:=by rw [e]; simp
  obtain ⟨v,hv,rfl⟩:=List.mem_map.mp this
  obtain ⟨h1,h2⟩:=List.mem_filter.mp hv
  have h2:v.2=f:=by simpa using h2
  have a:=(p0_le G h1).2.1
  have b:=(pn_le G h1).2.1
  constructor
  ·intro _; exact ⟨fun _=>by grind,fun _=>by grind⟩
  ·intro _ z; cases z
 ·split
  ·split
   ·rename_i h1 h2
    constructor
    ·intro z; exact absurd rfl z
    ·rintro ⟨z,_⟩; have:=z h2; grind
   ·rename_i h1 h2
    constructor
    ·intro _; exact ⟨fun z=>absurd z h2,fun _=>by grind⟩
    ·intro _ z; cases z
  ·split
   ·split
    ·rename_i h1 h0 h2
     constructor
     ·intro z; exact absurd rfl z
     ·rintro ⟨_,z⟩; have:=z h2; grind
    ·rename_i h1 h0 h2
     constructor
     ·intro _; exact ⟨fun _=>by grind,fun z=>absurd z h2⟩
     ·intro _ z; cases z
   ·constructor
    ·intro _; exact ⟨fun _=>by grind,fun _=>by grind⟩
    ·intro _ z; cases z
theorem lo_on {a:Rat} {h:Option Rat} (e:lensAt S f=some (some a,h)):on S (a,f):=by
 have s:=lens_spec G f
 rw [e] at s
 obtain ⟨l,hl⟩:=s.1
 have w:=(s.2 l).mp hl
 exact (s.2 a).mpr ⟨fun z hz=>(by cases hz; exact Rat.le_refl),fun z hz=>Rat.le_trans (w.1 a rfl) (w.2 z hz)⟩
theorem hi_on {a:Rat} {h:Option Rat} (e:lensAt S f=some (h,some a)):on S (a,f):=by
 have s:=lens_spec G f
 rw [e] at s
 obtain ⟨l,hl⟩:=s.1
 have w:=(s.2 l).mp hl
 exact (s.2 a).mpr ⟨fun z hz=>Rat.le_trans (w.1 z hz) (w.2 a rfl),fun z hz=>by cases hz; exact Rat.le_refl⟩
theorem lo_le {a:Rat} {h:Option Rat} (e:lensAt S f=some (some a,h)) {l:Rat} (hl:on S (l,f)):a≤l:=by
 have s:=lens_spec G f
 rw [e] at s
 exact ((s.2 l).mp hl).1 a rfl
theorem hi_le {a:Rat} {h:Option Rat} (e:lensAt S f=some (h,some a)) {l:Rat} (hl:on S (l,f)):l≤a:=by
 have s:=lens_spec G f
 rw [e] at s
 exact ((s.2 l).mp hl).2 a rfl
end
def addO:Option Rat→Option Rat→Option Rat
 | some a,some b=>some (a+b)
 | _,_=>none
def common (A B:Shp) (f:Rat):Option Rng:=match lensAt A f,lensAt B f with
 | some a,some b=>some (addO a.1 b.1,addO a.2 b.2)
 | _,_=>none
def levels (A B:Shp):List Rat:=asc ((A.pts++B.pts).map Prod.snd)
def Sum (A B:Shp) (x:Pt):Prop:=∃ a b,x.1=a+b∧on A (a,x.2)∧on B (b,x.2)
section
variable {A B:Shp} (GA:Good A) (GB:Good B)
include GA GB
theorem lvl_mem {f:Rat}:f∈levels A B↔(∃ v∈A.pts,v.2=f)∨∃ v∈B.pts,v.2=f:=by
 unfold levels
 rw [asc_mem,List.map_append,List.mem_append,List.mem_map,List.mem_map]
theorem com_al {f:Rat}:common A B f≠none↔lensAt A f≠none∧lensAt B f≠none:=by
 unfold common
 cases lensAt A f <;> cases lensAt B f <;> simp
theorem com_iff {f:Rat}:common A B f≠none↔((A.fst=flatP→(p0 A).2≤f)∧(A.lst=flatP→f≤(pn A).2))∧((B.fst=flatP→(p0 B).2≤f)∧(B.lst=flatP→f≤(pn B).2)):=by
 rw [com_al GA GB,al_iff GA,al_iff GB]
theorem com_mid {f g h:Rat} (hf:common A B f≠none) (hh:common A B h≠none) (h1:f≤g) (h2:g≤h):common A B g≠none:=by
 rw [com_iff GA GB] at *
 refine ⟨⟨fun z=>?_,fun z=>?_⟩,⟨fun z=>?_,fun z=>?_⟩⟩
 ·have:=hf.1.1 z; grind
 ·have:=hh.1.2 z; grind
 ·have:=hf.2.1 z; grind
 ·have:=hh.2.2 z; grind
end
end Ge
end Ev
namespace Ev
namespace Ge
section
variable {A B:Shp} (GA:Good A) (GB:Good B)
include GA GB
theorem no_v {S:Shp} (G:Good S) {f g a b:Rat} {p q:Option Rat} (hf:lensAt S f=some (p,some a)) (hg:lensAt S g=some (some b,q)) (gap:∀ v∈S.pts,v.2≤f∨g≤v.2):∀ v∈S.pts,sm v≤sm (a,f)∨sm (b,g)≤sm v:=by
 intro v hv
 have ov:=on_pt G hv
 have oa:=hi_on G hf
 have ob:=lo_on G hg
 rcases gap v hv with h | h
 ·left
  by_cases e:v.2=f
  ·have:=hi_le G hf (l:=v.1) (by rw [← e]; exact ov)
   unfold sm; dsimp only; grind
  ·have:=on_lt2 G ov oa (by dsimp only; grind)
   unfold sm; dsimp only at *; grind
 ·right
  by_cases e:v.2=g
  ·have:=lo_le G hg (l:=v.1) (by rw [← e]; exact ov)
   unfold sm; dsimp only; grind
  ·have:=on_lt2 G ob ov (by dsimp only; grind)
   unfold sm; dsimp only at *; grind
theorem com_split_hi {f c:Rat} {d:Option Rat} (e:common A B f=some (d,some c)):∃ a b p q,lensAt A f=some (p,some a)∧lensAt B f=some (q,some b)∧c=a+b:=by
 unfold common at e
 cases ea:lensAt A f with
 | none=>rw [ea] at e; cases e
 | some ra =>
  cases eb:lensAt B f with
  | none=>rw [ea,eb] at e; cases e
  | some rb =>
   rw [ea,eb] at e
   simp only [Option.some.injEq,Prod.mk.injEq] at e
   obtain ⟨a0,a1⟩:=ra
   obtain ⟨b0,b1⟩:=rb
   cases a1 with
   | none=>cases e.2
   | some a1 =>
    cases b1 with
    | none=>cases e.2
    | some b1 =>
     have:=e.2
     simp only [addO,Option.some.injEq] at this
     exact ⟨a1,b1,a0,b0,rfl,rfl,this.symm⟩
theorem com_split_lo {f c:Rat} {d:Option Rat} (e:common A B f=some (some c,d)):∃ a b p q,lensAt A f=some (some a,p)∧lensAt B f=some (some b,q)∧c=a+b:=by
 unfold common at e
 cases ea:lensAt A f with
 | none=>rw [ea] at e; cases e
 | some ra =>
  cases eb:lensAt B f with
  | none=>rw [ea,eb] at e; cases e
  | some rb =>
   rw [ea,eb] at e
   simp only [Option.some.injEq,Prod.mk.injEq] at e
   obtain ⟨a0,a1⟩:=ra
   obtain ⟨b0,b1⟩:=rb
   cases a0 with
   | none=>cases e.1
   | some a0 =>
    cases b0 with
    | none=>cases e.1
    | some b0 =>
     have:=e.1
     simp only [addO,Option.some.injEq] at this
     exact ⟨a0,b0,a1,b1,rfl,rfl,this.symm⟩
theorem gapA {f g:Rat} (hf:common A B f≠none) (hg:common A B g≠none) (gap:∀ k∈levels A B,common A B k≠none→k≤f∨g≤k):∀ k∈levels A B,k≤f∨g≤k:=by
 intro k hk
 by_cases h:k≤f∨g≤k
 ·exact h
 ·refine gap k hk (com_mid GA GB hf hg ?_ ?_) <;> grind
theorem join {f g c d:Rat} {p q:Option Rat} (h:f < g) (hf:common A B f=some (p,some c)) (hg:common A B g=some (some d,q)) (gap:∀ k∈levels A B,common A B k≠none→k≤f∨g≤k) {t:Rat} (t0:0≤t) (t1:t≤1):Sum A B (mid (c,f) (d,g) t):=by
 have gp:=gapA GA GB (by rw [hf]; simp) (by rw [hg]; simp) gap
 obtain ⟨a,b,p1,p2,ea,eb,rfl⟩:=com_split_hi GA GB hf
 obtain ⟨a',b',q1,q2,ea',eb',rfl⟩:=com_split_lo GA GB hg
 have gA:∀ v∈A.pts,v.2≤f∨g≤v.2:=fun v hv=>gp _ ((lvl_mem GA GB).mpr (.inl ⟨v,hv,rfl⟩))
 have gB:∀ v∈B.pts,v.2≤f∨g≤v.2:=fun v hv=>gp _ ((lvl_mem GA GB).mpr (.inr ⟨v,hv,rfl⟩))
 have oa:=hi_on GA ea
 have oa':=lo_on GA ea'
 have ob:=hi_on GB eb
 have ob':=lo_on GB eb'
 have la:=on_lt2 GA oa oa' h
 have lb:=on_lt2 GB ob ob' h
 dsimp only at la lb
 have m1:=on_mid GA oa oa' (by unfold sm; dsimp only; grind) (no_v GA GB GA ea ea' gA) t0 t1
 have m2:=on_mid GB ob ob' (by unfold sm; dsimp only; grind) (no_v GA GB GB eb eb' gB) t0 t1
 refine ⟨a+t * (a' - a),b+t * (b' - b),?_,?_,?_⟩
 ·unfold mid; dsimp only; grind
 ·exact m1
 ·exact m2
end
end Ge
end Ev
namespace Ev
namespace Ge
end Ge
end Ev
namespace Ev
namespace Ge
def Ln (n:Nat) (p q r:Int):Prop:=p.natAbs < 2^n∧q.natAbs < 2^n∧r.natAbs < 2^n∧(p≠0∨q≠0)
theorem Ln.mono {n m:Nat} {p q r:Int} (h:Ln n p q r) (hm:n≤m):Ln m p q r:=by
 have:=Nat.pow_le_pow_right (n:=2) (by omega) hm
 obtain ⟨a,b,c,d⟩:=h
 exact ⟨by omega,by omega,by omega,d⟩
def LB (n:Nat) (a d:Pt):Prop:=∃ p q r:Int,Ln n p q r∧(p:Rat) * a.1+q * a.2=r∧(p:Rat) * d.1+q * d.2=0
theorem LB.mono {n m:Nat} {a d:Pt} (h:LB n a d) (hm:n≤m):LB m a d:=by
 obtain ⟨p,q,r,h1,h2,h3⟩:=h
 exact ⟨p,q,r,h1.mono hm,h2,h3⟩
theorem cast0 {p:Int} (h:(p:Rat)=0):p=0:=by exact_mod_cast h
theorem Ln.pos {n:Nat} {p q r:Int} (h:Ln n p q r):1≤n:=by
 rcases Nat.eq_zero_or_pos n with z | z
 ·subst z
  obtain ⟨a,b,c,d⟩:=h
  simp at a b
  rcases d with d | d <;> omega
 ·exact z
def lnA (n:Nat) (l:Pt) (a:Pt):List Pt→Prop
 | []=>LB n a l
 | b::bs=>LB n a (dirP a b)∧lnA n l b bs
def Lines (n:Nat) (S:Shp):Prop:=match S.pts with
 | []=>False
 | a::as=>LB n a S.fst∧lnA n S.lst a as
def Szd (k:Nat) (S:Shp):Prop:=(∀ v∈S.pts,sz v.1 k∧sz v.2 k)∧(sz S.fst.1 k∧sz S.fst.2 k)∧(sz S.lst.1 k∧sz S.lst.2 k)
theorem Szd.mono {k m:Nat} {S:Shp} (h:Szd k S) (hm:k≤m):Szd m S:=
 ⟨fun v hv=>⟨(h.1 v hv).1.mono hm,(h.1 v hv).2.mono hm⟩,⟨h.2.1.1.mono hm,h.2.1.2.mono hm⟩,⟨h.2.2.1.mono hm,h.2.2.2.mono hm⟩⟩
theorem lnA_mono {n m:Nat} (hm:n≤m) {l:Pt}:∀ (as:List Pt) (a:Pt),lnA n l a as→lnA m l a as
 | [],_,h=>LB.mono h hm
 | b::bs,_,h=>⟨h.1.mono hm,lnA_mono hm bs b h.2⟩
theorem Lines.mono {n m:Nat} {S:Shp} (h:Lines n S) (hm:n≤m):Lines m S:=by
 unfold Lines at *
 split
 ·rename_i e; rw [e] at h; exact h
 ·rename_i a as e; rw [e] at h; exact ⟨h.1.mono hm,lnA_mono hm as a h.2⟩
end Ge
end Ev
namespace Ev
namespace Ge
def hor (n:Nat) (f:Rat):Prop:=∃ q r:Int,Ln n 0 q r∧(q:Rat) * f=r
theorem hor.lb {n:Nat} {f:Rat} (h:hor n f) (x:Rat):LB n (x,f) flatP:=by
 obtain ⟨q,r,h1,h2⟩:=h
 refine ⟨0,q,r,h1,?_,?_⟩
 ·show ((0:Int):Rat) * x+q * f=r
  rw [← h2]; grind
 ·unfold flatP
  show ((0:Int):Rat) * 1+q * 0=0
  grind
theorem hor.mono {n m:Nat} {f:Rat} (h:hor n f) (hm:n≤m):hor m f:=by
 obtain ⟨q,r,h1,h2⟩:=h
 exact ⟨q,r,h1.mono hm,h2⟩
theorem LB.hor {n:Nat} {a:Pt} (h:LB n a flatP):hor n a.2:=by
 obtain ⟨p,q,r,h1,h2,h3⟩:=h
 unfold flatP at h3
 dsimp only at h3
 have:(p:Rat)=0:=by grind
 have p0:=cast0 this
 subst p0
 exact ⟨q,r,h1,by rw [← h2]; grind⟩
section
variable {S:Shp} (G:Good S) {n:Nat} (L:Lines n S) {f:Rat}
include G L
end
section
variable {A B:Shp} (GA:Good A) (GB:Good B) {n m:Nat} (LA:Lines n A) (LB':Lines m B)
include GA GB LA LB'
end
end Ge
end Ev
namespace Ev
namespace Ge
end Ge
end Ev
set_option maxRecDepth 100000
namespace Ev
open PySem
theorem go12_1 {C:Cl} {x0:D} {μ:Mu}:callT Tk C 12 [x0] μ=outF (exSs C b12 [some (.val x0),none] μ):=rfl
theorem go13_1 {C:Cl} {x0:D} {μ:Mu}:callT Tk C 13 [x0] μ=outF (exSs C b13 [some (.val x0),none] μ):=rfl
theorem go14_1 {C:Cl} {x0:D} {μ:Mu}:callT Tk C 14 [x0] μ=outF (exSs C b14 [some (.val x0),none] μ):=rfl
theorem go15_1 {C:Cl} {x0:D} {μ:Mu}:callT Tk C 15 [x0] μ=outF (exSs C b15 [some (.val x0),none,none] μ):=rfl
theorem go16_1 {C:Cl} {x0:D} {μ:Mu}:callT Tk C 16 [x0] μ=outF (exSs C b16 [some (.val x0),none,none,none,none,none,none] μ):=rfl
end Ev
set_option maxRecDepth 100000
namespace Ev
namespace Co
open PySem
section
variable {C:Cl} {σ σ':Sg} {μ m m' m2:Mu}
theorem e_bl {e:E} {b:Bool} (h:evE C e σ μ = .ok (.bl b) m):evT C (.e e) σ μ = .ok b m:=by
 show (evE C e σ μ).bind _=_
 rw [h]; rfl
theorem or_f {t u:T} {b:Bool} (h:evT C t σ μ = .ok false m) (g:evT C u σ m = .ok b m'):evT C (.bop false t u) σ μ = .ok b m':=by
 show (evT C t σ μ).bind _=_
 rw [h]
 exact g
theorem e_isin {a:E} {b:Bool} {ks:List Kd} {x:D} {t:Ty} {r:Bool} (hv:a.isVar.bind (fun i=>getExn σ i)=none) (h:evE C a σ μ = .ok x m) (ht:tyOf m x=some t) (hr:ks.any (isTy C.T t)=r):evE C (.isin a b ks) σ μ = .ok (.bl r) m:=by
 rw [evE,hv]
 dsimp only
 rw [h,Res.bind_ok,ht]
 dsimp only
 rw [hr]
theorem e_attr {a:E} {k:Nat} {x r:D} (hv:a.isVar.bind (fun i=>getSelf σ i)=none) (h:evE C a σ μ = .ok x m) (g:getAt C x k m = .ok r m'):evE C (.attr a k) σ μ = .ok r m':=by
 rw [evE,hv]
 dsimp only
 rw [h]
 exact g
theorem e_bin {k:B2} {a b:E} {x y r:D} (h:evE C a σ μ = .ok x m) (g:evE C b σ m = .ok y m') (e:evB2 C k x y m' = .ok r m2):evE C (.bin k a b) σ μ = .ok r m2:=by
 show (evE C a σ μ).bind _=_
 rw [h]
 show (evE C b σ m).bind _=_
 rw [g]
 exact e
theorem e_cmp {k:Cm} {a b:E} {x y r:D} (h:evE C a σ μ = .ok x m) (g:evE C b σ m = .ok y m') (e:evCm C k x y m' = .ok r m2):evE C (.cmp k a b) σ μ = .ok r m2:=by
 show (evE C a σ μ).bind _=_
 rw [h]
 show (evE C b σ m).bind _=_
 rw [g]
 exact e
theorem es_1 {a:E} {x:D} (h:evE C a σ μ = .ok x m):evEs C (.cons false a .nil) σ μ = .ok [x] m:=by
 show (evE C a σ μ).bind _=_
 rw [h]; rfl
theorem es_c {a:E} {es:Es} {x:D} {xs:List D} (h:evE C a σ μ = .ok x m) (g:evEs C es σ m = .ok xs m'):evEs C (.cons false a es) σ μ = .ok (x::xs) m':=by
 show (evE C a σ μ).bind _=_
 rw [h]
 show (evEs C es σ m).bind _=_
 rw [g]; rfl
theorem e_call {f:Nat} {xs:Es} {vs:List D} {r:D} (h:evEs C xs σ μ = .ok vs m) (hn:vs.all nbD=true) (g:C.call f vs m = .ok r m2):evE C (.call f xs) σ μ = .ok r m2:=by
 show (evEs C xs σ μ).bind _=_
 rw [h]
 show (if vs.all nbD then C.call f vs m else .stuck)=_
 rw [if_pos hn]; exact g
theorem e_bm {a:E} {k:Bm} {xs:Es} {x r:D} {vs:List D} (h:evE C a σ μ = .ok x m) (hb:bmOkM m k x=true) (g:evEs C xs σ m = .ok vs m') (e:evBm C k x vs m' = .ok r m2):evE C (.bmeth a k xs) σ μ = .ok r m2:=by
 show (evE C a σ μ).bind _=_
 rw [h]
 show (if bmOkM m k x then (evEs C xs σ m).bind fun vs m=>evBm C k x vs m else .stuck)=_
 rw [if_pos hb,g]
 exact e
theorem e_idx {a b:E} {x y r:D} (h:evE C a σ μ = .ok x m) (g:evE C b σ m = .ok y m') (e:getIx x y m' = .ok r m'):evE C (.idx a b) σ μ = .ok r m':=by
 show (evE C a σ μ).bind _=_
 rw [h]
 show (evE C b σ m).bind _=_
 rw [g]
 exact e
theorem ix_l {xs:List D} {i:Int} {v:D} (h:nth xs i=some v):getIx (.lst xs) (.int i) μ = .ok v μ:=by
 unfold getIx items; dsimp only; rw [h]
theorem nth_k {xs:List D} {k:Nat} {v:D} (h:xs[k]?=some v):nth xs (k:Int)=some v:=by
 have hk:k < xs.length:=(List.getElem?_eq_some_iff.mp h).1
 unfold nth L2.atI L2.ixN
 simp [hk]
 rw [List.getElem?_eq_getElem hk] at h
 cases h; rfl
theorem e_slU {a:E} {x r:D} {hi:E} {k:Int} (h:evE C a σ μ = .ok x m) (g:evE C hi σ m = .ok (.int k) m') (e:getSl x none (some k)=some r):evE C (.sl a .none (.some hi)) σ μ = .ok r m':=by
 show (evE C a σ μ).bind _=_
 rw [h]
 show (evEo C (.some hi) σ m).bind _=_
 have eo:evEo C (.some hi) σ m = .ok (some k) m':=by
  show (evE C hi σ m).bind _=_
  rw [g]; rfl
 rw [eo,Res.bind_ok,e]
theorem e_tup {xs:Es} {vs:List D} (h:evEs C xs σ μ = .ok vs m) (hl:lim vs.length=true) (hn:vs.all nbD=true):evE C (.tup xs) σ μ = .ok (.tup vs) m:=by
 show (evEs C xs σ μ).bind _=_
 rw [h]
 show (if lim vs.length&&vs.all nbD then Res.ok (D.tup vs) m else .stuck)=_
 rw [hl,hn]; rfl
theorem e_lst {xs:Es} {vs:List D} (h:evEs C xs σ μ = .ok vs m) (hl:lim vs.length=true) (hn:vs.all nbD=true):evE C (.lst xs) σ μ = .ok (.lst vs) m:=by
 show (evEs C xs σ μ).bind _=_
 rw [h]
 show (if lim vs.length&&vs.all nbD then Res.ok (D.lst vs) m else .stuck)=_
 rw [hl,hn]; rfl
theorem it_seq {e:E} {b:Bool} {x:D} {xs:List D} (h:evE C e σ μ = .ok x m) (w:walk b x=some xs):evIt C b (.seq e) σ μ = .ok xs m:=by
 rw [evIt,h,Res.bind_ok,w]
theorem it_enum {e:E} {b:Bool} {x:D} {xs:List D} (h:evE C e σ μ = .ok x m) (w:walk b x=some xs):evIt C b (.enum e) σ μ = .ok (enumD 0 xs) m:=by
 rw [evIt,h,Res.bind_ok,w]
theorem st_c {s:S} {ss:Ss} {r:SR} (h:exS C s σ μ = .nx σ' m) (g:exSs C ss σ' m=r):exSs C (.cons s ss) σ μ=r:=by
 rw [← g]
 show (exS C s σ μ).seq _=_
 rw [h]; rfl
theorem s_ret {e:E} {ss:Ss} {d:D} (h:evE C e σ μ = .ok d m) (hd:nbD d=true):exSs C (.cons (.ret e) ss) σ μ = .ret d σ m:=by
 show ((evE C e σ μ).st σ fun d m=>if nbD d then .ret d σ m else .stuck).seq _=_
 rw [h]
 show (if nbD d then SR.ret d σ m else .stuck).seq _=_
 rw [if_pos hd]; rfl
theorem s_asg {i:Nat} {e:E} {d:D} (h:evE C e σ μ = .ok d m) (hd:nbD d=true):exS C (.asg (.name i) e) σ μ = .nx (σ.set i (some (.val d))) m:=by
 show ((evE C e σ μ).st σ fun d m=>match bindT (.name i) d σ with
  | some σ' => .nx σ' m
  | none => .stuck)=_
 rw [h]
 show (match (if nbD d then some (σ.set i (some (.val d))) else none) with
  | some σ'=>SR.nx σ' m
  | none => .stuck)=_
 rw [if_pos hd]
theorem s_iteT {t:T} {a b:Ss} (h:evT C t σ μ = .ok true m) (g:exSs C a σ m = .nx σ' m'):exS C (.ite t a b) σ μ = .nx σ' m':=by simp [exS,h,g]
theorem s_iteF {t:T} {a b:Ss} (h:evT C t σ μ = .ok false m) (g:exSs C b σ m = .nx σ' m'):exS C (.ite t a b) σ μ = .nx σ' m':=by simp [exS,h,g]
theorem s_for {t:Tg} {it:It} {b:Ss} {xs:List D} {σ2:Sg} (h:evIt C false it σ μ = .ok xs m) (g:forL (turnF C t b) xs σ m = .nx σ2 m'):exS C (.for_ t it b) σ μ = .nx σ2 m':=by
 rw [xs_for,h]
 exact g
theorem l_nx {turn:D→Sg→Mu→SR} {x:D} {xs:List D} {r:SR} (h:turn x σ m = .nx σ' m') (g:forL turn xs σ' m'=r):forL turn (x::xs) σ m=r:=by
 unfold forL
 rw [h]; exact g
theorem t_name {i:Nat} {b:Ss} {x:D} (hx:nbD x=true):turnF C (.name i) b x σ μ=exSs C b (σ.set i (some (.val x))) μ:=by
 unfold turnF
 show (match (if nbD x then some (σ.set i (some (.val x))) else none) with
  | some σ'=>exSs C b σ' μ
  | none => .stuck)=_
 rw [if_pos hx]
theorem t_two {i j:Nat} {b:Ss} {v w:D} (hv:nbD v=true) (hw:nbD w=true):turnF C (.tup (.cons (.name i) (.cons (.name j) .nil))) b (.tup [v,w]) σ μ=exSs C b ((σ.set i (some (.val v))).set j (some (.val w))) μ:=by
 unfold turnF
 simp [bindT,bindTs,hv,hw]
theorem s_appO {i a:Nat} {e:E} {xs ys:List D} {d:D} (ho:σ[i]?=some (some (.val (.obj a)))) (h0:μ[a]?=some (.lst ys)) (h:evE C e σ μ = .ok d m) (h1:m[a]?=some (.lst xs)) (hd:nbD d=true) (hl:xs.length < 16777216):exS C (.app i e) σ μ = .nx σ (m.set a (.lst (xs++[d]))):=by
 have e1:(nbD d&&decide (xs.length < LINE))=true:=by rw [hd]; simpa [LINE] using hl
 have e2:exS C (.app i e) σ μ=(evE C e σ μ).st σ fun d m=>(match pushO a d m with
  | some m' => .nx σ m'
  | none => .stuck):=by
  rw [exS,ho]
  show appO a _ σ μ=_
  unfold appO
  rw [h0]
  try rfl
 rw [e2,h]
 show (match pushO a d m with
  | some m'=>SR.nx σ m'
  | none => .stuck)=_
 unfold pushO
 rw [h1]
 show (match (if nbD d&&decide (xs.length < LINE) then some (m.set a (.lst (xs++[d]))) else none:Option Mu) with
  | some m'=>SR.nx σ m'
  | none => .stuck)=_
 rw [if_pos e1]
theorem e_comp {elt:E} {t:Tg} {it:It} {cond:To} {vs:List Nat} {xs ys:List D} (hi:evIt C true it σ μ = .ok xs m) (hl:lim xs.length=true) (hc:compL (compF C elt t cond vs σ) xs m = .ok ys m'):evE C (.comp elt t it cond vs) σ μ = .ok (.lst ys) m':=by
 rw [xe_comp,hi,Res.bind_ok,if_pos hl,hc]
 rfl
theorem c_cons {turn:D→Mu→Res (Option D)} {x:D} {xs ys:List D} {r:Option D} (h:turn x μ = .ok r m) (g:compL turn xs m = .ok ys m'):compL turn (x::xs) μ = .ok (consO r ys) m':=by
 show (turn x μ).bind _=_
 rw [h,Res.bind_ok,g]; rfl
theorem k_name {i:Nat} {vs:List Nat} {elt:E} {x r:D} (hx:nbD x=true) (h:evE C elt ((wipeD σ vs).set i (some (.val x))) μ = .ok r m) (hr:nbD r=true):compF C elt (.name i) .none vs σ x μ = .ok (some r) m:=by
 unfold compF
 rw [bT_name,if_pos hx]
 show (Res.ok true μ).bind _=_
 rw [Res.bind_ok,if_pos rfl,h,Res.bind_ok,if_pos hr]
theorem var_v {i:Nat} {d:D} (h:σ[i]?=some (some (.val d))):evE C (.var i) σ μ = .ok d μ:=by
 show getVar σ i μ=_
 unfold getVar
 rw [h]
theorem c_map {α:Type} {turn:D→Mu→Res (Option D)} {g f:α→D}:∀ {xs:List α},(∀ x∈xs,turn (g x) μ = .ok (some (f x)) μ)→compL turn (xs.map g) μ = .ok (xs.map f) μ
 | [],_=>rfl
 | x::xs,h=>by
  rw [List.map_cons,c_cons (h x List.mem_cons_self) (c_map fun y hy=>h y (List.mem_cons_of_mem _ hy))]
  rfl
end
end Co
end Ev
set_option maxRecDepth 100000
set_option maxHeartbeats 1000000
namespace Ev
open PySem
section
variable {C:Cl} {σ:Sg} {μ m m':Mu} {x d:D} {e a:E} {c:Nat}
theorem outR {r:SR} {d:D} {σ:Sg} {m:Mu} (h:r = .ret d σ m):outF r = .ok d m:=by rw [h]; rfl
theorem e_mkx {kw:Bool} {fs:List (Nat×D)} (h:evE C e σ μ = .ok d m) (hn:nbD d=true) (hf:excOf C.T c [d]=some fs):evE C (.mkx kw c e) σ μ = .ok (.obj m.length) (m++[.exn c fs]):=by
 rw [evE,h,Res.bind_ok]
 unfold mkxR
 rw [if_pos hn,hf]
theorem e_isx {k:Kd} {o:Nat} {fs:List (Nat×D)} {b:Bool} (h:evE C e σ μ = .ok (.obj o) m) (ho:m[o]?=some (.exn c fs)) (hb:isTy C.T (.ins c) k=b):evE C (.isx e k) σ μ = .ok (.bl b) m:=by
 rw [evE,h,Res.bind_ok]
 unfold isxR
 dsimp only
 rw [ho,← hb]
theorem at_exn {k o:Nat} {fs:List (Nat×D)} (ho:μ[o]?=some (.exn c fs)) (hf:fs.lookup k=some d):getAt C (.obj o) k μ = .ok d μ:=by
 unfold getAt
 dsimp only
 rw [ho]
 dsimp only
 rw [hf]
theorem neS (h:eqOk C μ 7 x x):evCm C .ne x x μ = .ok (.bl false) μ:=by
 show resB ((eqD _ x x μ).bind _)=_
 unfold eqD
 rw [if_pos h]
 simp [resB]
theorem okI {k:Nat} {i:Int}:eqOk C μ (k+1) (.int i) (.int i):=.inl ⟨rfl,rfl,rfl⟩
theorem okB {k:Nat} {b:Bool}:eqOk C μ (k+1) (.bl b) (.bl b):=.inl ⟨rfl,rfl,rfl⟩
theorem okL {k:Nat} {xs:List D} (h:∀ x∈xs,eqOk C μ k x x):eqOk C μ (k+1) (.lst xs) (.lst xs):=by
 intro i x y hx hy
 rw [hx] at hy; cases hy
 exact h x (List.mem_of_getElem? hx)
theorem okT {k:Nat} {xs:List D} (h:∀ x∈xs,eqOk C μ k x x):eqOk C μ (k+1) (.tup xs) (.tup xs):=by
 intro i x y hx hy
 rw [hx] at hy; cases hy
 exact h x (List.mem_of_getElem? hx)
def Xs (q:Nat) (μ:Mu) (x:D):Prop:=(∃ c:Int,x = .tup [.int c])∨(∃ c:Int,x = .int c)∨x = .non∨x = .str "a" ∨ ∃ (o:Nat) (zs:List Int),x = .obj o∧μ[o]?=some (.lst (zs.map D.int))∧zs.length≤q
theorem Xs.nb {q:Nat} (h:Xs q μ x):nbD x=true:=by rcases h with ⟨_,rfl⟩ | ⟨_,rfl⟩ | rfl | rfl | ⟨_,_,rfl,_⟩ <;> rfl
theorem Xs.ok {q:Nat} (h:Xs q μ x) {k:Nat}:eqOk C μ (k+2) x x:=by
 rcases h with ⟨_,rfl⟩ | ⟨_,rfl⟩ | rfl | rfl | ⟨o,zs,rfl,ho,_⟩
 ·exact okT fun y hy=>by rw [List.mem_singleton.mp hy]; exact okI
 ·exact okI
 ·exact .inl ⟨rfl,rfl,rfl⟩
 ·exact .inl ⟨rfl,rfl,rfl⟩
 ·refine .inl ⟨rfl,_,ho,fun i d hd=>?_⟩
  obtain ⟨z,_,rfl⟩:=List.mem_map.mp (List.mem_of_getElem? hd)
  exact okI
theorem Xs.app {q:Nat} (h:Xs q μ x) (ν:Mu):Xs q (μ++ν) x:=by
 rcases h with h | h | h | h | ⟨o,zs,rfl,ho,hq⟩
 ·exact .inl h
 ·exact .inr (.inl h)
 ·exact .inr (.inr (.inl h))
 ·exact .inr (.inr (.inr (.inl h)))
 ·exact .inr (.inr (.inr (.inr ⟨o,zs,rfl,by rw [List.getElem?_append_left (List.getElem?_eq_some_iff.mp ho).1]; exact ho,hq⟩)))
def kf (j:Nat):Nat:=if j=8 then 23 else if 9 < j then 24 else 22
def Ess (μ:Mu) (a:Nat) (x:D):Prop:=∀ j:Nat,j < 12→μ[a+j]?=some (.exn (j+1) [(kf j,x)])
theorem Ess.app {a:Nat} (h:Ess μ a x) (ν:Mu):Ess (μ++ν) a x:=fun j hj=>by
 have:=h j hj
 rw [List.getElem?_append_left (List.getElem?_eq_some_iff.mp this).1]; exact this
def rngO (a n:Nat):List D:=(List.range n).map fun j=>D.obj (a+j)
def mkEs (i:Nat):List (Bool×Nat)→Es
 | [] => .nil
 | q::r => .cons false (.mkx q.1 q.2 (.var i)) (mkEs i r)
theorem rngO_s (a n:Nat):rngO a (n+1) = .obj a::rngO (a+1) n:=by
 unfold rngO
 rw [List.range_succ_eq_map,List.map_cons,List.map_map]
 congr 1
 refine List.map_congr_left fun j _=>?_
 show D.obj (a+(j+1))=D.obj (a+1+j)
 rw [show a+(j+1)=a+1+j by omega]
theorem mk_all {i:Nat} (hC:C.T=Tk) (hv:σ[i]?=some (some (.val x))) (hn:nbD x=true):∀ (l:List (Bool×Nat)) (ks:List Nat),l.map (fun q=>excOf Tk q.2 [x])=ks.map (fun k=>some [(k,x)])→∀ μ,evEs C (mkEs i l) σ μ = .ok (rngO μ.length l.length) (μ++(l.zip ks).map fun z=>SO.exn z.1.2 [(z.2,x)])
 | [],ks,h,μ=>by
  show Res.ok [] μ=_
  rw [List.zip_nil_left,List.map_nil,List.append_nil]; rfl
 | q::l,[],h,μ=>by simp at h
 | q::l,k::ks,h,μ=>by
  rw [List.map_cons,List.map_cons,List.cons.injEq] at h
  have e1:evE C (.mkx q.1 q.2 (.var i)) σ μ = .ok (.obj μ.length) (μ++[.exn q.2 [(k,x)]]):=e_mkx (Co.var_v hv) hn (by rw [hC]; exact h.1)
  have e2:=mk_all hC hv hn l ks h.2 (μ++[.exn q.2 [(k,x)]])
  have:=Co.es_c e1 e2
  show evEs C (.cons false (.mkx q.1 q.2 (.var i)) (mkEs i l)) σ μ=_
  rw [this,List.length_cons,rngO_s,List.length_append,List.zip_cons_cons,List.map_cons,List.append_assoc]; rfl
end
section
variable {n:Nat} {μ:Mu} {x:D}
theorem rngO_app (a n k:Nat):rngO a n++rngO (a+n) k=rngO a (n+k):=by
 unfold rngO
 rw [List.range_add,List.map_append,List.map_map]
 congr 1
 refine List.map_congr_left fun j _=>?_
 show D.obj (a+n+j)=D.obj (a+(n+j))
 rw [Nat.add_assoc]
theorem errors_ok (hn:nbD x=true):∃ ν,Ess (μ++ν) μ.length x∧callT Tk (lev Tk false (n+1)) 12 [x] μ = .ok (.lst (rngO μ.length 12)) (μ++ν):=by
 have v:∀ (o:Option L),([some (.val x),o]:Sg)[0]?=some (some (.val x)):=fun _=>rfl
 have e1:=mk_all (C:=lev Tk false (n+1)) (i:=0) rfl (v none) hn [(false,1),(false,2),(false,3),(false,4),(false,5)] [22,22,22,22,22] rfl μ
 generalize h1:μ++_=m1 at e1
 have l1:m1.length=μ.length+5:=by rw [← h1]; simp
 have e2:=mk_all (C:=lev Tk false (n+1)) (i:=0) rfl (v (some (.val (.lst (rngO μ.length 5))))) hn [(false,6),(false,7),(false,8),(false,9),(false,10)] [22,22,22,23,22] rfl m1
 generalize h2:m1++_=m2 at e2
 have l2:m2.length=μ.length+10:=by rw [← h2,List.length_append,l1]; rfl
 have e3:=mk_all (C:=lev Tk false (n+1)) (i:=0) rfl (v (some (.val (.lst (rngO μ.length 10))))) hn [(false,11),(false,12)] [24,24] rfl m2
 generalize h3:m2++_=m3 at e3
 rw [l1] at e2
 rw [l2] at e3
 have nb:∀ a k,(rngO a k).all nbD=true:=fun a k=>List.all_eq_true.mpr fun y hy=>by
  obtain ⟨j,_,rfl⟩:=List.mem_map.mp hy; rfl
 have lim5:∀ a k,k≤16777216→lim (rngO a k).length=true:=fun a k h=>by unfold rngO; rw [List.length_map,List.length_range]; exact decide_eq_true h
 have ln:∀ a k,(rngO a k).length=k:=fun a k=>by unfold rngO; rw [List.length_map,List.length_range]
 have ad:∀ a i k (m:Mu),i+k≤16777216→evB2 (lev Tk false (n+1)) .add (.lst (rngO a i)) (.lst (rngO (a+i) k)) m = .ok (.lst (rngO a (i+k))) m:=fun a i k m h=>by
  rw [← rngO_app]
  exact if_pos (by rw [ln,ln]; exact h)
 refine ⟨[.exn 1 [(22,x)],.exn 2 [(22,x)],.exn 3 [(22,x)],.exn 4 [(22,x)],.exn 5 [(22,x)],.exn 6 [(22,x)],.exn 7 [(22,x)],.exn 8 [(22,x)],.exn 9 [(23,x)],.exn 10 [(22,x)],.exn 11 [(24,x)],.exn 12 [(24,x)]],fun j hj=>?_,?_⟩
 ·rw [List.getElem?_append_right (Nat.le_add_right _ _),Nat.add_sub_cancel_left]
  match j,hj with
  | 0,_=>rfl
  | 1,_=>rfl
  | 2,_=>rfl
  | 3,_=>rfl
  | 4,_=>rfl
  | 5,_=>rfl
  | 6,_=>rfl
  | 7,_=>rfl
  | 8,_=>rfl
  | 9,_=>rfl
  | 10,_=>rfl
  | 11,_=>rfl
  | j+12,h=>omega
 ·have hm:m3=μ++[.exn 1 [(22,x)],.exn 2 [(22,x)],.exn 3 [(22,x)],.exn 4 [(22,x)],.exn 5 [(22,x)],.exn 6 [(22,x)],.exn 7 [(22,x)],.exn 8 [(22,x)],.exn 9 [(23,x)],.exn 10 [(22,x)],.exn 11 [(24,x)],.exn 12 [(24,x)]]:=by
   rw [← h3,← h2,← h1]; simp
  rw [← hm,go12_1]
  unfold b12
  have a1:=ad μ.length 5 5 m2 (by decide)
  have a2:=ad μ.length 10 2 m3 (by decide)
  exact outR (Co.st_c (σ':=[some (.val x),some (.val (.lst (rngO μ.length 5)))]) (Co.s_asg (i:=1) (Co.e_lst e1 (lim5 _ _ (by decide)) (nb _ _)) rfl)
   (Co.st_c (σ':=[some (.val x),some (.val (.lst (rngO μ.length 10)))]) (Co.s_asg (i:=1) (Co.e_bin (Co.var_v rfl) (Co.e_lst e2 (lim5 _ _ (by decide)) (nb _ _)) a1) rfl)
   (Co.s_ret (Co.e_bin (Co.var_v rfl) (Co.e_lst e3 (lim5 _ _ (by decide)) (nb _ _)) a2) rfl)))
theorem named_ok (hn:nbD x=true):∃ ν,(∀ j:Nat,j < 9→∃ c,(μ++ν)[μ.length+j]?=some (.exn c [(22,x)]))∧callT Tk (lev Tk false (n+1)) 13 [x] μ = .ok (.lst (rngO μ.length 9)) (μ++ν):=by
 have v:∀ (o:Option L),([some (.val x),o]:Sg)[0]?=some (some (.val x)):=fun _=>rfl
 have e1:=mk_all (C:=lev Tk false (n+1)) (i:=0) rfl (v none) hn [(true,1),(true,2),(true,3),(true,4)] [22,22,22,22] rfl μ
 generalize h1:μ++_=m1 at e1
 have l1:m1.length=μ.length+4:=by rw [← h1]; simp
 have e2:=mk_all (C:=lev Tk false (n+1)) (i:=0) rfl (v (some (.val (.lst (rngO μ.length 4))))) hn [(true,5),(true,6),(true,7),(true,8)] [22,22,22,22] rfl m1
 generalize h2:m1++_=m2 at e2
 have l2:m2.length=μ.length+8:=by rw [← h2,List.length_append,l1]; rfl
 have e3:=mk_all (C:=lev Tk false (n+1)) (i:=0) rfl (v (some (.val (.lst (rngO μ.length 8))))) hn [(true,10)] [22] rfl m2
 generalize h3:m2++_=m3 at e3
 rw [l1] at e2
 rw [l2] at e3
 have nb:∀ a k,(rngO a k).all nbD=true:=fun a k=>List.all_eq_true.mpr fun y hy=>by
  obtain ⟨j,_,rfl⟩:=List.mem_map.mp hy; rfl
 have lim5:∀ a k,k≤16777216→lim (rngO a k).length=true:=fun a k h=>by unfold rngO; rw [List.length_map,List.length_range]; exact decide_eq_true h
 have ln:∀ a k,(rngO a k).length=k:=fun a k=>by unfold rngO; rw [List.length_map,List.length_range]
 have ad:∀ a i k (m:Mu),i+k≤16777216→evB2 (lev Tk false (n+1)) .add (.lst (rngO a i)) (.lst (rngO (a+i) k)) m = .ok (.lst (rngO a (i+k))) m:=fun a i k m h=>by
  rw [← rngO_app]
  exact if_pos (by rw [ln,ln]; exact h)
 refine ⟨[.exn 1 [(22,x)],.exn 2 [(22,x)],.exn 3 [(22,x)],.exn 4 [(22,x)],.exn 5 [(22,x)],.exn 6 [(22,x)],.exn 7 [(22,x)],.exn 8 [(22,x)],.exn 10 [(22,x)]],fun j hj=>?_,?_⟩
 ·rw [List.getElem?_append_right (Nat.le_add_right _ _),Nat.add_sub_cancel_left]
  match j,hj with
  | 0,_=>exact ⟨_,rfl⟩
  | 1,_=>exact ⟨_,rfl⟩
  | 2,_=>exact ⟨_,rfl⟩
  | 3,_=>exact ⟨_,rfl⟩
  | 4,_=>exact ⟨_,rfl⟩
  | 5,_=>exact ⟨_,rfl⟩
  | 6,_=>exact ⟨_,rfl⟩
  | 7,_=>exact ⟨_,rfl⟩
  | 8,_=>exact ⟨_,rfl⟩
  | j+9,h=>omega
 ·have hm:m3=μ++[.exn 1 [(22,x)],.exn 2 [(22,x)],.exn 3 [(22,x)],.exn 4 [(22,x)],.exn 5 [(22,x)],.exn 6 [(22,x)],.exn 7 [(22,x)],.exn 8 [(22,x)],.exn 10 [(22,x)]]:=by
   rw [← h3,← h2,← h1]; simp
  rw [← hm,go13_1]
  unfold b13
  have a1:=ad μ.length 4 4 m2 (by decide)
  have a2:=ad μ.length 8 1 m3 (by decide)
  exact outR (Co.st_c (σ':=[some (.val x),some (.val (.lst (rngO μ.length 4)))]) (Co.s_asg (i:=1) (Co.e_lst e1 (lim5 _ _ (by decide)) (nb _ _)) rfl)
   (Co.st_c (σ':=[some (.val x),some (.val (.lst (rngO μ.length 8)))]) (Co.s_asg (i:=1) (Co.e_bin (Co.var_v rfl) (Co.e_lst e2 (lim5 _ _ (by decide)) (nb _ _)) a1) rfl)
   (Co.s_ret (Co.e_bin (Co.var_v rfl) (Co.e_lst e3 (lim5 _ _ (by decide)) (nb _ _)) a2) rfl)))
def sgn (j:Nat):List D:=(List.range 12).map fun i=>D.bl (decide (i=j))
theorem signs_ok {o j:Nat} {fs:List (Nat×D)} (hj:j < 12) (ho:μ[o]?=some (.exn (j+1) fs)):callT Tk (lev Tk false (n+1)) 14 [.obj o] μ = .ok (.lst (sgn j)) μ:=by
 have is:∀ (i:Nat),i < 12→∀ {s:Option L},evE (lev Tk false (n+1)) (.isx (.var 0) (.cls (i+1))) [some (.val (.obj o)),s] μ = .ok (.bl (decide (i=j))) μ:=fun i hi s=>by
  refine e_isx (Co.var_v rfl) ho ?_
  have:∀ j:Nat,j < 12→∀ i:Nat,i < 12→isTy Tk (.ins (j+1)) (.cls (i+1))=decide (i=j):=by decide +kernel
  rw [lev_T]; exact this j hj i hi
 rw [go14_1]
 unfold b14
 exact outR (Co.st_c (σ':=[some (.val (.obj o)),some (.val (.lst ((List.range 3).map fun i=>D.bl (decide (i=j)))))]) (m:=μ) (Co.s_asg (i:=1) (Co.e_lst (Co.es_c (is 0 (by decide)) (Co.es_c (is 1 (by decide)) (Co.es_1 (is 2 (by decide))))) rfl rfl) rfl)
  (Co.st_c (σ':=[some (.val (.obj o)),some (.val (.lst ((List.range 6).map fun i=>D.bl (decide (i=j)))))]) (m:=μ) (Co.s_asg (i:=1) (Co.e_bin (m:=μ) (m':=μ) (Co.var_v rfl) (Co.e_lst (Co.es_c (is 3 (by decide)) (Co.es_c (is 4 (by decide)) (Co.es_1 (is 5 (by decide))))) rfl rfl) rfl) rfl)
  (Co.st_c (σ':=[some (.val (.obj o)),some (.val (.lst ((List.range 9).map fun i=>D.bl (decide (i=j)))))]) (m:=μ) (Co.s_asg (i:=1) (Co.e_bin (m:=μ) (m':=μ) (Co.var_v rfl) (Co.e_lst (Co.es_c (is 6 (by decide)) (Co.es_c (is 7 (by decide)) (Co.es_1 (is 8 (by decide))))) rfl rfl) rfl) rfl)
  (Co.st_c (σ':=[some (.val (.obj o)),some (.val (.lst ((List.range 11).map fun i=>D.bl (decide (i=j)))))]) (m:=μ) (Co.s_asg (i:=1) (Co.e_bin (m:=μ) (m':=μ) (Co.var_v rfl) (Co.e_lst (Co.es_c (is 9 (by decide)) (Co.es_1 (is 10 (by decide)))) rfl rfl) rfl) rfl)
  (Co.s_ret (Co.e_bin (m:=μ) (m':=μ) (Co.var_v rfl) (Co.e_lst (Co.es_1 (is 11 (by decide))) rfl rfl) rfl) rfl)))))
theorem fields_ok {a:Nat} (h:Ess μ a x) (hn:nbD x=true):callT Tk (lev Tk false (n+1)) 15 [.lst (rngO a 12)] μ = .ok (.lst (List.replicate 12 x)) μ:=by
 rw [go15_1]
 unfold b15 E15_1 E15_0
 let σ:Option L→Option L→Sg:=fun s1 s2=>[some (.val (.lst (rngO a 12))),s1,s2]
 have sl:evE (lev Tk false (n+1)) (.sl (.var 0) .none (.some (.lit (.int 8)))) (σ none none) μ = .ok (.lst (rngO a 8)) μ:=Co.e_slU (x:=.lst (rngO a 12)) (k:=8) (Co.var_v rfl) rfl rfl
 have at_:∀ (i k:Nat) {s1 s2:Option L},i < 12→kf i=k→evE (lev Tk false (n+1)) (.attr (.idx (.var 0) (.lit (.int (i:Int)))) k) (σ s1 s2) μ = .ok x μ:=fun i k s1 s2 hi hk=>by
  refine Co.e_attr (x:=.obj (a+i)) rfl (Co.e_idx (x:=.lst (rngO a 12)) (y:=.int (i:Int)) (Co.var_v rfl) rfl (Co.ix_l (Co.nth_k ?_))) (at_exn (h i hi) (by rw [hk]; simp [List.lookup]))
  unfold rngO
  rw [List.getElem?_map,List.getElem?_range hi]; rfl
 have cp:evE (lev Tk false (n+1)) (.comp (.attr (.var 2) 22) (.name 2) (.seq (.sl (.var 0) .none (.some (.lit (.int 8))))) .none [2]) (σ none none) μ = .ok (.lst (List.replicate 8 x)) μ:=by
  have:List.replicate 8 x=(List.range 8).map fun _=>x:=rfl
  rw [this]
  refine Co.e_comp (m:=μ) (Co.it_seq (x:=.lst (rngO a 8)) sl rfl) rfl (Co.c_map fun j hj=>?_)
  have hj:=List.mem_range.mp hj
  refine Co.k_name rfl (Co.e_attr (x:=.obj (a+j)) rfl (Co.var_v rfl) (at_exn (h j (by omega)) ?_)) hn
  have:kf j=22:=by unfold kf; rw [if_neg (by omega),if_neg (by omega)]
  rw [this]; simp [List.lookup]
 have nl:∀ k,nbD (.lst (List.replicate k x))=true:=fun k=>rfl
 exact outR (Co.st_c (σ':=σ (some (.val (.lst (List.replicate 10 x)))) none) (m:=μ) (Co.s_asg (i:=1) (Co.e_bin (m:=μ) (m':=μ) cp (Co.e_lst (vs:=[x,x]) (Co.es_c (at_ 8 _ (by decide) rfl) (Co.es_1 (at_ 9 _ (by decide) rfl))) rfl (by simp [hn])) rfl) rfl)
  (Co.s_ret (Co.e_bin (m:=μ) (m':=μ) (Co.var_v rfl) (Co.e_lst (vs:=[x,x]) (Co.es_c (at_ 10 _ (by decide) rfl) (Co.es_1 (at_ 11 _ (by decide) rfl))) rfl (by simp [hn])) rfl) rfl))
end
end Ev
set_option maxRecDepth 100000
set_option maxHeartbeats 1000000
namespace Ev
open PySem
theorem cut_take6 {xs:List D} {i:Nat}:cut xs none (some (i:Int))=xs.take i:=by
 unfold cut
 rw [HT.sIx_none,HT.sIx_nat]
 rcases Nat.le_total i xs.length with h | h
 ·rw [Nat.min_eq_left h]; simp
 ·rw [Nat.min_eq_right h,List.take_of_length_le h]; simp
section
variable {n:Nat} {μ:Mu} {x:D}
theorem turn_in {o j:Nat} {fs:List (Nat×D)} (hj:j < 12) (ho:μ[o]?=some (.exn (j+1) fs)) {s0 s1 s2 s3 s4 s5 s6:Option L}:∃ t6,exSs (lev Tk false (n+2)) L16_0 [s0,s1,s2,s3,some (.val (.int (j:Int))),some (.val (.obj o)),s6] μ = .nx [s0,s1,s2,s3,some (.val (.int (j:Int))),some (.val (.obj o)),t6] μ:=by
 have sg:=signs_ok (n:=n) hj ho
 have c14:∀ {s6:Option L},evE (lev Tk false (n+2)) (.call 14 (.cons false (.var 5) .nil)) [s0,s1,s2,s3,some (.val (.int (j:Int))),some (.val (.obj o)),s6] μ = .ok (.lst (sgn j)) μ:=fun {s6}=>Co.e_call (vs:=[.obj o]) (Co.es_1 (Co.var_v rfl)) rfl (by rw [lev_call]; exact sg)
 have cn:evBm (lev Tk false (n+2)) .count (.lst (sgn j)) [.bl true] μ = .ok (.int 1) μ:=by
  have:∀ j:Nat,j < 12→(flat (.bl true)&&(sgn j).all flat)=true∧(((sgn j).countP fun y=>feq y (.bl true):Nat):Int)=1:=by decide +kernel
  obtain ⟨h1,h2⟩:=this j hj
  show (if flat (.bl true)&&(sgn j).all flat then Res.ok (D.int (((sgn j).countP fun y=>feq y (.bl true):Nat):Int)) μ else Res.stuck)=_
  rw [if_pos h1,h2]
 have ix:evBm (lev Tk false (n+2)) .index (.lst (sgn j)) [.bl true] μ = .ok (.int (j:Int)) μ:=by
  have:∀ j:Nat,j < 12→(flat (.bl true)&&(sgn j).all flat)=true∧((sgn j).findIdx? fun y=>feq y (.bl true))=some j:=by decide +kernel
  obtain ⟨h1,h2⟩:=this j hj
  show (if flat (.bl true)&&(sgn j).all flat then (match (sgn j).findIdx? fun y=>feq y (.bl true) with
   | some j=>Res.ok (D.int (j:Int)) μ
   | none=>Res.stuck) else Res.stuck)=_
  rw [if_pos h1,h2]
 have t0:evT (lev Tk false (n+2)) T16_0 [s0,s1,s2,s3,some (.val (.int (j:Int))),some (.val (.obj o)),s6] μ = .ok false μ:=by
  unfold T16_0
  exact Co.or_f (m:=μ) (Co.e_bl (Co.e_cmp (m:=μ) (m':=μ) (Co.e_bm c14 rfl (Co.es_1 rfl) cn) rfl (neS okI))) (Co.e_bl (Co.e_cmp (m:=μ) (m':=μ) (Co.e_bm c14 rfl (Co.es_1 rfl) ix) (Co.var_v rfl) (neS okI)))
 have is:∀ (k:Kd) (b:Bool),isTy Tk (.ins (j+1)) k=b→∀ {s6:Option L},evE (lev Tk false (n+2)) (.isx (.var 5) k) [s0,s1,s2,s3,some (.val (.int (j:Int))),some (.val (.obj o)),s6] μ = .ok (.bl b) μ:=fun k b hb s6=>e_isx (Co.var_v rfl) ho (by rw [lev_T]; exact hb)
 have kd:∀ j:Nat,j < 12→isTy Tk (.ins (j+1)) (.cls 0)=decide ((j:Int) < 9)∧isTy Tk (.ins (j+1)) .verr=decide ((j:Int) < 9)∧isTy Tk (.ins (j+1)) .arerr=decide ((j:Int)=9)∧isTy Tk (.ins (j+1)) .lkerr=decide ((9:Int) < (j:Int)):=by decide +kernel
 obtain ⟨k1,k2,k3,k4⟩:=kd j hj
 let τ:Option L→Sg:=fun s6=>[s0,s1,s2,s3,some (.val (.int (j:Int))),some (.val (.obj o)),s6]
 have b6:evE (lev Tk false (n+2)) (.lst (.cons false (.isx (.var 5) (.cls 0)) (.cons false (.isx (.var 5) .verr) (.cons false (.isx (.var 5) .arerr) .nil)))) (τ s6) μ = .ok (.lst [.bl (decide ((j:Int) < 9)),.bl (decide ((j:Int) < 9)),.bl (decide ((j:Int)=9))]) μ:=
  Co.e_lst (Co.es_c (is _ _ k1) (Co.es_c (is _ _ k2) (Co.es_1 (is _ _ k3)))) rfl rfl
 let B:List D:=[.bl (decide ((j:Int) < 9)),.bl (decide ((j:Int) < 9)),.bl (decide ((j:Int)=9)),.bl (decide ((9:Int) < (j:Int)))]
 have eqI:evCm (lev Tk false (n+2)) .eq (.int (j:Int)) (.int 9) μ = .ok (.bl (decide ((j:Int)=9))) μ:=by
  show resB (eqD _ _ _ μ)=_
  unfold eqD
  rw [if_pos (show eqOk (lev Tk false (n+2)) μ 7 (.int (j:Int)) (.int 9) from .inl ⟨rfl,rfl,rfl⟩)]
  simp [resB]
 have t1:evT (lev Tk false (n+2)) T16_1 (τ (some (.val (.lst [.bl (decide ((j:Int) < 9)),.bl (decide ((j:Int) < 9)),.bl (decide ((j:Int)=9))])))) μ = .ok false μ:=by
  unfold T16_1
  refine Co.e_bl (Co.e_cmp (x:=.lst B) (y:=.lst B) (m:=μ) (m':=μ) (Co.e_bin (m:=μ) (m':=μ) (Co.var_v rfl) (Co.e_lst (Co.es_1 (is _ _ k4)) rfl rfl) rfl) (Co.e_lst (Co.es_c (Co.e_cmp (m:=μ) (m':=μ) (Co.var_v rfl) rfl rfl) (Co.es_c (Co.e_cmp (m:=μ) (m':=μ) (Co.var_v rfl) rfl rfl) (Co.es_c (Co.e_cmp (m:=μ) (m':=μ) (Co.var_v rfl) rfl eqI) (Co.es_1 (Co.e_cmp (m:=μ) (m':=μ) (Co.var_v rfl) rfl rfl))))) rfl rfl) (neS (okL fun y hy=>?_)))
  simp only [B,List.mem_cons,List.not_mem_nil,or_false] at hy
  rcases hy with rfl | rfl | rfl | rfl <;> exact okB
 unfold L16_0
 exact ⟨_,Co.st_c (Co.s_iteF t0 rfl) (Co.st_c (Co.s_asg (i:=6) b6 rfl) (Co.st_c (Co.s_iteF t1 rfl) rfl))⟩
theorem loop_in {a:Nat} (h:Ess μ a x) {s0 s1 s2 s3:Option L}:∀ (k i:Nat),i+k=12→∀ s4 s5 s6:Option L,∃ t4 t5 t6,forL (turnF (lev Tk false (n+2)) (.tup (.cons (.name 4) (.cons (.name 5) .nil))) L16_0) (enumD i (rngO (a+i) k)) [s0,s1,s2,s3,s4,s5,s6] μ = .nx [s0,s1,s2,s3,t4,t5,t6] μ
 | 0,i,_,s4,s5,s6=>⟨s4,s5,s6,rfl⟩
 | k+1,i,hi,s4,s5,s6=>by
  obtain ⟨t6,e⟩:=turn_in (n:=n) (μ:=μ) (o:=a+i) (j:=i) (by omega) (h i (by omega)) (s0:=s0) (s1:=s1) (s2:=s2) (s3:=s3) (s4:=s4) (s5:=s5) (s6:=s6)
  obtain ⟨u4,u5,u6,e2⟩:=loop_in h (s0:=s0) (s1:=s1) (s2:=s2) (s3:=s3) k (i+1) (by omega) (some (.val (.int (i:Int)))) (some (.val (.obj (a+i)))) t6
  refine ⟨u4,u5,u6,?_⟩
  rw [rngO_s]
  show forL _ (.tup [.int (i:Int),.obj (a+i)]::enumD (i+1) (rngO (a+i+1) k)) _ μ=_
  rw [show a+i+1=a+(i+1) by omega]
  refine Co.l_nx ?_ e2
  rw [Co.t_two rfl rfl]
  exact e
theorem Xs.up (h:Xs 1 μ x):Xs 2 μ x:=by
 rcases h with h | h | h | h | ⟨o,zs,rfl,ho,hq⟩
 ·exact .inl h
 ·exact .inr (.inl h)
 ·exact .inr (.inr (.inl h))
 ·exact .inr (.inr (.inr (.inl h)))
 ·exact .inr (.inr (.inr (.inr ⟨o,zs,rfl,ho,by omega⟩)))
theorem e_fld {c k:Nat} {q:Nat} {σ:Sg} (hx:Xs q μ x) (h2:σ[2]?=some (some (.val x))) (hf:excOf Tk c [x]=some [(k,x)]):∃ ν,evE (lev Tk false (n+2)) (.cmp .ne (.attr (.mkx true c (.var 2)) k) (.var 2)) σ μ = .ok (.bl false) (μ++ν):=by
 refine ⟨[.exn c [(k,x)]],Co.e_cmp (m:=μ++[.exn c [(k,x)]]) (m':=μ++[.exn c [(k,x)]]) (Co.e_attr (x:=.obj μ.length) rfl (e_mkx (Co.var_v h2) hx.nb (by rw [lev_T]; exact hf)) (at_exn (fs:=[(k,x)]) (c:=c) (by rw [List.getElem?_append_right (Nat.le_refl _),Nat.sub_self]; rfl) (by simp [List.lookup]))) (Co.var_v h2) (neS (hx.app _).ok)⟩
theorem e_flds {a k:Nat} {q:Nat} {σ:Sg} (hx:Xs q μ x) (h:Ess μ a x) (h2:σ[2]?=some (some (.val x))) (h3:σ[3]?=some (some (.val (.lst (rngO a 12))))):evE (lev Tk false (n+2)) (.cmp .ne (.call 15 (.cons false (.var 3) .nil)) (.bin .mul (.lst (.cons false (.var 2) .nil)) (.lit (.int 12)))) σ μ = .ok (.bl false) μ:=by
 have f:=fields_ok (n:=n) h hx.nb
 exact Co.e_cmp (x:=.lst (List.replicate 12 x)) (y:=.lst (List.replicate 12 x)) (m:=μ) (m':=μ) (Co.e_call (vs:=[.lst (rngO a 12)]) (Co.es_1 (Co.var_v h3)) rfl (by rw [lev_call]; exact f)) (Co.e_bin (x:=.lst [x]) (y:=.int 12) (m:=μ) (m':=μ) (Co.e_lst (Co.es_1 (Co.var_v h2)) rfl (by simp [hx.nb])) rfl rfl) (neS (okL fun y hy=>by rw [List.eq_of_mem_replicate hy]; exact hx.ok))
theorem rest_ok (hx:Xs 1 μ x) {s0 s1 s3 s4 s5 s6:Option L}:∃ t3 t4 t5 t6 μ',exSs (lev Tk false (n+2)) (match L16_1 with | .cons _ r=>r | r=>r) [s0,s1,some (.val x),s3,s4,s5,s6] μ = .nx [s0,s1,some (.val x),t3,t4,t5,t6] μ':=by
 obtain ⟨ν,he,e3⟩:=errors_ok (n:=n) (μ:=μ) hx.nb
 have hx1:=hx.app ν
 generalize μ++ν=m1 at he e3 hx1
 generalize μ.length=a at he e3
 obtain ⟨t4,t5,t6,lp⟩:=loop_in (n:=n) he (s0:=s0) (s1:=s1) (s2:=some (.val x)) (s3:=some (.val (.lst (rngO a 12)))) 12 0 rfl s4 s5 s6
 let τ:Sg:=[s0,s1,some (.val x),some (.val (.lst (rngO a 12))),t4,t5,t6]
 obtain ⟨ν2,hn,e13⟩:=named_ok (n:=n) (μ:=m1) hx1.nb
 have hx2:=hx1.app ν2
 have he2:=he.app ν2
 have t2:evT (lev Tk false (n+2)) T16_2 τ m1 = .ok false (m1++ν2):=by
  unfold T16_2 E16_1 E16_0
  refine Co.or_f (m:=m1++ν2) (Co.e_bl (Co.e_cmp (x:=.lst (List.replicate 9 x)) (y:=.lst (List.replicate 9 x)) (m:=m1++ν2) (m':=m1++ν2) ?_ (Co.e_bin (x:=.lst [x]) (y:=.int 9) (m:=m1++ν2) (m':=m1++ν2) (Co.e_lst (Co.es_1 (Co.var_v rfl)) rfl (by simp [hx.nb])) rfl rfl) (neS (okL fun y hy=>by rw [List.eq_of_mem_replicate hy]; exact hx2.ok)))) (Co.e_bl (e_flds (n:=n) (k:=0) hx2 he2 rfl rfl))
  have:List.replicate 9 x=(List.range 9).map fun _=>x:=rfl
  rw [this]
  refine Co.e_comp (m:=m1++ν2) (xs:=rngO m1.length 9) (Co.it_seq (x:=.lst (rngO m1.length 9)) (Co.e_call (vs:=[x]) (Co.es_1 (Co.var_v rfl)) (by simp [hx.nb]) (by rw [lev_call]; exact e13)) rfl) rfl (Co.c_map fun j hj=>?_)
  obtain ⟨c,hc⟩:=hn j (List.mem_range.mp hj)
  exact Co.k_name rfl (Co.e_attr (x:=.obj (m1.length+j)) rfl (Co.var_v rfl) (at_exn hc (by simp [List.lookup]))) hx.nb
 generalize m1++ν2=m2 at t2 hx2 he2
 obtain ⟨ν3,f1⟩:=e_fld (n:=n) (μ:=m2) (c:=9) (k:=23) (σ:=τ) hx2 rfl rfl
 have hx3:=hx2.app ν3
 have he3:=he2.app ν3
 generalize m2++ν3=m3 at f1 hx3 he3
 obtain ⟨ν4,f2⟩:=e_fld (n:=n) (μ:=m3) (c:=11) (k:=24) (σ:=τ) hx3 rfl rfl
 have hx4:=hx3.app ν4
 have he4:=he3.app ν4
 generalize m3++ν4=m4 at f2 hx4 he4
 have t3:evT (lev Tk false (n+2)) T16_3 τ m2 = .ok false m4:=by
  unfold T16_3
  exact Co.or_f (Co.e_bl f1) (Co.e_bl f2)
 have grow:∃ m5,Xs 2 m5 x∧Ess m5 a x∧exS (lev Tk false (n+2)) (.ite T16_4 (.cons (.app 2 (.lit (.int 2))) .nil) .nil) τ m4 = .nx τ m5:=by
  unfold T16_4
  have no:∀ t,tyOf m4 x=some t→isTy Tk t .list=false→exS (lev Tk false (n+2)) (.ite (.e (.isin (.var 2) false [.list])) (.cons (.app 2 (.lit (.int 2))) .nil) .nil) τ m4 = .nx τ m4:=fun t ht hb =>
   Co.s_iteF (Co.e_bl (Co.e_isin rfl (Co.var_v rfl) ht (by rw [lev_T]; simp [hb]))) rfl
  rcases id hx4 with ⟨c,rfl⟩ | ⟨c,rfl⟩ | rfl | rfl | ⟨o,zs,rfl,ho,hq⟩
  ·exact ⟨m4,hx4.up,he4,no _ rfl rfl⟩
  ·exact ⟨m4,hx4.up,he4,no _ rfl rfl⟩
  ·exact ⟨m4,hx4.up,he4,no _ rfl rfl⟩
  ·exact ⟨m4,hx4.up,he4,no _ rfl rfl⟩
  ·have ht:tyOf m4 (.obj o)=some .lst:=by unfold tyOf; dsimp only; rw [ho]
   ·refine ⟨m4.set o (.lst (zs.map D.int++[.int 2])),.inr (.inr (.inr (.inr ⟨o,zs++[2],rfl,?_,by rw [List.length_append]; exact Nat.add_le_add_right hq 1⟩))),fun j hj=>?_,Co.s_iteT (Co.e_bl (Co.e_isin rfl (Co.var_v rfl) ht rfl)) (Co.st_c (Co.s_appO (xs:=zs.map D.int) (ys:=zs.map D.int) (a:=o) rfl ho rfl ho rfl (by rw [List.length_map]; omega)) rfl)⟩
    ·rw [List.getElem?_set_self (List.getElem?_eq_some_iff.mp ho).1,List.map_append]; rfl
    ·have g:=he4 j hj
     have ne:o≠a+j:=fun z=>by rw [← z,ho] at g; cases g
     rw [List.getElem?_set_ne ne]; exact g
 obtain ⟨m5,hx5,he5,s4e⟩:=grow
 obtain ⟨ν6,f3⟩:=e_fld (n:=n) (μ:=m5) (c:=12) (k:=24) (σ:=τ) hx5 rfl rfl
 have hx6:=hx5.app ν6
 have he6:=he5.app ν6
 generalize m5++ν6=m6 at f3 hx6 he6
 have t5e:evT (lev Tk false (n+2)) T16_5 τ m5 = .ok false m6:=by
  unfold T16_5
  exact Co.or_f (Co.e_bl f3) (Co.e_bl (e_flds (n:=n) (k:=0) hx6 he6 rfl rfl))
 unfold L16_1
 exact ⟨some (.val (.lst (rngO a 12))),t4,t5,t6,m6,Co.st_c (σ':=[s0,s1,some (.val x),some (.val (.lst (rngO a 12))),s4,s5,s6]) (m:=m1) (Co.s_asg (i:=3) (Co.e_call (vs:=[x]) (Co.es_1 (Co.var_v rfl)) (by simp [hx.nb]) (by rw [lev_call]; exact e3)) rfl)
  (Co.st_c (σ':=τ) (m:=m1) (Co.s_for (Co.it_enum (x:=.lst (rngO a 12)) (Co.var_v rfl) rfl) lp)
  (Co.st_c (σ':=τ) (m:=m2) (Co.s_iteF t2 rfl)
  (Co.st_c (σ':=τ) (m:=m4) (Co.s_iteF t3 rfl)
  (Co.st_c (σ':=τ) (m:=m5) s4e
  (Co.st_c (σ':=τ) (m:=m6) (Co.s_iteF t5e rfl) rfl)))))⟩
theorem turn_ok {c:Int} {s0 s2 s3 s4 s5 s6:Option L}:∃ t2 t3 t4 t5 t6 μ',exSs (lev Tk false (n+2)) L16_1 [s0,some (.val (.int c)),s2,s3,s4,s5,s6] μ = .nx [s0,some (.val (.int c)),t2,t3,t4,t5,t6] μ':=by
 let m1:Mu:=μ++[.lst [.int 1]]
 let τ:Option L→Sg:=fun s2=>[s0,some (.val (.int c)),s2,s3,s4,s5,s6]
 have md:∀ {m:Mu} {k:Int},k≠0→evB2 (lev Tk false (n+2)) .mod (.int c) (.int k) m = .ok (.int (c.fmod k)) m:=fun {m k} hk=>if_pos hk
 have pw:∀ {m:Mu},evE (lev Tk false (n+2)) (.bin .pow (.lit (.int 10)) (.lit (.int 9))) (τ s2) m = .ok (.int (10^9)) m:=fun {m}=>Co.e_bin (x:=.int 10) (y:=.int 9) (m:=m) (m':=m) rfl rfl rfl
 let xs:List D:=[.tup [.int (c.fmod (10^9))],.int (c.fmod 7),.non,.str "a",.obj μ.length]
 have dsp:evE (lev Tk false (n+2)) (.lst (.cons false (.tup (.cons false (.bin .mod (.var 1) (.bin .pow (.lit (.int 10)) (.lit (.int 9)))) .nil)) (.cons false (.bin .mod (.var 1) (.lit (.int 7))) (.cons false (.lit .non) (.cons false (.lit (.str "a")) (.cons false (.cell (.cons false (.lit (.int 1)) .nil)) .nil)))))) (τ s2) μ = .ok (.lst xs) m1:=by
  have cell:evE (lev Tk false (n+2)) (.cell (.cons false (.lit (.int 1)) .nil)) (τ s2) μ = .ok (.obj μ.length) m1:=by
   show (evEs (lev Tk false (n+2)) (.cons false (.lit (.int 1)) .nil) (τ s2) μ).bind _=_
   rw [Co.es_1 (x:=.int 1) (m:=μ) rfl]; rfl
  exact Co.e_lst (Co.es_c (m:=μ) (Co.e_tup (Co.es_1 (Co.e_bin (m:=μ) (m':=μ) (Co.var_v rfl) pw (md (by decide)))) rfl rfl) (Co.es_c (m:=μ) (Co.e_bin (m:=μ) (m':=μ) (Co.var_v rfl) rfl (md (by decide))) (Co.es_c rfl (Co.es_c rfl (Co.es_1 cell))))) rfl rfl
 have m5:evE (lev Tk false (n+2)) (.bin .mod (.var 1) (.lit (.int 5))) (τ s2) m1 = .ok (.int (c.fmod 5)) m1:=Co.e_bin (m:=m1) (m':=m1) (Co.var_v rfl) rfl (md (by decide))
 obtain ⟨k,hk,ek⟩:∃ k:Nat,k < 5∧c.fmod 5=(k:Int):=by
  have h1:=Int.fmod_nonneg_of_pos c (show (0:Int) < 5 by decide)
  have h2:=Int.fmod_lt_of_pos c (show (0:Int) < 5 by decide)
  exact ⟨(c.fmod 5).toNat,by omega,by omega⟩
 have hX:∀ i:Nat,i < 5→∃ x,xs[i]?=some x∧Xs 1 m1 x:=fun i hi=>by
  match i,hi with
  | 0,_=>exact ⟨_,rfl,.inl ⟨_,rfl⟩⟩
  | 1,_=>exact ⟨_,rfl,.inr (.inl ⟨_,rfl⟩)⟩
  | 2,_=>exact ⟨_,rfl,.inr (.inr (.inl rfl))⟩
  | 3,_=>exact ⟨_,rfl,.inr (.inr (.inr (.inl rfl)))⟩
  | 4,_=>exact ⟨_,rfl,.inr (.inr (.inr (.inr ⟨μ.length,[1],rfl,by show (μ++[SO.lst [.int 1]])[μ.length]?=_; rw [List.getElem?_append_right (Nat.le_refl _),Nat.sub_self]; rfl,by decide⟩)))⟩
  | i+5,h=>omega
 obtain ⟨x,hx1,hx⟩:=hX k hk
 obtain ⟨t3,t4,t5,t6,μ',e⟩:=rest_ok (n:=n) hx (s0:=s0) (s1:=some (.val (.int c))) (s3:=s3) (s4:=s4) (s5:=s5) (s6:=s6)
 refine ⟨some (.val x),t3,t4,t5,t6,μ',?_⟩
 have e:=e
 unfold L16_1 at e ⊢
 exact Co.st_c (σ':=τ (some (.val x))) (m:=m1) (Co.s_asg (i:=2) (Co.e_idx (x:=.lst xs) (y:=.int (c.fmod 5)) dsp m5 (by rw [ek]; exact Co.ix_l (Co.nth_k hx1))) hx.nb) e
end
def lawL:Nat:=2
theorem law_true:LawTrue Tk lawL 16 63:=by
 intro ns hl hb
 rw [go16_1]
 obtain ⟨σ',μ',e,q,hq,rfl⟩:=forL_inv (turn:=turnF (lev Tk false 2) (.name 1) L16_1)
  (fun σ _=>∃ q:List (Option L),q.length=6∧σ=some (.val (.lst (ns.map D.int)))::q) (((ns++[1]).take 6).map D.int)
  [some (.val (.lst (ns.map D.int))),none,none,none,none,none,none] []
  (by
   rintro x hx σ m ⟨q,hq,rfl⟩
   obtain ⟨c,hc,rfl⟩:=List.mem_map.mp hx
   match q,hq with
   | [y1,y2,y3,y4,y5,y6],_ =>
    obtain ⟨t2,t3,t4,t5,t6,m',e⟩:=turn_ok (n:=0) (μ:=m) (c:=c) (s0:=some (.val (.lst (ns.map D.int)))) (s2:=y2) (s3:=y3) (s4:=y4) (s5:=y5) (s6:=y6)
    refine ⟨_,m',?_,[some (.val (.int c)),t2,t3,t4,t5,t6],rfl,rfl⟩
    rw [Co.t_name rfl]
    exact e) ⟨_,rfl,rfl⟩
 have l5:lev Tk false lawL=lev Tk false 2:=rfl
 refine ⟨μ',?_⟩
 rw [l5]
 unfold b16
 have hi:evIt (lev Tk false 2) false (.seq (.sl (.bin .add (.var 0) (.lst (.cons false (.lit (.int 1)) .nil))) .none (.some (.lit (.int 6))))) [some (.val (.lst (ns.map D.int))),none,none,none,none,none,none] [] = .ok (((ns++[1]).take 6).map D.int) []:=by
  have ad:evE (lev Tk false 2) (.bin .add (.var 0) (.lst (.cons false (.lit (.int 1)) .nil))) [some (.val (.lst (ns.map D.int))),none,none,none,none,none,none] [] = .ok (.lst ((ns++[1]).map D.int)) []:=by
   refine Co.e_bin (x:=.lst (ns.map D.int)) (y:=.lst [.int 1]) (Co.var_v rfl) (Co.e_lst (Co.es_1 rfl) rfl rfl) ?_
   rw [List.map_append]
   exact if_pos (by rw [List.length_map]; show ns.length+1≤16777216; omega)
  refine Co.it_seq (x:=.lst (((ns++[1]).take 6).map D.int)) (Co.e_slU (k:=6) ad rfl ?_) rfl
  show some (D.lst (cut _ _ _))=_
  rw [show ((6:Int))=((6:Nat):Int) from rfl,cut_take6]
  rw [List.map_take]
 exact outR (Co.st_c (Co.s_for hi e) (Co.s_ret rfl rfl))
end Ev
set_option maxRecDepth 100000
namespace Ev
open PySem
end Ev
open PySem PySem.W PySem.Calls PyProof.Rows
set_option maxHeartbeats 0
theorem PySem.Challenge.cw_springrows_k04_error_classes_holds : PySem.Challenge.rw_springrows_k04_error_classes.Holds := by
 w_on; o_law
 refine HandSHeadRun.head_any (r:=OpenLaw.row PySem.Challenge.rw_springrows_k04_error_classes) (q:=view (OpenLaw.row PySem.Challenge.rw_springrows_k04_error_classes).prog [19]) (H:=Ev.hookT Ev.Tk Ev.adr 80) (ob:=Ev.obT Ev.Tk Ev.adr 80) (M:=12000) (loose:=Ev.loose) (d:=HandSHeadRun.topDef (OpenLaw.row PySem.Challenge.rw_springrows_k04_error_classes).prog 19) (kwd:=[]) (Ev.obT_eq _ _ _)
  (by kernel_rfl) (fun s=>by kernel_rfl) Ev.hd_run (by kernel_rfl) (by kernel_rfl) (by kernel_rfl) (by rfl) (by first | assumption | decide +kernel) (by decide +kernel) ⟨rfl,rfl,rfl,rfl,rfl,by decide +kernel⟩ ?hw ?hc
 case hw=>w_witness2
 case hc=>exact Ev.walk_ev (most:=63) (n:=Ev.lawL) (fi:=16) (i:=Ev.f16) (x:= "_law_script") rfl (by decide) (by kernel_rfl) rfl (by kernel_rfl) (by kernel_rfl) rfl rfl rfl (by kernel_rfl) rfl rfl rfl ⟨by decide,by decide⟩ Ev.law_true
#print axioms PySem.Challenge.cw_springrows_k04_error_classes_holds

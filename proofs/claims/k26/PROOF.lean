import PyProof.Rows.All
import Wide.All
import OpenK.AllK
import Wide.FinOn
import HandS.Base
import HandS.Call
import HandS.List
import HandS.Comp
import HandS.Wide
import HandS.Text
import KE.SortData
import HandS.Exc
import HandS.ExcOwn
import HandS.WordsExc
import HandS.Flow
import HandS.CallSlots
import HandS.ExcIs
import HandS.Defaults
import HandS.TupAny
import HandS.TupMul
import HandS.IsInst
import HandS.FStr
import KE.KFmtOwn
import HandS.Iter
import HandS.Zip
import HandS.OwnEq
import HandS.Deep
import KE.DataCmp
import KE.KDictPairs
import HandS.Dict
import HandS.Conv
import HandS.TryMany
import HandS.Codes
import KE.KStateDown
import HandS.Ends
import HandS.More
import HandS.Words
import HandS.Head0
import HandS.Head1
import HandS.Head2
import HandS.HeadEnd
import HandS.HeadHook1
import HandS.HeadHook2
import HandS.SetFor
import HandS.Strs
import KE.SortKeyHeap
import HandS.SortKw
import Lean
import PySem.Challenge.RW_nogroupleaves_k26_best_splits
section
set_option Elab.async false
set_option linter.all false
set_option maxRecDepth 100000
set_option maxHeartbeats 4000000
/-! Pm1: the pure machine: data, the inner language, its evaluator. -/
namespace Pm
open PySem

/-! ### data -/
inductive D where
  | non | bl (b : Bool) | int (i : Int) | str (x : Str)
  | tup (xs : List D) | lst (xs : List D) | obj (c : Nat) (xs : List D)
  | ref (k : Nat) | bor (xs : List D) | scr (xs : List D)
instance : Inhabited D := ⟨.non⟩
inductive Cell where
  | lst (xs : List D) | ins (c : Nat) (fs : List (Nat × D)) | dct (t : Bool) (kvs : List (D × D))
/-- a slot of a frame: nothing known, a value, a list that this slot alone holds -/
inductive S where
  | emp | val (d : D) | own (xs : List D)
abbrev Mu := List Cell
inductive R (α : Type) where
  | ok (a : α) (m : Mu) | exc (c : Nat) (p : D) (m : Mu) | bad
def R.bind {α β : Type} (r : R α) (f : α → Mu → R β) : R β := match r with
  | .ok a m => f a m
  | .exc c p m => .exc c p m
  | .bad => .bad
@[simp] theorem R.bind_ok {α β : Type} (a : α) (m : Mu) (f : α → Mu → R β) : (R.ok a m).bind f = f a m := rfl
@[simp] theorem R.bind_exc {α β : Type} (c : Nat) (p : D) (m : Mu) (f : α → Mu → R β) : (R.exc c p m : R α).bind f = .exc c p m := rfl
@[simp] theorem R.bind_bad {α β : Type} (f : α → Mu → R β) : (R.bad : R α).bind f = .bad := rfl
/-- how a statement ends -/
inductive RS where
  | nx (s : List S) (m : Mu) | rt (d : D) (m : Mu) | bk (s : List S) (m : Mu) | ct (s : List S) (m : Mu)
  | exc (c : Nat) (p : D) (s : List S) (m : Mu) | bad
def RS.seq (r : RS) (f : List S → Mu → RS) : RS := match r with
  | .nx s m => f s m
  | r => r
@[simp] theorem RS.seq_nx (s : List S) (m : Mu) (f : List S → Mu → RS) : (RS.nx s m).seq f = f s m := rfl
@[simp] theorem RS.seq_rt (d : D) (m : Mu) (f : List S → Mu → RS) : (RS.rt d m).seq f = .rt d m := rfl
@[simp] theorem RS.seq_bk (s : List S) (m : Mu) (f : List S → Mu → RS) : (RS.bk s m).seq f = .bk s m := rfl
@[simp] theorem RS.seq_ct (s : List S) (m : Mu) (f : List S → Mu → RS) : (RS.ct s m).seq f = .ct s m := rfl
@[simp] theorem RS.seq_exc (c : Nat) (p : D) (s : List S) (m : Mu) (f : List S → Mu → RS) : (RS.exc c p s m).seq f = .exc c p s m := rfl
@[simp] theorem RS.seq_bad (f : List S → Mu → RS) : RS.bad.seq f = .bad := rfl
/-- from an expression's end to a statement's -/
def R.toS {α : Type} (r : R α) (s : List S) (f : α → Mu → RS) : RS := match r with
  | .ok a m => f a m
  | .exc c p m => .exc c p s m
  | .bad => .bad
@[simp] theorem R.toS_ok {α : Type} (a : α) (m : Mu) (s : List S) (f : α → Mu → RS) : (R.ok a m).toS s f = f a m := rfl
@[simp] theorem R.toS_exc {α : Type} (c : Nat) (p : D) (m : Mu) (s : List S) (f : α → Mu → RS) : (R.exc c p m : R α).toS s f = .exc c p s m := rfl
@[simp] theorem R.toS_bad {α : Type} (s : List S) (f : α → Mu → RS) : (R.bad : R α).toS s f = .bad := rfl

/-! ### operations on data -/
def D.isBor : D → Bool
  | .bor _ => true
  | _ => false
/-- a list as it may be read -/
def lstOf (m : Mu) : D → Option (List D)
  | .lst xs => some xs
  | .bor xs => some xs
  | .scr xs => some xs
  | .ref k => (match m[k]? with
    | some (.lst xs) => some xs
    | _ => none)
  | _ => none
/-- a list that may be added to another -/
def lstT (m : Mu) : D → Option (List D)
  | .scr _ => none
  | d => lstOf m d
/-- a list or a tuple -/
def seqOf (m : Mu) : D → Option (List D)
  | .tup xs => some xs
  | d => lstOf m d
def truth (m : Mu) : D → Option Bool
  | .non => some false
  | .bl b => some b
  | .int i => some (i != 0)
  | .str x => if x.length ≤ sizeLine then some (x.length != 0) else none
  | d => (seqOf m d).map fun xs => !xs.isEmpty
/-- a bound of lists' lengths that the machine bears -/
abbrev lim : Nat := 100000
inductive Bop where
  | add | sub | mul | fdv | mod | pow
  deriving DecidableEq
inductive Cop where
  | eq | ne | lt | le | gt | ge | isin | nin | is_ | isn
  deriving DecidableEq
inductive Bif where
  | len | abs | int | str | tuple | all | any | min2 | max2
  deriving DecidableEq
inductive Ty where
  | tint | tbool | tstr | ttup | tlst | cls (c : Nat)
  deriving DecidableEq
inductive Tg where
  | nam (i : Nat) | tup (ts : List Tg)

/-! ### the language of except suites -/
mutual
inductive HE where
  | var (i : Nat) | con (d : D) | xis (ts : List Nat) | bol (k : Bool) (as : HEs) | not_ (a : HE)
inductive HEs where
  | nil | cons (a : HE) (r : HEs)
end
mutual
inductive HS where
  | asg (i : Nat) (e : HE) | ret (e : HE) | ite (t : HE) (a b : HSs) | cnt
inductive HSs where
  | nil | cons (a : HS) (r : HSs)
end
/-! ### the inner language -/
mutual
inductive IE where
  | var (i : Nat) | con (d : D) | glb (g : Nat)
  | bop (o : Bop) (a b : IE) | neg (a : IE)
  | cmp (o : Cop) (a b : IE) | chn (o p : Cop) (a b c : IE)
  | bol (k : Bool) (as : IEs) | not_ (a : IE) | ite (t a b : IE)
  | att (a : IE) (f : Nat) | sub (a i : IE) | slc (a lo hi : IE)
  | tup (as : IEs)
  | call (f : Nat) (as ks : IEs) (ds : List D) | meth (a : IE) (m : Nat) (as : IEs) | new (c : Nat) (as ks : IEs) (ds : List D)
  | bif (b : Bif) (as : IEs) | isi (a : IE) (ts : List Ty) | fst (as : IEs)
  | frz (f : FE) | cel (f : FE) | nev | tpr (a : IE)
  | dpr (a : IE) | dlt (kvs : List (Str × Int)) | dge (a i : IE) | din (n : Bool) (x a : IE)
inductive IEs where
  | nil | cons (a : IE) (r : IEs)
inductive FE where
  | lst (as : IEs) | lc (own : List Nat) (tg : Tg) (it : It) (cs : IEs) (e : IE)
  | lis (a : IE) | srt (a : IE) | cut (a lo hi : IE) | cat (a b : IE) | cal (f : Nat) (as ks : IEs) (ds : List D) | lrg (a : IE) | rep (a n : IE)
  | lc2 (own : List Nat) (tg : Tg) (it : It) (ow1 : List Nat) (tg1 : Tg) (it1 : It) (e : IE)
  | sst (a : IE) | slf (f : Nat) (a : IE)
inductive It where
  | exp (a : IE) | rng (a : IE) | rng2 (a b : IE) | zip (a b : IE) | enu (a : IE)
end
mutual
inductive IS where
  | asg (i : Nat) (e : IE) | aso (i : Nat) (f : FE) | par (i j : Nat) (a b : IE) | unp (tg : Tg) (e : IE)
  | sta (a : IE) (f : Nat) (e : IE) | sto (i : Nat) (x e : IE) | sts (a x e : IE)
  | aug (i : Nat) (o : Bop) (e : IE) | app (i : Nat) (e : IE) | apc (a e : IE) | exd (i : Nat) (e : IE)
  | exp (e : IE) | ret (e : IE) | rtn | rtf (f : FE) | rse (c : Nat) (as : IEs)
  | ite (t : IE) (a b : ISs) | whl (t : IE) (b : ISs) | for_ (tg : Tg) (it : It) (b : ISs)
  | brk | cnt | pas | frz (i : Nat) | nev | rto (i : Nat)
  | aus (a x : IE) (o : Bop) (e : IE) | pop (i j : Nat) (e : IE) | apo (i j : Nat) (e : IE)
  | try_ (b : ISs) (i t : Nat) (h : HSs) | pst (i : Nat) (x y e : IE)
inductive ISs where
  | nil | cons (a : IS) (r : ISs)
end
end Pm
end
section
set_option Elab.async false
set_option linter.all false
set_option maxRecDepth 100000
set_option maxHeartbeats 4000000
/-! Pm2: the evaluator. -/
noncomputable section
namespace Pm
open PySem
structure Tab where
  opm : Nat → Bop → Option Nat
  stm : Nat → Option Nat
  eqm : Nat → Option Nat
  mth : Nat → Nat → Option Nat
  fld : Nat → List Nat
  ini : Nat → Option Nat
  frz : Nat → Bool
  glb : Nat → D
  xsb : Nat → Nat → Option Bool
abbrev CF := Nat → List D → Mu → R D

def eqd (x y : D) : Bool := @decide (x = y) (Classical.propDecidable _)
theorem eqd_iff {x y : D} : eqd x y = true ↔ x = y := by simp [eqd]
theorem eqd_self (x : D) : eqd x x = true := eqd_iff.mpr rfl
theorem eqd_dec (x y : D) [Decidable (x = y)] : eqd x y = decide (x = y) := by
  unfold eqd
  by_cases h : x = y <;> simp [h]
mutual
/-- no bool, no reference, no borrowed list within -/
def pln : D → Bool
  | .non => true
  | .bl _ => false
  | .int _ => true
  | .str _ => true
  | .tup xs => plns xs
  | .lst xs => plns xs
  | .obj _ xs => plns xs
  | .ref _ => false
  | .bor _ => false
  | .scr _ => false
def plns : List D → Bool
  | [] => true
  | x :: xs => pln x && plns xs
end
/-- a list read through -/
def vw (m : Mu) (d : D) : D := match lstOf m d with
  | some xs => .lst xs
  | none => d
/-! dicts: keys are ints and texts, or tuples (not empty) of them -/
def keyS : D → Bool
  | .int _ => true
  | .str _ => true
  | _ => false
def keyT : D → Bool
  | .tup (x :: xs) => (x :: xs).all keyS
  | _ => false
def keyOk : Bool → D → Bool
  | true, y => keyT y
  | false, y => keyS y
def pairsOf : List D → Option (List (D × D))
  | [] => some []
  | .tup [k, v] :: r => if keyT k = true then (pairsOf r).map ((k, v) :: ·) else none
  | _ :: _ => none
def kfind (kvs : List (D × D)) (k : D) : Option D := (kvs.find? fun p => eqd p.1 k).map (·.2)
def kput (kvs : List (D × D)) (k v : D) : List (D × D) := if (kvs.any fun p => eqd p.1 k) = true then kvs.map fun p => if eqd p.1 k = true then (p.1, v) else p else kvs ++ [(k, v)]
def dctOf (m : Mu) : D → Option (Bool × List (D × D))
  | .ref k => (match m[k]? with
    | some (.dct t kvs) => some (t, kvs)
    | _ => none)
  | _ => none
def intsOf : List D → Option (List Int)
  | [] => some []
  | .int i :: r => (intsOf r).map (i :: ·)
  | _ :: _ => none
/-- a sorted list without doubles -/
def insI (k : Int) : List Int → List Int
  | [] => [k]
  | n :: ns => if k < n then k :: n :: ns else if k = n then n :: ns else n :: insI k ns
def sstI (ns : List Int) : List Int := ns.foldr insI []
def isBl : D → Bool
  | .bl _ => true
  | _ => false
def bopD (T : Tab) (C : CF) (o : Bop) (x y : D) (m : Mu) : R D := match x, y with
  | .int i, .int j => (match o with
    | .add => .ok (.int (i + j)) m
    | .sub => .ok (.int (i - j)) m
    | .mul => if i.natAbs.log2 + j.natAbs.log2 < 1000000 then .ok (.int (i * j)) m else .bad
    | .fdv => if 0 < j ∧ j.natAbs.log2 < 9000 then .ok (.int (i / j)) m else .bad
    | .mod => if 0 < j then .ok (.int (i % j)) m else .bad
    | .pow => if 0 ≤ j ∧ j ≤ 1000000 ∧ i.natAbs < 2 ^ 64 then .ok (.int (i ^ j.toNat)) m else .bad)
  | .str a, .str b => if o = .add ∧ a.length + b.length ≤ sizeLine then .ok (.str (a ++ b)) m else .bad
  | .tup a, .tup b => if o = .add ∧ a.length + b.length ≤ lim then .ok (.tup (a ++ b)) m else .bad
  | .obj c xs, .obj c' ys => if c = c' then (match T.opm c o with
    | some f => C f [.obj c xs, .obj c ys] m
    | none => .bad) else .bad
  | .tup xs, .int j => if o = .mul ∧ 0 ≤ j ∧ j ≤ 1000 ∧ xs.length ≤ 1000 then .ok (.tup (List.replicate j.toNat xs).flatten) m else .bad
  | x, .int j => (match o, lstT m x with
    | .mul, some xs => if 0 ≤ j ∧ j ≤ lim ∧ xs.length * j.toNat ≤ lim then .ok (.lst (List.replicate j.toNat xs).flatten) m else .bad
    | _, _ => .bad)
  | x, y => (match o, lstT m x, lstT m y with
    | .add, some xs, some ys => if xs.length + ys.length ≤ lim then .ok (.lst (xs ++ ys)) m else .bad
    | _, _, _ => .bad)
def gtD (x y : D) : Option Bool := match x, y with
  | .int i, .int j => some (decide (j < i))
  | _, _ => none
def leD (x y : D) : Option Bool := match x, y with
  | .int i, .int j => some (decide (i ≤ j))
  | _, _ => none
/-! equality: what the machine says where it says anything -/
def sca : D → Bool
  | .non => true
  | .int _ => true
  | .str _ => true
  | _ => false
mutual
/-- scalars, tuples and lists of such; no bool -/
def flt : D → Bool
  | .non => true
  | .int _ => true
  | .str x => PySem.PyData.strOk x
  | .tup xs => flts xs
  | .lst xs => flts xs
  | _ => false
def flts : List D → Bool
  | [] => true
  | x :: xs => flt x && flts xs
end
mutual
def dep : D → Nat
  | .tup xs => 1 + deps xs
  | .lst xs => 1 + deps xs
  | _ => 0
def deps : List D → Nat
  | [] => 0
  | x :: xs => max (dep x) (deps xs)
end
def flp (d : D) : Bool := flt d && decide (dep d ≤ 60)
mutual
def pd : D → PyData
  | .int i => .int i
  | .str x => .str x
  | .tup xs => .tuple (pds xs)
  | .lst xs => .list (pds xs)
  | _ => .none
def pds : List D → List PyData
  | [] => []
  | x :: xs => pd x :: pds xs
end
def ltD (x y : D) : Option Bool := match x, y with
  | .int i, .int j => some (decide (i < j))
  | .tup xs, .tup ys => (match intsOf xs, intsOf ys with
    | some a, some b => some (HT.lexLt a b)
    | _, _ => if (flp (.tup xs) && flp (.tup ys) && PySem.W.alike (pd (.tup xs)) (pd (.tup ys))) = true then some (PySem.W.dataLt (pd (.tup xs)) (pd (.tup ys))) else none)
  | _, _ => none
mutual
/-- every instance's class has its own ==; no bool, no reference -/
def plk (T : Tab) : D → Bool
  | .non => true
  | .int _ => true
  | .str _ => true
  | .tup xs => plks T xs
  | .lst xs => plks T xs
  | .obj c xs => (T.eqm c).isSome && plks T xs
  | _ => false
def plks (T : Tab) : List D → Bool
  | [] => true
  | x :: xs => plk T x && plks T xs
end
mutual
/-- == may be asked, and is equality of data -/
def eqc (T : Tab) (C : CF) (m : Mu) : D → D → Prop
  | .obj c xs, .obj c' ys => c = c' ∧ plks T xs = true ∧ plks T ys = true ∧ ∃ f, T.eqm c = some f ∧ C f [.obj c xs, .obj c ys] m = .ok (.bl (eqd (.obj c xs) (.obj c ys))) m
  | .tup xs, .tup ys => eqcs T C m xs ys
  | .lst xs, .lst ys => xs.length = ys.length → eqcs T C m xs ys
  | x, y => flt x = true ∧ flt y = true ∧ (sca x || sca y) = true
def eqcs (T : Tab) (C : CF) (m : Mu) : List D → List D → Prop
  | x :: xs, y :: ys => eqc T C m x y ∧ (x = y → eqcs T C m xs ys)
  | _, _ => True
end
open Classical in
def eqD (T : Tab) (C : CF) (m : Mu) (x y : D) : Option Bool :=
  if ((isBl x && isBl y) || (sca x && sca y)) = true then some (eqd x y)
  else if (flp (vw m x) && flp (vw m y)) = true then some (eqd (vw m x) (vw m y))
  else if dep (vw m x) ≤ 5 ∧ eqc T C m (vw m x) (vw m y) then some (eqd (vw m x) (vw m y)) else none
def neD (m : Mu) (x y : D) : Option Bool :=
  if ((isBl x && isBl y) || (sca x && sca y)) = true then some (!eqd x y)
  else if (flp (vw m x) && flp (vw m y)) = true then some (!eqd (vw m x) (vw m y)) else none
open Classical in
/-- != of instances whose class has an == of its own -/
def neO (T : Tab) (C : CF) (m : Mu) (x y : D) : Option Bool := match x, y with
  | .obj c xs, .obj c' ys => if eqc T C m (.obj c xs) (.obj c' ys) then some (!eqd (.obj c xs) (.obj c' ys)) else none
  | _, _ => none
def neT (a b : Option Bool) : Option Bool := match a with
  | some k => some k
  | none => b
@[simp] theorem neT_some (k : Bool) (b : Option Bool) : neT (some k) b = some k := rfl
def inD (m : Mu) (x y : D) : Option Bool := match y with
  | .str b => (match x with
    | .str a => some (!(Builtin.Str.occurrences b a 0 b.length 1).isEmpty)
    | _ => none)
  | .tup ys => if (sca x && ys.all sca) = true then some (ys.any fun z => eqd z x) else if (isBl x && ys.all isBl) = true then some (ys.any fun z => eqd z x) else none
  | y => (match lstOf m y with
    | some ys => if (sca x && ys.all sca) = true then some (ys.any fun z => eqd z x) else if (flp x && flp (.lst ys)) = true then some (ys.any fun z => eqd z x) else if (isBl x && ys.all isBl) = true then some (ys.any fun z => eqd z x) else none
    | none => none)
def isNon : D → Bool
  | .non => true
  | _ => false
def cmpD (T : Tab) (C : CF) (o : Cop) (x y : D) (m : Mu) : Option Bool := match o with
  | .eq => eqD T C m x y
  | .ne => neT (neD m x y) (neO T C m x y)
  | .lt => ltD x y
  | .gt => gtD x y
  | .le => leD x y
  | .ge => leD y x
  | .isin => inD m x y
  | .nin => (inD m x y).map (!·)
  | .is_ => if isNon y then some (isNon x) else none
  | .isn => if isNon y then some (!isNon x) else none
def R.ofB (b : Option Bool) (m : Mu) : R D := match b with
  | some b => .ok (.bl b) m
  | none => .bad
def R.noex {α : Type} : R α → R α
  | .exc _ _ _ => .bad
  | r => r
@[simp] theorem R.noex_ok {α : Type} (a : α) (m : Mu) : (R.ok a m).noex = R.ok a m := rfl
@[simp] theorem R.noex_bad {α : Type} : (R.bad : R α).noex = R.bad := rfl
@[simp] theorem R.noex_exc {α : Type} (c : Nat) (p : D) (m : Mu) : (R.exc c p m : R α).noex = R.bad := rfl
def fldGet (fs : List Nat) (xs : List D) (f : Nat) : Option D := match fs, xs with
  | g :: gs, y :: ys => if g = f then some y else fldGet gs ys f
  | _, _ => none
def attD (T : Tab) (x : D) (f : Nat) (m : Mu) : Option D := match x with
  | .obj c xs => fldGet (T.fld c) xs f
  | .ref k => (match m[k]? with
    | some (.ins _ fs) => fs.lookup f
    | _ => none)
  | _ => none
def subD (x i : D) (m : Mu) : Option D := match i with
  | .int i => (match x with
    | .str w => if w.length ≤ lim then (L2.atI w.cps.toList i).map fun c => .str ⟨#[c]⟩ else none
    | x => (seqOf m x).bind fun xs => L2.atI xs i)
  | _ => none
def partOf : D → Option (Option Int)
  | .non => some none
  | .int i => some (some i)
  | _ => none
def cutD (xs : List D) (lo hi : Option Int) : List D := (xs.drop (HT.sIx xs.length 0 lo)).take (HT.sIx xs.length xs.length hi - HT.sIx xs.length 0 lo)
def slcD (x : D) (a b : Option Int) (m : Mu) : Option D := match x with
  | .tup xs => some (.tup (cutD xs a b))
  | .str z => if z.length ≤ lim then some (.str (L2.cutS z a b)) else none
  | x => (lstT m x).map fun xs => .lst (cutD xs a b)
def R.ofO {α : Type} (b : Option α) (m : Mu) : R α := match b with
  | some b => .ok b m
  | none => .bad
def clsOf (x : D) (m : Mu) : Option Nat := match x with
  | .obj c _ => some c
  | .ref k => (match m[k]? with
    | some (.ins c _) => some c
    | _ => none)
  | _ => none
def strD (T : Tab) (C : CF) (x : D) (m : Mu) : R D := match x with
  | .int i => if i.natAbs.log2 < 1920 then .ok (.str (toString i)) m else .bad
  | .obj c xs => (match T.stm c with
    | some f => (C f [.obj c xs] m).noex.bind fun d m1 => (match d with
      | .str z => .ok (.str z) m1
      | _ => .bad)
    | none => .bad)
  | _ => .bad
def blsOf : List D → Option (List Bool)
  | [] => some []
  | .bl i :: r => (blsOf r).map (i :: ·)
  | _ :: _ => none
def bifD (T : Tab) (C : CF) (b : Bif) (xs : List D) (m : Mu) : R D := match b, xs with
  | .len, [.str z] => if z.length ≤ sizeLine then .ok (.int z.length) m else .bad
  | .len, [x] => (match seqOf m x with
    | some ys => .ok (.int ys.length) m
    | none => .bad)
  | .abs, [.int i] => .ok (.int (if i < 0 then -i else i)) m
  | .int, [.int i] => .ok (.int i) m
  | .int, [.bl k] => .ok (.int (if k then 1 else 0)) m
  | .str, [x] => strD T C x m
  | .tuple, [.tup ys] => .ok (.tup ys) m
  | .tuple, [x] => (match lstOf m x with
    | some ys => .ok (.tup ys) m
    | none => .bad)
  | .all, [x] => (match (lstOf m x).bind blsOf with
    | some ys => .ok (.bl (ys.all id)) m
    | none => .bad)
  | .any, [x] => (match (lstOf m x).bind blsOf with
    | some ys => .ok (.bl (ys.any id)) m
    | none => .bad)
  | .min2, [x] => (match (lstOf m x).bind intsOf with
    | some (i :: is) => .ok (.int (is.foldl min i)) m
    | _ => .bad)
  | .min2, [.int i, .int j] => .ok (.int (if j < i then j else i)) m
  | .max2, [.int i, .int j] => .ok (.int (if j > i then j else i)) m
  | _, _ => .bad
def tyIs (m : Mu) (x : D) : Ty → Bool
  | .tint => (match x with | .int _ => true | .bl _ => true | _ => false)
  | .tbool => (match x with | .bl _ => true | _ => false)
  | .tstr => (match x with | .str _ => true | _ => false)
  | .ttup => (match x with | .tup _ => true | _ => false)
  | .tlst => (lstOf m x).isSome
  | .cls c => decide (clsOf x m = some c)
def isiD (m : Mu) (x : D) (ts : List Ty) : Bool := ts.any fun t => tyIs m x t
def okTy (T : Tab) : Ty → Bool
  | .cls c => (T.ini c).isSome
  | _ => true
def okVx (T : Tab) (x : D) (m : Mu) : Bool := match clsOf x m with
  | some c => (T.ini c).isSome
  | none => (dctOf m x).isNone
/-- a new instance: made as a cell, its __init__ run, then frozen (if its class is so) -/
def newD (T : Tab) (C : CF) (c : Nat) (xs : List D) (m : Mu) : R D := match T.ini c with
  | none => .bad
  | some f => (match C f (.ref m.length :: xs) (m ++ [.ins c []]) with
    | .ok d m' => (match d with
      | .non => if T.frz c then (match m'.getLast? with
          | some (.ins c' fs) => (open Classical in if m'.dropLast = m ∧ c' = c ∧ fs.map (·.1) = T.fld c ∧ plns (fs.map (·.2)) = true then .ok (.obj c (fs.map (·.2))) m else .bad)
          | _ => .bad) else .ok (.ref m.length) m'
      | _ => .bad)
    | .exc e p m' => (open Classical in if m'.take m.length = m ∧ pln p = true then .exc e p m else .bad)
    | .bad => .bad)
/-- some items -/
def rngD (lo : Int) (n : Nat) : List D := (List.range n).map fun i => .int (lo + (i : Nat))
def zipD : List D → List D → List D
  | x :: xs, y :: ys => .tup [x, y] :: zipD xs ys
  | _, _ => []
def enuD : Nat → List D → List D
  | _, [] => []
  | n, x :: xs => .tup [.int n, x] :: enuD (n + 1) xs
mutual
def setT : Tg → D → List S → Option (List S)
  | .nam i, d, s => if d.isBor ∨ s.length ≤ i then none else some (s.set i (.val d))
  | .tup ts, .tup xs, s => setTs ts xs s
  | .tup _, _, _ => none
def setTs : List Tg → List D → List S → Option (List S)
  | [], [], s => some s
  | t :: ts, x :: xs, s => (setT t x s).bind fun s1 => setTs ts xs s1
  | _, _, _ => none
end
def wipeS (s : List S) : List Nat → List S
  | [] => s
  | v :: vs => (wipeS s vs).set v .emp
def S.isOwn : S → Bool
  | .own _ => true
  | _ => false
/-- none of these slots holds a list of its own -/
def freeS (s : List S) (vs : List Nat) : Bool := vs.all fun v => match s[v]? with
  | some (.own _) => false
  | some _ => true
  | none => false
/-- where the items stand: nowhere that changes, in a slot's own list, in a cell -/
inductive Kd where
  | fr | sl | ce (k : Nat) | en (k : Nat) (xs : List D)
def Kd.isSl : Kd → Bool
  | .sl => true
  | _ => false
/-- the items still stand there -/
def Kd.ok : Kd → List D → Mu → Prop
  | .ce k, xs, m => m[k]? = some (.lst xs)
  | .en k xs, _, m => m[k]? = some (.lst xs)
  | _, _, _ => True
open Classical in
def loopL (ck : Mu → Prop) (f : D → Mu → R (Option D)) : List D → Mu → R (List D)
  | [], m => if ck m then .ok [] m else .bad
  | x :: xs, m => if ck m then (f x m).bind fun y m1 => (loopL ck f xs m1).bind fun ys m2 => .ok (y.toList ++ ys) m2 else .bad
open Classical in
def loopA (ck : Mu → Prop) (f : D → Mu → R (List D)) : List D → Mu → R (List D)
  | [], m => if ck m then .ok [] m else .bad
  | x :: xs, m => if ck m then (f x m).bind fun ys m1 => (loopA ck f xs m1).bind fun zs m2 => .ok (ys ++ zs) m2 else .bad
/-- a tuple that has something -/
def neTup : D → Bool
  | .tup (_ :: _) => true
  | _ => false
def notTN : D → Bool
  | .tup _ => false
  | .non => false
  | _ => true
/-- a tuple of ints -/
def intTup : D → Bool
  | .tup xs => (intsOf xs).isSome
  | _ => false
/-- may be sorted: the first one an empty tuple, all tuples of ints; or data alike -/
def srtOk (xs : List D) : Bool := decide (xs.length ≤ lim) && ((match xs with | .tup [] :: _ => xs.all intTup | _ => false) || (xs.all flp && ((xs.all fun x => xs.all fun y => PySem.W.alike (pd x) (pd y)) && (xs.all neTup || xs.all notTN))))
/-- sorted by length first: the key of an item -/
def slfK (x : D) : D := .tup [.int (match x with | .tup ys => (ys.length : Int) | _ => 0), x]
mutual
/-- no lists, no truth values: what a key's item may hold -/
def noL : D → Bool
  | .int _ => true
  | .str _ => true
  | .tup xs => noLs xs
  | _ => false
def noLs : List D → Bool
  | [] => true
  | x :: xs => noL x && noLs xs
end
def isTupD : D → Bool
  | .tup ys => decide (ys.length ≤ lim) && noLs ys
  | _ => false
def slfOk (xs : List D) : Bool := decide (xs.length ≤ lim) && ((xs.all fun x => isTupD x && flp (slfK x)) && xs.all fun x => xs.all fun y => PySem.W.alike (pd (slfK x)) (pd (slfK y)))
def slfD (xs : List D) : List D := xs.mergeSort (PySem.W.dataLe false fun x => pd (slfK x))
def srtD (xs : List D) : List D := xs.mergeSort (PySem.W.dataLe false pd)

mutual
def ev (T : Tab) (C : CF) : IE → List S → Mu → R D
  | .var i, s, m => (match s[i]? with
    | some (.val d) => .ok d m
    | some (.own xs) => .ok (.bor xs) m
    | _ => .bad)
  | .con d, _, m => .ok d m
  | .glb g, _, m => .ok (T.glb g) m
  | .bop o a b, s, m => (ev T C a s m).bind fun x m1 => (ev T C b s m1).bind fun y m2 => bopD T C o x y m2
  | .neg a, s, m => (ev T C a s m).bind fun x m1 => (match x with
    | .int i => .ok (.int (-i)) m1
    | _ => .bad)
  | .cmp o a b, s, m => (ev T C a s m).bind fun x m1 => (ev T C b s m1).bind fun y m2 => R.ofB (cmpD T C o x y m2) m2
  | .chn o p a b c, s, m => (ev T C a s m).bind fun x m1 => (ev T C b s m1).bind fun y m2 => (match cmpD T C o x y m2 with
    | some true => (ev T C c s m2).bind fun z m3 => R.ofB (cmpD T C p y z m3) m3
    | some false => .ok (.bl false) m2
    | none => .bad)
  | .bol k as, s, m => evb T C k as s m
  | .not_ a, s, m => (ev T C a s m).bind fun x m1 => (match truth m1 x with
    | some k => .ok (.bl (!k)) m1
    | none => .bad)
  | .ite t a b, s, m => (ev T C t s m).bind fun x m1 => (match truth m1 x with
    | some true => ev T C a s m1
    | some false => ev T C b s m1
    | none => .bad)
  | .att a f, s, m => (ev T C a s m).bind fun x m1 => (match attD T x f m1 with
    | some d => .ok d m1
    | none => .bad)
  | .sub a i, s, m => (ev T C a s m).bind fun x m1 => (ev T C i s m1).bind fun y m2 => (match subD x y m2 with
    | some d => .ok d m2
    | none => .bad)
  | .slc a lo hi, s, m => (ev T C a s m).bind fun x m1 => (ev T C lo s m1).bind fun y m2 => (match partOf y with
    | none => .bad
    | some a => (ev T C hi s m2).bind fun z m3 => (match partOf z with
      | none => .bad
      | some b => R.ofO (slcD x a b m3) m3))
  | .tup as, s, m => (evs T C as s m).bind fun xs m1 => if (xs.all fun x => !x.isBor) = true ∧ xs.length ≤ lim then .ok (.tup xs) m1 else .bad
  | .call f as ks ds, s, m => (evs T C as s m).bind fun xs m1 => (evs T C ks s m1).bind fun ys m2 => if (xs.all fun x => !x.isBor) = true ∧ (ys.all fun x => !x.isBor) = true then C f (xs ++ ys ++ ds) m2 else .bad
  | .meth a n as, s, m => (ev T C a s m).bind fun x m1 => (match (clsOf x m1).bind fun c => T.mth c n with
    | some f => (evs T C as s m1).bind fun xs m2 => if (xs.all fun x => !x.isBor) = true then C f (x :: xs) m2 else .bad
    | none => .bad)
  | .new c as ks ds, s, m => (evs T C as s m).bind fun xs m1 => (evs T C ks s m1).bind fun ys m2 => if (xs.all fun x => !x.isBor) = true ∧ (ys.all fun x => !x.isBor) = true then newD T C c (xs ++ ys ++ ds) m2 else .bad
  | .bif b as, s, m => (evs T C as s m).bind fun xs m1 => bifD T C b xs m1
  | .isi a ts, s, m => (ev T C a s m).bind fun x m1 => if okVx T x m1 = true then .ok (.bl (isiD m1 x ts)) m1 else .bad
  | .fst as, s, m => evf T C as Str.empty s m
  | .frz f, s, m => (evF T C f s m).bind fun xs m1 => .ok (.lst xs) m1
  | .cel f, s, m => (evF T C f s m).bind fun xs m1 => .ok (.ref m1.length) (m1 ++ [.lst xs])
  | .nev, _, _ => .bad
  | .tpr a, s, m => (ev T C a s m).bind fun x m1 => (match x with
    | .int j => if -(2 ^ 62) ≤ j ∧ j < 2 ^ 62 ∧ j.toNat ≤ lim then .ok (.tup (rngD 0 j.toNat)) m1 else .bad
    | _ => .bad)
  | .dpr a, s, m => (ev T C a s m).bind fun x m1 => (match (lstOf m1 x).bind pairsOf with
    | some ps => .ok (.ref m1.length) (m1 ++ [.dct true (ps.foldl (fun acc p => kput acc p.1 p.2) [])])
    | none => .bad)
  | .dlt kvs, _, m => if kvs ≠ [] ∧ kvs.length ≤ 15 ∧ (kvs.map (·.1)).Nodup then .ok (.ref m.length) (m ++ [.dct false (kvs.map fun p => (.str p.1, .int p.2))]) else .bad
  | .dge a i, s, m => (ev T C a s m).bind fun x m1 => (ev T C i s m1).bind fun y m2 => (match dctOf m2 x with
    | some (t, kvs) => if keyOk t y = true then R.ofO (kfind kvs y) m2 else .bad
    | none => .bad)
  | .din n x a, s, m => (ev T C x s m).bind fun y m1 => (ev T C a s m1).bind fun x m2 => (match dctOf m2 x with
    | some (t, kvs) => if keyOk t y = true then .ok (.bl ((kfind kvs y).isSome != n)) m2 else .bad
    | none => .bad)
def evs (T : Tab) (C : CF) : IEs → List S → Mu → R (List D)
  | .nil, _, m => .ok [] m
  | .cons a r, s, m => (ev T C a s m).bind fun x m1 => (evs T C r s m1).bind fun xs m2 => .ok (x :: xs) m2
/-- a and b and .. (k), a or b or .. -/
def evb (T : Tab) (C : CF) (k : Bool) : IEs → List S → Mu → R D
  | .nil, _, _ => .bad
  | .cons a r, s, m => (match r with
    | .nil => ev T C a s m
    | .cons _ _ => (ev T C a s m).bind fun x m1 => (match truth m1 x with
      | some t => if t = k then evb T C k r s m1 else .ok x m1
      | none => .bad))
/-- an f-string's parts -/
def evf (T : Tab) (C : CF) : IEs → Str → List S → Mu → R D
  | .nil, acc, _, m => .ok (.str acc) m
  | .cons a r, acc, s, m => (ev T C a s m).bind fun x m1 => (match x with
    | .str y => if (acc ++ y).length ≤ sizeLine then evf T C r (acc ++ y) s m1 else .bad
    | x => (strD T C x m1).bind fun z m2 => (match z with
      | .str y => if (acc ++ y).length ≤ sizeLine then evf T C r (acc ++ y) s m2 else .bad
      | _ => .bad))
/-- tests of a comprehension, all of them -/
def evc (T : Tab) (C : CF) : IEs → List S → Mu → R Bool
  | .nil, _, m => .ok true m
  | .cons a r, s, m => (ev T C a s m).bind fun x m1 => (match truth m1 x with
    | some true => evc T C r s m1
    | some false => .ok false m1
    | none => .bad)
/-- a new list -/
def evF (T : Tab) (C : CF) : FE → List S → Mu → R (List D)
  | .lst as, s, m => (evs T C as s m).bind fun xs m1 => if (xs.all fun x => !x.isBor) = true ∧ xs.length ≤ lim then .ok xs m1 else .bad
  | .lc own tg it cs e, s, m => (evI T C it s m).bind fun xs m1 => if freeS s own = true ∧ xs.1.length ≤ lim then
      (loopL (xs.2.ok xs.1) (fun x m2 => match setT tg x (wipeS s own) with
        | none => .bad
        | some s1 => (evc T C cs s1 m2).bind fun b m3 => if b = true then (ev T C e s1 m3).bind fun y m4 => if y.isBor then .bad else .ok (some y) m4 else .ok none m3) xs.1 m1).noex
      else .bad
  | .lc2 own tg it ow1 tg1 it1 e, s, m => (evI T C it s m).bind fun xs m1 => if freeS s own = true ∧ xs.1.length ≤ 300 then
      (loopA (xs.2.ok xs.1) (fun x m2 => match setT tg x (wipeS s own) with
        | none => .bad
        | some s1 => (evI T C it1 s1 m2).bind fun ys m3 => if freeS s1 ow1 = true ∧ ys.1.length ≤ 300 then
            loopL (ys.2.ok ys.1) (fun y m4 => match setT tg1 y (wipeS s1 ow1) with
              | none => .bad
              | some s2 => (ev T C e s2 m4).bind fun z m5 => if z.isBor then .bad else .ok (some z) m5) ys.1 m3
          else .bad) xs.1 m1).noex
      else .bad
  | .lis a, s, m => (ev T C a s m).bind fun x m1 => (match seqOf m1 x with
    | some xs => .ok xs m1
    | none => .bad)
  | .srt a, s, m => (ev T C a s m).bind fun x m1 => (match lstOf m1 x with
    | some xs => if srtOk xs = true then .ok (srtD xs) m1 else .bad
    | none => .bad)
  | .cut a lo hi, s, m => (ev T C a s m).bind fun x m1 => (ev T C lo s m1).bind fun y m2 => (match partOf y with
    | none => .bad
    | some a => (ev T C hi s m2).bind fun z m3 => (match partOf z with
      | none => .bad
      | some b => R.ofO ((lstT m3 x).map fun xs => cutD xs a b) m3))
  | .cat a b, s, m => (ev T C a s m).bind fun x m1 => (ev T C b s m1).bind fun y m2 => (match lstT m2 x, lstT m2 y with
    | some xs, some ys => if xs.length + ys.length ≤ lim then .ok (xs ++ ys) m2 else .bad
    | _, _ => .bad)
  | .cal f as ks ds, s, m => (evs T C as s m).bind fun xs m1 => (evs T C ks s m1).bind fun ys m2 => if (xs.all fun x => !x.isBor) = true ∧ (ys.all fun x => !x.isBor) = true then (C f (xs ++ ys ++ ds) m2).bind fun d m3 => (match d with
      | .lst zs => .ok zs m3
      | _ => .bad) else .bad
  | .lrg a, s, m => (ev T C a s m).bind fun x m1 => (match x with
    | .int j => if -(2 ^ 62) ≤ j ∧ j < 2 ^ 62 ∧ j.toNat ≤ lim then .ok (rngD 0 j.toNat) m1 else .bad
    | _ => .bad)
  | .sst a, s, m => (ev T C a s m).bind fun x m1 => (match (lstOf m1 x).bind intsOf with
    | some ns => if ns.length < 60 then .ok ((sstI ns).map .int) m1 else .bad
    | none => .bad)
  | .slf _ a, s, m => (ev T C a s m).bind fun x m1 => (match lstOf m1 x with
    | some xs => if slfOk xs = true then .ok (slfD xs) m1 else .bad
    | none => .bad)
  | .rep a n, s, m => (ev T C a s m).bind fun x m1 => (ev T C n s m1).bind fun y m2 => (match lstT m2 x, y with
    | some xs, .int j => if 0 ≤ j ∧ j ≤ lim ∧ xs.length * j.toNat ≤ lim then .ok (List.replicate j.toNat xs).flatten m2 else .bad
    | _, _ => .bad)
/-- what a loop walks (true: a list that a slot owns) -/
def evI (T : Tab) (C : CF) : It → List S → Mu → R (List D × Kd)
  | .exp a, s, m => (ev T C a s m).bind fun x m1 => (match x with
    | .lst xs => .ok (xs, .fr) m1
    | .tup xs => .ok (xs, .fr) m1
    | .bor xs => .ok (xs, .sl) m1
    | .scr xs => .ok (xs, .fr) m1
    | .ref k => (match m1[k]? with
      | some (.lst xs) => .ok (xs, .ce k) m1
      | _ => .bad)
    | _ => .bad)
  | .rng a, s, m => (ev T C a s m).bind fun x m1 => (match x with
    | .int j => if -(2 ^ 62) ≤ j ∧ j < 2 ^ 62 then .ok (rngD 0 j.toNat, .fr) m1 else .bad
    | _ => .bad)
  | .rng2 a b, s, m => (ev T C a s m).bind fun x m1 => (ev T C b s m1).bind fun y m2 => (match x, y with
    | .int i, .int j => if -(2 ^ 62) ≤ i ∧ i < 2 ^ 62 ∧ -(2 ^ 62) ≤ j ∧ j < 2 ^ 62 then .ok (rngD i (j - i).toNat, .fr) m2 else .bad
    | _, _ => .bad)
  | .zip a b, s, m => (ev T C a s m).bind fun x m1 => (ev T C b s m1).bind fun y m2 => (match x, y with
    | .lst xs, .lst ys => .ok (zipD xs ys, .fr) m2
    | .tup xs, .tup ys => .ok (zipD xs ys, .fr) m2
    | _, _ => .bad)
  | .enu a, s, m => (ev T C a s m).bind fun x m1 => (match x with
    | .lst xs => .ok (enuD 0 xs, .fr) m1
    | .ref k => (match m1[k]? with
      | some (.lst xs) => .ok (enuD 0 xs, .en k xs) m1
      | _ => .bad)
    | _ => .bad)
end

/-! ### statements -/
open Classical in
def loopS (ck : Mu → Prop) (f : D → List S → Mu → RS) : List D → List S → Mu → RS
  | [], s, m => if ck m then .nx s m else .bad
  | x :: xs, s, m => if ck m then (match f x s m with
    | .nx s1 m1 => loopS ck f xs s1 m1
    | .ct s1 m1 => loopS ck f xs s1 m1
    | .bk s1 m1 => .nx s1 m1
    | r => r) else .bad
def loopW (t : List S → Mu → R Bool) (f : List S → Mu → RS) : Nat → List S → Mu → RS
  | 0, _, _ => .bad
  | n + 1, s, m => (t s m).toS s fun b m1 => if b = true then (match f s m1 with
      | .nx s1 m2 => loopW t f n s1 m2
      | .ct s1 m2 => loopW t f n s1 m2
      | .bk s1 m2 => .nx s1 m2
      | r => r) else .nx s m1
def fldPut (f : Nat) (d : D) : List (Nat × D) → List (Nat × D)
  | [] => [(f, d)]
  | (g, e) :: r => if g = f then (f, d) :: r else (g, e) :: fldPut f d r
/-- a test's truth -/
def tru (T : Tab) (C : CF) (t : IE) (s : List S) (m : Mu) : R Bool := (ev T C t s m).bind fun x m1 => (match truth m1 x with
  | some k => .ok k m1
  | none => .bad)
def setV (s : List S) (i : Nat) (d : D) : Option (List S) := if d.isBor ∨ s.length ≤ i then none else some (s.set i (.val d))
/-! ### except suites: exceptions of class x, slot i is the exception's -/
def xisD (T : Tab) (x : Nat) : List Nat → Option Bool
  | [] => some false
  | t :: ts => (T.xsb x t).bind fun b => (xisD T x ts).map (b || ·)
mutual
def evH (T : Tab) (x : Nat) : HE → List S → Mu → Option D
  | .var i, s, _ => (match s[i]? with
    | some (.val d) => some d
    | _ => none)
  | .con d, _, _ => some d
  | .xis ts, _, _ => (xisD T x ts).map .bl
  | .bol k as, s, m => evHb T x k as s m
  | .not_ a, s, m => (evH T x a s m).bind fun d => (truth m d).map fun b => .bl (!b)
def evHb (T : Tab) (x : Nat) (k : Bool) : HEs → List S → Mu → Option D
  | .nil, _, _ => none
  | .cons a r, s, m => (match r with
    | .nil => evH T x a s m
    | .cons _ _ => (evH T x a s m).bind fun d => (truth m d).bind fun t => if t = k then evHb T x k r s m else some d)
end
mutual
def exH (T : Tab) (x i : Nat) : HS → List S → Mu → RS
  | .asg j e, s, m => (match evH T x e s m with
    | some d => if j = i then .bad else (match setV s j d with
      | some s1 => .nx s1 m
      | none => .bad)
    | none => .bad)
  | .ret e, s, m => (match evH T x e s m with
    | some d => .rt d m
    | none => .bad)
  | .ite t a b, s, m => (match (evH T x t s m).bind (truth m) with
    | some k => if k = true then exHs T x i a s m else exHs T x i b s m
    | none => .bad)
  | .cnt, s, m => .ct s m
def exHs (T : Tab) (x i : Nat) : HSs → List S → Mu → RS
  | .nil, s, m => .nx s m
  | .cons a r, s, m => (exH T x i a s m).seq fun s1 m1 => exHs T x i r s1 m1
end
/-- the name of the exception goes -/
def goneS (i : Nat) : RS → RS
  | .nx s m => .nx (s.set i .emp) m
  | .bk s m => .bk (s.set i .emp) m
  | .ct s m => .ct (s.set i .emp) m
  | .rt d m => .rt d m
  | _ => .bad
mutual
def ex (T : Tab) (C : CF) (fu : Nat) : IS → List S → Mu → RS
  | .asg i e, s, m => (ev T C e s m).toS s fun d m1 => (match setV s i d with
    | some s1 => .nx s1 m1
    | none => .bad)
  | .aso i f, s, m => (evF T C f s m).toS s fun xs m1 => if i < s.length then .nx (s.set i (.own xs)) m1 else .bad
  | .par i j a b, s, m => (ev T C a s m).toS s fun x m1 => (ev T C b s m1).toS s fun y m2 => (match setV s i x with
    | some s1 => (match setV s1 j y with
      | some s2 => .nx s2 m2
      | none => .bad)
    | none => .bad)
  | .unp tg e, s, m => (ev T C e s m).toS s fun d m1 => (match setT tg d s with
    | some s1 => .nx s1 m1
    | none => .bad)
  | .sta a f e, s, m => (ev T C e s m).toS s fun d m1 => (ev T C a s m1).toS s fun x m2 => (match x with
    | .ref k => (match m2[k]? with
      | some (.ins c fs) => if d.isBor = false ∧ fs.length < 900 ∧ (T.fld c).contains f = true then .nx s (m2.set k (.ins c (fldPut f d fs))) else .bad
      | _ => .bad)
    | _ => .bad)
  | .sto i x e, s, m => (ev T C e s m).toS s fun d m1 => (match s[i]? with
    | some (.own xs) => (ev T C x s m1).toS s fun j m2 => (match j with
      | .int j => (match L2.ixN xs.length j with
        | some n => if d.isBor then .bad else .nx (s.set i (.own (xs.set n d))) m2
        | none => .bad)
      | _ => .bad)
    | _ => .bad)
  | .sts a x e, s, m => (ev T C e s m).toS s fun d m1 => (ev T C a s m1).toS s fun o m2 => (ev T C x s m2).toS s fun j m3 => (match o, j with
    | .ref k, .int j => (match m3[k]? with
      | some (.lst xs) => (match L2.ixN xs.length j with
        | some n => if d.isBor then .bad else .nx s (m3.set k (.lst (xs.set n d)))
        | none => .bad)
      | _ => .bad)
    | _, _ => .bad)
  | .aug i o e, s, m => (match s[i]? with
    | some (.val (.int x)) => (ev T C e s m).toS s fun d m1 => (match o, d with
      | .add, .int y => .nx (s.set i (.val (.int (x + y)))) m1
      | .sub, .int y => .nx (s.set i (.val (.int (x - y)))) m1
      | _, _ => .bad)
    | _ => .bad)
  | .app i e, s, m => (match s[i]? with
    | some (.own xs) => (ev T C e s m).toS s fun d m1 => if d.isBor = false ∧ xs.length < lim then .nx (s.set i (.own (xs ++ [d]))) m1 else .bad
    | _ => .bad)
  | .apc a e, s, m => (ev T C a s m).toS s fun o m1 => (match o with
    | .ref k => (match m1[k]? with
      | some (.lst _) => (ev T C e s m1).toS s fun d m2 => (match m2[k]? with
        | some (.lst xs) => if d.isBor = false ∧ xs.length < lim then .nx s (m2.set k (.lst (xs ++ [d]))) else .bad
        | _ => .bad)
      | _ => .bad)
    | _ => .bad)
  | .exd i e, s, m => (match s[i]? with
    | some (.own xs) => (ev T C e s m).toS s fun d m1 => (match d with
      | .lst ys => if xs.length + ys.length ≤ lim then .nx (s.set i (.own (xs ++ ys))) m1 else .bad
      | _ => .bad)
    | _ => .bad)
  | .exp e, s, m => (ev T C e s m).toS s fun _ m1 => .nx s m1
  | .ret e, s, m => (ev T C e s m).toS s fun d m1 => (match d with
    | .bor xs => .rt (.lst xs) m1
    | d => .rt d m1)
  | .rtn, s, m => .rt .non m
  | .rtf f, s, m => (evF T C f s m).toS s fun xs m1 => .rt (.lst xs) m1
  | .rse c as, s, m => (match as with
    | .nil => .exc c .non s m
    | _ => .bad)
  | .ite t a b, s, m => (tru T C t s m).toS s fun k m1 => if k = true then exs T C fu a s m1 else exs T C fu b s m1
  | .whl t b, s, m => loopW (tru T C t) (exs T C fu b) fu s m
  | .for_ tg it b, s, m => (evI T C it s m).toS s fun xs m1 => if xs.2.isSl = false then loopS (xs.2.ok xs.1) (fun x s1 m2 => match setT tg x s1 with
    | none => .bad
    | some s2 => exs T C fu b s2 m2) xs.1 s m1 else .bad
  | .brk, s, m => .bk s m
  | .cnt, s, m => .ct s m
  | .pas, s, m => .nx s m
  | .frz i, s, m => (match s[i]? with
    | some (.own xs) => .nx (s.set i (.val (.lst xs))) m
    | _ => .bad)
  | .try_ b i t h, s, m => (match exs T C fu b s m with
    | .exc x p s1 m1 => (match T.xsb x t with
      | some true => if i < s1.length then goneS i (exHs T x i h (s1.set i .emp) m1) else .bad
      | some false => .exc x p s1 m1
      | none => .bad)
    | r => r)
  | .pst i x y e, s, m => (ev T C e s m).toS s fun d m1 => (match d, s[i]? with
    | .tup [a, b], some (.own xs) => if a.isBor ∨ b.isBor then .bad else (ev T C x s m1).toS s fun j m2 => (match j with
      | .int j => (match L2.ixN xs.length j with
        | some n => (ev T C y (s.set i (.own (xs.set n a))) m2).toS (s.set i (.own (xs.set n a))) fun j2 m3 => (match j2 with
          | .int j2 => (match L2.ixN xs.length j2 with
            | some n2 => .nx ((s.set i (.own (xs.set n a))).set i (.own ((xs.set n a).set n2 b))) m3
            | none => .bad)
          | _ => .bad)
        | none => .bad)
      | _ => .bad)
    | _, _ => .bad)
  | .nev, _, _ => .bad
  | .rto i, s, m => (match s[i]? with
    | some (.own xs) => .rt (.lst xs) m
    | _ => .bad)
  | .aus a x o e, s, m => (ev T C a s m).toS s fun ov m1 => (ev T C x s m1).toS s fun iv m2 => (match ov, iv with
    | .ref k, .int j => (match m2[k]? with
      | some (.lst xs) => (match L2.atI xs j with
        | some (.int u) => (ev T C e s m2).toS s fun d m3 => (match d with
          | .int w => (match m3[k]? with
            | some (.lst ys) => (match L2.ixN ys.length j with
              | some n => (match o with
                | .add => .nx s (m3.set k (.lst (ys.set n (.int (u + w)))))
                | .sub => .nx s (m3.set k (.lst (ys.set n (.int (u - w)))))
                | _ => .bad)
              | none => .bad)
            | _ => .bad)
          | _ => .bad)
        | _ => .bad)
      | _ => .bad)
    | _, _ => .bad)
  | .pop i j e, s, m => (match s[j]? with
    | some (.own ys) => (ev T C e s m).toS s fun d m1 => (match d with
      | .int q => (match L2.ixN ys.length q with
        | some n => (match ys[n]? with
          | some y => if i < s.length ∧ ys.length ≤ lim then .nx ((s.set j (.own (ys.eraseIdx n))).set i (.val y)) m1 else .bad
          | none => .bad)
        | none => .bad)
      | _ => .bad)
    | _ => .bad)
  | .apo i j e, s, m => (match s[i]?, s[j]? with
    | some (.own xs), some (.own ys) => (ev T C e s m).toS s fun d m1 => (match d with
      | .int q => (match L2.ixN ys.length q with
        | some n => (match ys[n]? with
          | some y => if i ≠ j ∧ xs.length < lim ∧ ys.length ≤ lim then .nx ((s.set j (.own (ys.eraseIdx n))).set i (.own (xs ++ [y]))) m1 else .bad
          | none => .bad)
        | none => .bad)
      | _ => .bad)
    | _, _ => .bad)
def exs (T : Tab) (C : CF) (fu : Nat) : ISs → List S → Mu → RS
  | .nil, s, m => .nx s m
  | .cons a r, s, m => (ex T C fu a s m).seq fun s1 m1 => exs T C fu r s1 m1
end

/-! ### functions -/
structure Fn where
  par : Nat
  siz : Nat
  fr : Bool
  body : ISs
def enter (n : Nat) (xs : List D) : List S := xs.map .val ++ List.replicate (n - xs.length) .emp
def runF (T : Tab) (C : CF) (fu : Nat) (f : Fn) (xs : List D) (m : Mu) : R D := if xs.length = f.par then (match exs T C fu f.body (enter f.siz xs) m with
    | .nx _ m1 => if f.fr = true then .bad else .ok .non m1
    | .rt d m1 => .ok d m1
    | .exc c p _ m1 => .exc c p m1
    | _ => .bad) else .bad
/-- the whole program, to the depth k of calls -/
def evP (T : Tab) (P : List Fn) (fu : Nat) : Nat → CF
  | 0, _, _, _ => .bad
  | k + 1, i, xs, m => (match P[i]? with
    | some f => runF T (evP T P fu k) fu f xs m
    | none => .bad)
end Pm
end
end
section
set_option Elab.async false
set_option linter.all false
set_option maxRecDepth 100000
set_option maxHeartbeats 4000000
/-! Pm3: how the pure machine's state lies in the abstract heap. -/
noncomputable section
namespace Pm
open PySem PySem.Spec L2
/-- the names and addresses of the text -/
structure Zt where
  K : PySem.W.Frag
  cad : Nat → Addr
  fnm : Nat → Str
  T : Tab
def Ex (H H' : Hp) : Prop := ∀ a o, H a = some o → H' a = some o
theorem Ex.rfl' {H : Hp} : Ex H H := fun _ _ h => h
theorem Ex.trans {H H1 H2 : Hp} (a : Ex H H1) (b : Ex H1 H2) : Ex H H2 := fun x o h => b x o (a x o h)
theorem Ex.upd {H : Hp} {p : Addr} {o : HO} (h : H p = none) : Ex H (upd H p o) := fun a u e => by
  rw [upd_ne (ne_of_none e h)]; exact e
theorem Ex.sqL {K : PySem.W.Frag} {H H' : Hp} {a : Addr} {xs : List V} (e : Ex H H') (h : SqL K H a xs) : SqL K H' a xs := by
  rcases h with h | h
  · rcases h with h | ⟨o, h⟩
    · exact .inl (.inl (e _ _ h))
    · exact .inl (.inr ⟨o, e _ _ h⟩)
  · exact .inr h
theorem Ex.sqT {K : PySem.W.Frag} {H H' : Hp} {a : Addr} {xs : List V} (e : Ex H H') (h : SqT K H a xs) : SqT K H' a xs := by
  rcases h with h | h
  · rcases h with h | ⟨o, h⟩
    · exact .inl (.inl (e _ _ h))
    · exact .inl (.inr ⟨o, e _ _ h⟩)
  · exact .inr h
theorem Ex.none {H H' : Hp} {a : Addr} (e : Ex H H') (h : H' a = none) : H a = none := by
  cases q : H a with
  | none => rfl
  | some o => rw [e _ _ q] at h; cases h

/-- a tuple as it lies: one of the text only if it is empty -/
def TupA (K : PySem.W.Frag) (G : Hp) (a : Addr) (vs : List V) : Prop := SqT K G a vs ∧ (vs ≠ [] → G a = some (.tup vs))
theorem TupA.of {K : PySem.W.Frag} {G : Hp} {a : Addr} {vs : List V} (h : G a = some (.tup vs)) : TupA K G a vs := ⟨SqT.of h, fun _ => h⟩
theorem Ex.tupA {K : PySem.W.Frag} {H H' : Hp} {a : Addr} {xs : List V} (e : Ex H H') (h : TupA K H a xs) : TupA K H' a xs := ⟨e.sqT h.1, fun n => e _ _ (h.2 n)⟩
mutual
/-- a value is this datum, by the persistent heap G and the cells' addresses -/
def Rp (Z : Zt) (G : Hp) (as : List Addr) : D → V → Prop
  | .non, v => v = .non
  | .bl b, v => v = .bl b
  | .int i, v => v = .int i
  | .str x, v => v = .str x
  | .tup xs, v => ∃ a vs, v = .ref a ∧ TupA Z.K G a vs ∧ Rps Z G as xs vs
  | .lst xs, v => ∃ a vs, v = .ref a ∧ G a = some (.lst vs) ∧ Rps Z G as xs vs
  | .scr xs, v => ∃ a vs, v = .ref a ∧ SqL Z.K G a vs ∧ Rps Z G as xs vs
  | .obj c xs, v => ∃ a dx vs, v = .ref a ∧ G a = some (.ins (Z.cad c) dx (((Z.T.fld c).map Z.fnm).zip vs)) ∧ (Z.T.fld c).length = xs.length ∧ Rps Z G as xs vs
  | .ref k, v => ∃ a, as[k]? = some a ∧ v = .ref a
  | .bor _, _ => False
def Rps (Z : Zt) (G : Hp) (as : List Addr) : List D → List V → Prop
  | [], vs => vs = []
  | x :: xs, vs => ∃ v r, vs = v :: r ∧ Rp Z G as x v ∧ Rps Z G as xs r
end
section
variable {Z : Zt} {G G' : Hp} {as as' : List Addr}
theorem pre_get {as as' : List Addr} (p : as <+: as') {k : Nat} {a : Addr} (h : as[k]? = some a) : as'[k]? = some a := by
  obtain ⟨t, rfl⟩ := p
  rw [List.getElem?_append_left (List.getElem?_eq_some_iff.mp h).1]
  exact h
mutual
theorem Rp.mono (e : Ex G G') (p : as <+: as') : ∀ {d : D} {v : V}, Rp Z G as d v → Rp Z G' as' d v
  | .non, _, h => by unfold Rp at h ⊢; exact h
  | .bl _, _, h => by unfold Rp at h ⊢; exact h
  | .int _, _, h => by unfold Rp at h ⊢; exact h
  | .str _, _, h => by unfold Rp at h ⊢; exact h
  | .tup xs, _, h => by
    unfold Rp at h ⊢
    obtain ⟨a, vs, q, h1, h2⟩ := h
    exact ⟨a, vs, q, e.tupA h1, Rps.mono e p h2⟩
  | .lst xs, _, h => by
    unfold Rp at h ⊢
    obtain ⟨a, vs, q, h1, h2⟩ := h
    exact ⟨a, vs, q, e _ _ h1, Rps.mono e p h2⟩
  | .scr xs, _, h => by
    unfold Rp at h ⊢
    obtain ⟨a, vs, q, h1, h2⟩ := h
    exact ⟨a, vs, q, e.sqL h1, Rps.mono e p h2⟩
  | .obj c xs, _, h => by
    unfold Rp at h ⊢
    obtain ⟨a, dx, vs, q, h1, hl, h2⟩ := h
    exact ⟨a, dx, vs, q, e _ _ h1, hl, Rps.mono e p h2⟩
  | .ref k, _, h => by
    unfold Rp at h ⊢
    obtain ⟨a, h1, h2⟩ := h
    exact ⟨a, pre_get p h1, h2⟩
  | .bor _, _, h => by unfold Rp at h; exact h.elim
theorem Rps.mono (e : Ex G G') (p : as <+: as') : ∀ {ds : List D} {vs : List V}, Rps Z G as ds vs → Rps Z G' as' ds vs
  | [], _, h => by unfold Rps at h ⊢; exact h
  | x :: xs, _, h => by
    unfold Rps at h ⊢
    obtain ⟨v, r, q, h1, h2⟩ := h
    exact ⟨v, r, q, Rp.mono e p h1, Rps.mono e p h2⟩
end
theorem Rps.nil : Rps Z G as [] [] := by unfold Rps; rfl
theorem Rps.cons {x : D} {v : V} {xs : List D} {vs : List V} (h : Rp Z G as x v) (t : Rps Z G as xs vs) : Rps Z G as (x :: xs) (v :: vs) := by
  unfold Rps; exact ⟨v, vs, rfl, h, t⟩
theorem Rps.nil_inv {vs : List V} (h : Rps Z G as [] vs) : vs = [] := by unfold Rps at h; exact h
theorem Rps.cons_inv {x : D} {xs : List D} {vs : List V} (h : Rps Z G as (x :: xs) vs) : ∃ v r, vs = v :: r ∧ Rp Z G as x v ∧ Rps Z G as xs r := by unfold Rps at h; exact h
theorem Rps.length : ∀ {ds : List D} {vs : List V}, Rps Z G as ds vs → ds.length = vs.length
  | [], _, h => by rw [h.nil_inv] <;> rfl
  | x :: xs, _, h => by
    obtain ⟨v, r, rfl, _, h2⟩ := h.cons_inv
    rw [List.length_cons, List.length_cons, Rps.length h2]
theorem Rps.get : ∀ {ds : List D} {vs : List V} {i : Nat} {d : D}, Rps Z G as ds vs → ds[i]? = some d → ∃ v, vs[i]? = some v ∧ Rp Z G as d v
  | [], _, i, _, _, e => by simp at e
  | x :: xs, _, i, d, h, e => by
    obtain ⟨v, r, rfl, h1, h2⟩ := h.cons_inv
    cases i with
    | zero => simp at e; subst e; exact ⟨v, by simp, h1⟩
    | succ i =>
      obtain ⟨u, h3, h4⟩ := Rps.get (i := i) h2 (by simpa using e)
      exact ⟨u, by simpa using h3, h4⟩
theorem Rps.get' {ds : List D} {vs : List V} {i : Nat} {v : V} (h : Rps Z G as ds vs) (e : vs[i]? = some v) : ∃ d, ds[i]? = some d ∧ Rp Z G as d v := by
  have hl := h.length
  have hi : i < ds.length := by rw [hl]; exact (List.getElem?_eq_some_iff.mp e).1
  obtain ⟨u, h1, h2⟩ := h.get (List.getElem?_eq_getElem hi)
  rw [e] at h1; cases h1
  exact ⟨_, List.getElem?_eq_getElem hi, h2⟩
theorem Rps.append : ∀ {ds es : List D} {vs us : List V}, Rps Z G as ds vs → Rps Z G as es us → Rps Z G as (ds ++ es) (vs ++ us)
  | [], _, _, _, h, h' => by rw [h.nil_inv]; exact h'
  | x :: xs, _, _, _, h, h' => by
    obtain ⟨v, r, rfl, h1, h2⟩ := h.cons_inv
    exact Rps.cons h1 (Rps.append h2 h')
theorem Rps.take : ∀ {ds : List D} {vs : List V} (n : Nat), Rps Z G as ds vs → Rps Z G as (ds.take n) (vs.take n)
  | _, _, 0, h => by simpa using Rps.nil
  | [], _, n + 1, h => by rw [h.nil_inv]; exact Rps.nil
  | x :: xs, _, n + 1, h => by
    obtain ⟨v, r, rfl, h1, h2⟩ := h.cons_inv
    exact Rps.cons h1 (Rps.take n h2)
theorem Rps.drop : ∀ {ds : List D} {vs : List V} (n : Nat), Rps Z G as ds vs → Rps Z G as (ds.drop n) (vs.drop n)
  | _, _, 0, h => h
  | [], _, n + 1, h => by rw [h.nil_inv]; exact Rps.nil
  | x :: xs, _, n + 1, h => by
    obtain ⟨v, r, rfl, h1, h2⟩ := h.cons_inv
    exact Rps.drop n h2
theorem Rps.set : ∀ {ds : List D} {vs : List V} {x : D} {v : V} (n : Nat), Rps Z G as ds vs → Rp Z G as x v → Rps Z G as (ds.set n x) (vs.set n v)
  | [], _, _, _, n, h, _ => by rw [h.nil_inv]; exact Rps.nil
  | y :: ys, _, _, _, 0, h, hx => by
    obtain ⟨v, r, rfl, h1, h2⟩ := h.cons_inv
    exact Rps.cons hx h2
  | y :: ys, _, _, _, n + 1, h, hx => by
    obtain ⟨v, r, rfl, h1, h2⟩ := h.cons_inv
    exact Rps.cons h1 (Rps.set n h2 hx)
theorem Rps.flat {ds : List D} {vs : List V} (h : Rps Z G as ds vs) : ∀ n, Rps Z G as (List.replicate n ds).flatten (List.replicate n vs).flatten
  | 0 => Rps.nil
  | n + 1 => by
    rw [List.replicate_succ, List.replicate_succ, List.flatten_cons, List.flatten_cons]
    exact h.append (Rps.flat h n)
theorem Rp.noBor {d : D} {v : V} (h : Rp Z G as d v) : d.isBor = false := by
  cases d <;> first | rfl | (unfold Rp at h; exact h.elim)
end

/-! ### configurations -/
structure Cfg where
  G : Hp
  F : Hp
  as : List Addr
  os : List (Option Addr)
def Trk (c : Cfg) (a : Addr) : Prop := a ∈ c.as ∨ some a ∈ c.os
/-- the fields of an instance's cell -/
def Flds (Z : Zt) (G : Hp) (as : List Addr) (fs : List (Nat × D)) (gs : List (Str × V)) : Prop := gs.map (·.1) = fs.map (fun p => Z.fnm p.1) ∧ Rps Z G as (fs.map (·.2)) (gs.map (·.2))
def kD : L2.Key → D
  | .inl i => .int i
  | .inr x => .str x
/-- a dict as it lies -/
def DctR (Z : Zt) (G : Hp) (as : List Addr) (t : Bool) (kvs : List (D × D)) : HO → Prop
  | .dT ps => t = true ∧ kvs.map (·.1) = ps.map (fun p => D.tup (p.1.map kD)) ∧ Rps Z G as (kvs.map (·.2)) (ps.map (·.2))
  | .dK ps => t = false ∧ kvs.map (·.1) = ps.map (fun p => kD p.1) ∧ Rps Z G as (kvs.map (·.2)) (ps.map (·.2))
  | _ => False
theorem DctR.mono {Z : Zt} {G G' : Hp} {as as' : List Addr} {t : Bool} {kvs : List (D × D)} {o : HO} (e : Ex G G') (p : as <+: as') (h : DctR Z G as t kvs o) : DctR Z G' as' t kvs o := by
  cases o <;> first | exact h.elim | exact ⟨h.1, h.2.1, h.2.2.mono e p⟩
theorem DctR.vals {Z : Zt} {G : Hp} {as : List Addr} {t : Bool} {kvs : List (D × D)} {o : HO} (h : DctR Z G as t kvs o) : ∃ us, Rps Z G as (kvs.map (·.2)) us := by
  cases o <;> first | exact h.elim | exact ⟨_, h.2.2⟩
def CellOk (Z : Zt) (c : Cfg) (H : Hp) (a : Addr) : Cell → Prop
  | .lst xs => ∃ vs, H a = some (.lst vs) ∧ Rps Z c.G c.as xs vs
  | .ins k fs => ∃ dx gs, H a = some (.ins (Z.cad k) dx gs) ∧ Flds Z c.G c.as fs gs ∧ ∀ p ∈ fs, p.1 ∈ Z.T.fld k
  | .dct t kvs => ∃ o, H a = some o ∧ DctR Z c.G c.as t kvs o
def SlotOk (Z : Zt) (c : Cfg) (H : Hp) (u : Option (Option V)) (o : Option (Option Addr)) : S → Prop
  | .emp => o = some none
  | .val d => o = some none ∧ ∃ v, u = some (some v) ∧ Rp Z c.G c.as d v
  | .own xs => ∃ a, o = some (some a) ∧ u = some (some (.ref a)) ∧ CellOk Z c H a (.lst xs)
structure Sim (Z : Zt) (c : Cfg) (s : List S) (m : Mu) (σ : St) (H : Hp) : Prop where
  exG : Ex c.G H
  exF : Ex c.F H
  gf : ∀ a, c.F a ≠ none → c.G a = none
  ls : σ.length = s.length
  lo : c.os.length = s.length
  la : c.as.length = m.length
  slot : ∀ (i : Nat) (x : S), s[i]? = some x → SlotOk Z c H σ[i]? c.os[i]? x
  cell : ∀ (k : Nat) (cl : Cell) (a : Addr), m[k]? = some cl → c.as[k]? = some a → CellOk Z c H a cl
  gn : ∀ a, Trk c a → c.G a = none ∧ c.F a = none
  nd : (c.as ++ c.os.filterMap id).Nodup
structure Cfg.le (c c' : Cfg) : Prop where
  g : Ex c.G c'.G
  f : c'.F = c.F
  a : c.as <+: c'.as
  o : c'.os = c.os
structure Cfg.leS (c c' : Cfg) : Prop where
  g : Ex c.G c'.G
  f : c'.F = c.F
  a : c.as <+: c'.as
theorem Cfg.le.rfl' {c : Cfg} : c.le c := ⟨Ex.rfl', rfl, List.prefix_refl _, rfl⟩
theorem Cfg.le.trans {c c1 c2 : Cfg} (h : c.le c1) (h' : c1.le c2) : c.le c2 := ⟨h.g.trans h'.g, h'.f.trans h.f, h.a.trans h'.a, h'.o.trans h.o⟩
theorem Cfg.leS.rfl' {c : Cfg} : c.leS c := ⟨Ex.rfl', rfl, List.prefix_refl _⟩
theorem Cfg.leS.trans {c c1 c2 : Cfg} (h : c.leS c1) (h' : c1.leS c2) : c.leS c2 := ⟨h.g.trans h'.g, h'.f.trans h.f, h.a.trans h'.a⟩
theorem Cfg.le.s {c c' : Cfg} (h : c.le c') : c.leS c' := ⟨h.g, h.f, h.a⟩
/-- a value of an expression: a datum, or a list that a slot owns -/
def Rep (Z : Zt) (c : Cfg) (s : List S) (d : D) (v : V) : Prop := match d with
  | .bor xs => ∃ (i : Nat) (a : Addr), s[i]? = some (S.own xs) ∧ c.os[i]? = some (some a) ∧ v = .ref a
  | d => Rp Z c.G c.as d v
def Reps (Z : Zt) (c : Cfg) (s : List S) : List D → List V → Prop
  | [], vs => vs = []
  | x :: xs, vs => ∃ v r, vs = v :: r ∧ Rep Z c s x v ∧ Reps Z c s xs r
section
variable {Z : Zt} {c c' : Cfg} {s : List S} {m : Mu} {σ : St} {H : Hp}
theorem Rep.of {d : D} {v : V} (h : Rp Z c.G c.as d v) : Rep Z c s d v := by
  cases d <;> first | exact h | (unfold Rp at h; exact h.elim)
theorem Rep.rp {d : D} {v : V} (h : Rep Z c s d v) (n : d.isBor = false) : Rp Z c.G c.as d v := by
  cases d <;> first | exact h | cases n
theorem Rep.mono (l : c.le c') {d : D} {v : V} (h : Rep Z c s d v) : Rep Z c' s d v := by
  cases d <;> first | exact Rp.mono l.g l.a h | (unfold Rep at h ⊢; obtain ⟨i, a, h1, h2, h3⟩ := h; exact ⟨i, a, h1, by rw [l.o]; exact h2, h3⟩)
theorem Reps.mono (l : c.le c') : ∀ {ds : List D} {vs : List V}, Reps Z c s ds vs → Reps Z c' s ds vs
  | [], _, h => h
  | x :: xs, _, ⟨v, r, e, h1, h2⟩ => ⟨v, r, e, h1.mono l, Reps.mono l h2⟩
theorem Reps.rps : ∀ {ds : List D} {vs : List V}, Reps Z c s ds vs → (ds.all fun x => !x.isBor) = true → Rps Z c.G c.as ds vs
  | [], _, h, _ => by rw [show _ = [] from h]; exact Rps.nil
  | x :: xs, _, ⟨v, r, e, h1, h2⟩, n => by
    rw [List.all_cons, Bool.and_eq_true] at n
    rw [e]
    exact Rps.cons (h1.rp (by simpa using n.1)) (Reps.rps h2 n.2)
theorem Reps.length : ∀ {ds : List D} {vs : List V}, Reps Z c s ds vs → ds.length = vs.length
  | [], _, h => by rw [show _ = [] from h] <;> rfl
  | x :: xs, _, ⟨v, r, e, h1, h2⟩ => by rw [e, List.length_cons, List.length_cons, Reps.length h2]
theorem CellOk.mono {H' : Hp} {a : Addr} {cl : Cell} (g : Ex c.G c'.G) (p : c.as <+: c'.as) (e : H' a = H a) (h : CellOk Z c H a cl) : CellOk Z c' H' a cl := by
  cases cl with
  | lst xs =>
    obtain ⟨vs, h1, h2⟩ := h
    exact ⟨vs, by rw [e]; exact h1, h2.mono g p⟩
  | ins k fs =>
    obtain ⟨dx, gs, h1, ⟨h2, h3⟩, h4⟩ := h
    exact ⟨dx, gs, by rw [e]; exact h1, ⟨h2, h3.mono g p⟩, h4⟩
  | dct tt kvs =>
    obtain ⟨o, h1, h2⟩ := h
    exact ⟨o, by rw [e]; exact h1, h2.mono g p⟩
theorem CellOk.some {a : Addr} {cl : Cell} (h : CellOk Z c H a cl) : ∃ o, H a = some o := by
  cases cl with
  | lst xs => obtain ⟨vs, h1, _⟩ := h; exact ⟨_, h1⟩
  | ins k fs => obtain ⟨dx, gs, h1, _⟩ := h; exact ⟨_, h1⟩
  | dct tt kvs => obtain ⟨o, h1, _⟩ := h; exact ⟨_, h1⟩
theorem SlotOk.mono {H' : Hp} {u : Option (Option V)} {o : Option (Option Addr)} {x : S} (g : Ex c.G c'.G) (p : c.as <+: c'.as) (e : ∀ a, o = some (some a) → H' a = H a) (h : SlotOk Z c H u o x) : SlotOk Z c' H' u o x := by
  cases x with
  | emp => exact h
  | val d => obtain ⟨h1, v, h2, h3⟩ := h; exact ⟨h1, v, h2, h3.mono g p⟩
  | own xs => obtain ⟨a, h1, h2, h3⟩ := h; exact ⟨a, h1, h2, h3.mono g p (e a h1)⟩
theorem mem_os {o : List (Option Addr)} {i : Nat} {a : Addr} (h : o[i]? = some (some a)) : some a ∈ o := List.mem_of_getElem? h
theorem Sim.trk (S : Sim Z c s m σ H) {a : Addr} (h : Trk c a) : ∃ o, H a = some o := by
  rcases h with h | h
  · obtain ⟨k, hk, e⟩ := List.mem_iff_getElem.mp h
    have hm : k < m.length := by rw [← S.la]; exact hk
    exact (S.cell k _ a (List.getElem?_eq_getElem hm) (by rw [List.getElem?_eq_getElem hk, e])).some
  · obtain ⟨k, hk, e⟩ := List.mem_iff_getElem.mp h
    have hs : k < s.length := by rw [← S.lo]; exact hk
    have q := S.slot k _ (List.getElem?_eq_getElem hs)
    rw [List.getElem?_eq_getElem hk, e] at q
    cases z : s[k] with
    | emp => rw [z] at q; cases (show some (some a) = some none from q)
    | val d => rw [z] at q; obtain ⟨q1, _⟩ := q; cases q1
    | own xs =>
      rw [z] at q
      obtain ⟨b, h1, _, h3⟩ := q
      cases h1
      exact h3.some
/-- a fresh object beside -/
theorem Sim.new {p : Addr} {o : HO} (S : Sim Z c s m σ H) (hp : H p = none) : Sim Z c s m σ (upd H p o) := by
  have ne : ∀ a, Trk c a → (upd H p o) a = H a := fun a ha => by
    obtain ⟨u, e⟩ := S.trk ha
    exact upd_ne (ne_of_none e hp)
  refine ⟨S.exG.trans (Ex.upd hp), S.exF.trans (Ex.upd hp), S.gf, S.ls, S.lo, S.la, fun i x h => (S.slot i x h).mono Ex.rfl' (List.prefix_refl _) fun a e => ne a (.inr (mem_os e)), fun k cl a h1 h2 => (S.cell k cl a h1 h2).mono Ex.rfl' (List.prefix_refl _) (ne a (.inl (List.mem_of_getElem? h2))), S.gn, S.nd⟩
/-- an object that nobody tracks becomes persistent -/
def Cfg.add (c : Cfg) (p : Addr) (o : HO) : Cfg := { c with G := upd c.G p o }
theorem Sim.keep {p : Addr} {o : HO} (S : Sim Z c s m σ H) (hp : H p = some o) (hg : c.G p = none) (hf : c.F p = none) (ht : ¬ Trk c p) : Sim Z (c.add p o) s m σ H ∧ c.le (c.add p o) := by
  have g : Ex c.G (c.add p o).G := Ex.upd hg
  refine ⟨⟨fun a u e => ?_, S.exF, fun a ha => ?_, S.ls, S.lo, S.la, fun i x h => (S.slot i x h).mono g (List.prefix_refl _) fun _ _ => rfl, fun k cl a h1 h2 => (S.cell k cl a h1 h2).mono g (List.prefix_refl _) rfl, fun a ha => ?_, S.nd⟩, ⟨g, rfl, List.prefix_refl _, rfl⟩⟩
  · by_cases q : a = p
    · subst q
      rw [show (c.add a o).G = upd c.G a o from rfl, upd_same] at e
      cases e; exact hp
    · rw [show (c.add p o).G = upd c.G p o from rfl, upd_ne q] at e
      exact S.exG a u e
  · have q : a ≠ p := fun z => ha (by rw [z]; exact hf)
    rw [show (c.add p o).G = upd c.G p o from rfl, upd_ne q]
    exact S.gf a ha
  · have q : a ≠ p := fun z => ht (by rw [← z]; exact ha)
    rw [show (c.add p o).G = upd c.G p o from rfl, upd_ne q]
    exact S.gn a ha
/-- a new object laid and kept -/
theorem Sim.fresh {p : Addr} (S : Sim Z c s m σ H) (hp : H p = none) : c.G p = none ∧ c.F p = none ∧ ¬ Trk c p := ⟨S.exG.none hp, S.exF.none hp, fun t => by
  obtain ⟨o, e⟩ := S.trk t
  rw [hp] at e; cases e⟩
theorem Sim.lay {p : Addr} {o : HO} (S : Sim Z c s m σ H) (hp : H p = none) : Sim Z (c.add p o) s m σ (upd H p o) ∧ c.le (c.add p o) := by
  obtain ⟨h1, h2, h3⟩ := S.fresh hp
  exact (S.new (o := o) hp).keep upd_same h1 h2 h3
end
end Pm
end
end
section
set_option Elab.async false
set_option linter.all false
set_option maxRecDepth 100000
set_option maxHeartbeats 4000000
/-! Pm4: what a run of the pure machine wants of the abstract heap. -/
noncomputable section
namespace Pm
open PySem PySem.Spec L2
/-- an exception of class x with the payload p, as it lies: its class, its own dict -/
def XRep (Z : Zt) (ecl : Nat → Addr) (efd : Nat → Option Str) (c : Cfg) (x : Nat) (p : D) (cls : Value) (dd : Option Addr) (H : Hp) : Prop :=
  cls = .ref (ecl x) ∧ match efd x with
    | none => dd = none ∧ p = .non
    | some f => ∃ d v, dd = some d ∧ H d = some (.xd [(f, v)]) ∧ Rp Z c.G c.as p v ∧ c.G d = none ∧ c.F d = none ∧ ¬ Trk c d
/-- names of exceptions -/
structure Ze extends Zt where
  isg : Nat → Bool
  isc : Nat → Bool
  fsh : Nat → Bool
  pars : Nat → Nat
  fad : Nat → Addr
  gfn : Nat → Str
  gcl : Nat → Str
  ggl : Nat → Str
  pat : Nat → Nat → List Str → List D → Bool
  ecl : Nat → Addr
  efd : Nat → Option Str
  xrs : Nat → Bool
  xty : Nat → Bool
  xow : Nat → Bool
  xtn : Nat → Str
  xtv : Nat → Value
  kyf : Nat → Bool
abbrev RelD (Z : Ze) (c : Cfg) (s : List S) (d : D) (v : V) (_ : Hp) : Prop := Rep Z.toZt c s d v
abbrev RelL (Z : Ze) (c : Cfg) (s : List S) (d : List D) (v : List V) (_ : Hp) : Prop := Reps Z.toZt c s d v
abbrev RelB (_ : Ze) (_ : Cfg) (_ : List S) (d : Bool) (v : Bool) (_ : Hp) : Prop := v = d
/-- a new list, nobody's yet -/
def RelF (Z : Ze) (c : Cfg) (_ : List S) (xs : List D) (v : V) (H : Hp) : Prop := ∃ a vs, v = .ref a ∧ H a = some (.lst vs) ∧ Rps Z.toZt c.G c.as xs vs ∧ c.G a = none ∧ c.F a = none ∧ ¬ Trk c a
/-- what is wanted of an end r, from the configuration c -/
def Out {α β : Type} (Z : Ze) (W : WX) (Rel : Cfg → List S → α → β → Hp → Prop) (c : Cfg) (s : List S) (σ : L2.St) (r : R α) (Q : β → Hp → Prop) : Prop := match r with
  | .ok a m => ∀ c' b H', c.le c' → Sim Z.toZt c' s m σ H' → Rel c' s a b H' → Q b H'
  | .exc x p m => ∀ c' cls dd H', c.le c' → Sim Z.toZt c' s m σ H' → XRep Z.toZt Z.ecl Z.efd c' x p cls dd H' → W cls dd σ H'
  | .bad => False
section
variable {α β γ δ : Type} {Z : Ze} {W : WX} {Rel : Cfg → List S → α → β → Hp → Prop} {Rel' : Cfg → List S → γ → δ → Hp → Prop} {c c' : Cfg} {s : List S} {σ : L2.St}
theorem Out.mono {r : R α} {Q : β → Hp → Prop} (l : c.le c') (h : Out Z W Rel c s σ r Q) : Out Z W Rel c' s σ r Q := by
  cases r with
  | ok a m => exact fun c2 b H' l2 => h c2 b H' (l.trans l2)
  | exc x p m => exact fun c2 cls dd H' l2 => h c2 cls dd H' (l.trans l2)
  | bad => exact h
theorem Out.bind {r : R α} {f : α → Mu → R γ} {Q' : δ → Hp → Prop} {Q : β → Hp → Prop} (h : Out Z W Rel' c s σ (r.bind f) Q')
    (k : ∀ a m c1 b H1, c.le c1 → Sim Z.toZt c1 s m σ H1 → Rel c1 s a b H1 → Out Z W Rel' c1 s σ (f a m) Q' → Q b H1) : Out Z W Rel c s σ r Q := by
  cases r with
  | ok a m => exact fun c1 b H1 l S1 r1 => k a m c1 b H1 l S1 r1 (Out.mono l h)
  | exc x p m => exact h
  | bad => exact h
theorem Out.imp {r : R α} {Q Q' : β → Hp → Prop} (h : Out Z W Rel c s σ r Q) (k : ∀ b H, Q b H → Q' b H) : Out Z W Rel c s σ r Q' := by
  cases r with
  | ok a m => exact fun c1 b H1 l S1 r1 => k _ _ (h c1 b H1 l S1 r1)
  | exc x p m => exact h
  | bad => exact h
/-- the end is there -/
theorem Out.done {a : α} {m : Mu} {b : β} {H : Hp} {Q : β → Hp → Prop} (h : Out Z W Rel c s σ (.ok a m) Q) (S1 : Sim Z.toZt c s m σ H) (r : Rel c s a b H) : Q b H := h c b H Cfg.le.rfl' S1 r
theorem Out.to {a : α} {m : Mu} {b : β} {H : Hp} {Q : β → Hp → Prop} (h : Out Z W Rel c s σ (.ok a m) Q) (l : c.le c') (S1 : Sim Z.toZt c' s m σ H) (r : Rel c' s a b H) : Q b H := h c' b H l S1 r
end
/-- readings -/
def tE (Z : Ze) (W : WX) (f : List S → Mu → R D) : TE := fun σ H Q => ∃ c s m, Sim Z.toZt c s m σ H ∧ Out Z W (RelD Z) c s σ (f s m) Q
def tT (Z : Ze) (W : WX) (f : List S → Mu → R Bool) : TT := fun σ H Q => ∃ c s m, Sim Z.toZt c s m σ H ∧ Out Z W (RelB Z) c s σ (f s m) Q
def tA (Z : Ze) (W : WX) (f : List S → Mu → R (List D)) : TA := fun σ H Q => ∃ c s m, Sim Z.toZt c s m σ H ∧ Out Z W (RelL Z) c s σ (f s m) Q
def tF (Z : Ze) (W : WX) (f : List S → Mu → R (List D)) : TE := fun σ H Q => ∃ c s m, Sim Z.toZt c s m σ H ∧ Out Z W (RelF Z) c s σ (f s m) Q
theorem tE.mk {Z : Ze} {W : WX} {f : List S → Mu → R D} {c : Cfg} {s : List S} {m : Mu} {σ : L2.St} {H : Hp} {Q : VK} (h : Sim Z.toZt c s m σ H) (o : Out Z W (RelD Z) c s σ (f s m) Q) : tE Z W f σ H Q := ⟨c, s, m, h, o⟩
/-- another reading -/
theorem PE.of {X : Cx} {e : Expr} {t t' : TE} (h : PE X e t) (k : ∀ σ H Q, t' σ H Q → t σ H Q) : PE X e t' := ⟨fun pins s σ H Q I q => h.run pins s σ H Q I (k σ H Q q)⟩
theorem PT.of {X : Cx} {e : Expr} {t t' : TT} (h : PT X e t) (k : ∀ σ H Q, t' σ H Q → t σ H Q) : PT X e t' := ⟨fun pins s σ H Q I q => h.run pins s σ H Q I (k σ H Q q)⟩
theorem PA.of {X : Cx} {e : List Expr} {t t' : TA} (h : PA X e t) (k : ∀ σ H Q, t' σ H Q → t σ H Q) : PA X e t' := ⟨fun pos pins s σ H Q I q => h.run pos pins s σ H Q I (k σ H Q q)⟩
theorem PS.of {X : Cx} {e : Stmt} {t t' : TS} (h : PS X e t) (k : ∀ σ H D, t' D σ H → t D σ H) : PS X e t' := ⟨fun pins s σ H D I q => h.run pins s σ H D I (k σ H D q)⟩

/-! ### reading lists -/
section
variable {Z : Ze} {c : Cfg} {s : List S} {m : Mu} {σ : L2.St} {H : Hp}
theorem Sim.lstOf (S1 : Sim Z.toZt c s m σ H) {d : D} {v : V} {xs : List D} (r : Rep Z.toZt c s d v) (e : lstOf m d = some xs) : ∃ a vs, v = .ref a ∧ SqL Z.K H a vs ∧ Rps Z.toZt c.G c.as xs vs := by
  cases d with
  | lst ys =>
    cases e
    unfold Rep Rp at r
    obtain ⟨a, vs, h1, h2, h3⟩ := r
    exact ⟨a, vs, h1, SqL.of (S1.exG _ _ h2), h3⟩
  | scr ys =>
    cases e
    unfold Rep Rp at r
    obtain ⟨a, vs, h1, h2, h3⟩ := r
    exact ⟨a, vs, h1, S1.exG.sqL h2, h3⟩
  | bor ys =>
    cases e
    obtain ⟨i, a, h1, h2, h3⟩ := r
    have q := S1.slot i _ h1
    rw [h2] at q
    obtain ⟨b, q1, _, vs, q3, q4⟩ := q
    cases q1
    exact ⟨a, vs, h3, SqL.of q3, q4⟩
  | ref k =>
    unfold Rep Rp at r
    obtain ⟨a, h1, h2⟩ := r
    dsimp only [Pm.lstOf] at e
    cases q : m[k]? with
    | none => rw [q] at e; cases e
    | some cl =>
      rw [q] at e
      cases cl with
      | lst ys =>
        cases e
        obtain ⟨vs, q3, q4⟩ := S1.cell k _ a q h1
        exact ⟨a, vs, h2, SqL.of q3, q4⟩
      | ins _ _ => cases e
      | dct _ _ => cases e
  | non => cases e
  | bl _ => cases e
  | int _ => cases e
  | str _ => cases e
  | tup _ => cases e
  | obj _ _ => cases e
theorem Sim.lstT (S1 : Sim Z.toZt c s m σ H) {d : D} {v : V} {xs : List D} (r : Rep Z.toZt c s d v) (e : lstT m d = some xs) : ∃ a vs, v = .ref a ∧ H a = some (.lst vs) ∧ Rps Z.toZt c.G c.as xs vs := by
  cases d with
  | lst ys =>
    cases e
    unfold Rep Rp at r
    obtain ⟨a, vs, h1, h2, h3⟩ := r
    exact ⟨a, vs, h1, S1.exG _ _ h2, h3⟩
  | scr ys => cases e
  | bor ys =>
    cases e
    obtain ⟨i, a, h1, h2, h3⟩ := r
    have q := S1.slot i _ h1
    rw [h2] at q
    obtain ⟨b, q1, _, vs, q3, q4⟩ := q
    cases q1
    exact ⟨a, vs, h3, q3, q4⟩
  | ref k =>
    unfold Rep Rp at r
    obtain ⟨a, h1, h2⟩ := r
    dsimp only [Pm.lstT, Pm.lstOf] at e
    cases q : m[k]? with
    | none => rw [q] at e; cases e
    | some cl =>
      rw [q] at e
      cases cl with
      | lst ys =>
        cases e
        obtain ⟨vs, q3, q4⟩ := S1.cell k _ a q h1
        exact ⟨a, vs, h2, q3, q4⟩
      | ins _ _ => cases e
      | dct _ _ => cases e
  | non => cases e
  | bl _ => cases e
  | int _ => cases e
  | str _ => cases e
  | tup _ => cases e
  | obj _ _ => cases e
theorem Sim.seqOf (S1 : Sim Z.toZt c s m σ H) {d : D} {v : V} {xs : List D} (r : Rep Z.toZt c s d v) (e : seqOf m d = some xs) : ∃ a vs, v = .ref a ∧ (SqL Z.K H a vs ∨ SqT Z.K H a vs) ∧ Rps Z.toZt c.G c.as xs vs := by
  cases d with
  | tup ys =>
    cases e
    unfold Rep Rp at r
    obtain ⟨a, vs, h1, h2, h3⟩ := r
    exact ⟨a, vs, h1, .inr (S1.exG.sqT h2.1), h3⟩
  | _ =>
    obtain ⟨a, vs, h1, h2, h3⟩ := S1.lstOf r (xs := xs) e
    exact ⟨a, vs, h1, .inl h2, h3⟩
end
end Pm
end
end
section
set_option Elab.async false
set_option linter.all false
set_option maxRecDepth 100000
set_option maxHeartbeats 4000000
/-! Pm5: the inner language against the text. -/
noncomputable section
namespace Pm
open PySem PySem.Spec L2
def visB (sc : Scope) (x : Str) : Bool := match sc.names.lookup x with
  | some .local => true
  | some .cell => true
  | some .free => true
  | _ => false
def locB (sc : Scope) (x : Str) : Bool := match sc.names.lookup x with
  | some .local => true
  | some .cell => true
  | _ => false
def glB (sc : Scope) (x : Str) : Bool := decide (sc.names.lookup x = some .globalImplicit) && (!(x == ("__debug__" : Str)) && !decide (x = ("__name__" : Str)))
def dbgB (x : Str) : Bool := !(x == ("__debug__" : Str)) && !(x == ("__classdict__" : Str))
def bopB : Bop → Operator → Bool
  | .add, .Add => true
  | .sub, .Sub => true
  | .mul, .Mult => true
  | .fdv, .FloorDiv => true
  | .mod, .Mod => true
  | .pow, .Pow => true
  | _, _ => false
def copB : Cop → CmpOp → Bool
  | .eq, .Eq => true
  | .ne, .NotEq => true
  | .lt, .Lt => true
  | .le, .LtE => true
  | .gt, .Gt => true
  | .ge, .GtE => true
  | .isin, .In => true
  | .nin, .NotIn => true
  | .is_, .Is => true
  | .isn, .IsNot => true
  | _, _ => false
def bifN : Bif → Str
  | .len => "len" | .abs => "abs" | .int => "int" | .str => "str" | .tuple => "tuple" | .all => "all" | .any => "any" | .min2 => "min" | .max2 => "max"
def tyN (Z : Ze) : Ty → Str
  | .tint => "int" | .tbool => "bool" | .tstr => "str" | .ttup => "tuple" | .tlst => "list" | .cls c => Z.gcl c
/-- a set display's own forms stand apart -/
def noSet : Expr → Bool
  | .Set _ _ _ => false
  | _ => true
def noSl : Expr → Bool
  | .Slice _ _ _ _ => false
  | _ => true
/-- not super() -/
def noSup : Expr → Bool
  | .Call (.Name _ _) [] [] _ => false
  | _ => true
def isNonIE : IE → Bool
  | .con .non => true
  | _ => false
def isNone : Expr → Bool
  | .Constant .none _ _ => true
  | _ => false
section
variable (Z : Ze) (N : List Str)
/-- the body of a key: return (len(p), p) -/
def keyB (ps : List Str) (body : List Stmt) (sc : Scope) : Bool := match ps, body with
  | [p], [.Return (some (.Tuple [.Call (.Name l _) [.Name q _] [] _, .Name r _] _ _)) _] => (decide (l = ("len" : Str)) && glB sc l) && ((decide (q = p) && decide (r = p)) && (visB sc p && dbgB p))
  | _, _ => false
def chkTys (sc : Scope) : List Ty → List Expr → Bool
  | [], [] => true
  | t :: ts, e :: es => (match e with
    | .Name x _ => decide (x = tyN Z t) && glB sc x
    | _ => false) && chkTys sc ts es
  | _, _ => false
mutual
def chkT (sc : Scope) : Tg → Expr → Bool
  | .nam i, e => (match e with
    | .Name x _ => decide (N[i]? = some x) && locB sc x
    | _ => false)
  | .tup ts, e => (match e with
    | .Tuple es _ _ => chkTs sc ts es
    | _ => false)
def chkTs (sc : Scope) : List Tg → List Expr → Bool
  | [], es => es.isEmpty
  | t :: ts, es => (match es with
    | e :: r => chkT sc t e && chkTs sc ts r
    | [] => false)
end
def tgIx : Tg → List Nat
  | .nam i => [i]
  | .tup ts => ixs ts
where ixs : List Tg → List Nat
  | [] => []
  | t :: ts => tgIx t ++ ixs ts
def isTupE : Expr → Bool
  | .Tuple _ _ _ => true
  | _ => false
/-- zip and enumerate want a written tuple as target -/
def itT : It → Expr → Bool
  | .zip _ _, e => isTupE e
  | .enu _, e => isTupE e
  | _, _ => true
/-- a dict display of written texts and numbers -/
def chkDl : List (Str × Int) → List (Option Expr) → List Expr → Bool
  | [], ks, vs => ks.isEmpty && vs.isEmpty
  | (k, i) :: r, ks, vs => (match ks, vs with
    | some (.Constant (.str k') _ _) :: ks, .Constant (.int i') _ _ :: vs => (decide (k = k') && decide (i = i')) && chkDl r ks vs
    | _, _ => false)
mutual
def chkE : IE → Scope → Expr → Bool
  | .var i, sc, e => (match e with
    | .Name x _ => decide (N[i]? = some x) && (visB sc x && dbgB x)
    | _ => false)
  | .con d, sc, e => (match e with
    | .Constant c _ _ => (match c, d with
      | .int i, .int j => decide (i = j)
      | .bool i, .bl j => i == j
      | .str i, .str j => decide (i = j)
      | .none, .non => true
      | _, _ => false)
    | _ => false)
  | .glb g, sc, e => (match e with
    | .Name x _ => Z.isc g && (decide (x = Z.ggl g) && glB sc x)
    | _ => false)
  | .bop o a b, sc, e => (match e with
    | .BinOp l op r _ => bopB o op && (chkE a sc l && chkE b sc r)
    | _ => false)
  | .neg a, sc, e => (match e with
    | .UnaryOp .USub x _ => chkE a sc x
    | _ => false)
  | .cmp o a b, sc, e => (match e with
    | .Compare l [op] [r] _ => copB o op && ((chkE a sc l && chkE b sc r) && (match o with | .is_ => isNone r | .isn => isNone r | _ => true))
    | _ => false)
  | .chn o p a b c, sc, e => (match e with
    | .Compare l [op, op2] [r, r2] _ => (copB o op && copB p op2) && (chkE a sc l && (chkE b sc r && chkE c sc r2))
    | _ => false)
  | .bol k as, sc, e => (match e with
    | .BoolOp op vs _ => (match k, op with
      | true, .And => true
      | false, .Or => true
      | _, _ => false) && chkEs as sc vs
    | _ => false)
  | .not_ a, sc, e => (match e with
    | .UnaryOp .Not x _ => chkE a sc x
    | _ => false)
  | .ite t a b, sc, e => (match e with
    | .IfExp x y z _ => chkE t sc x && (chkE a sc y && chkE b sc z)
    | _ => false)
  | .att a f, sc, e => (match e with
    | .Attribute o m _ => decide (m = Z.fnm f) && (chkE a sc o && noSup o)
    | _ => false)
  | .sub a i, sc, e => (match e with
    | .Subscript x y _ => chkE a sc x && (chkE i sc y && noSl y)
    | _ => false)
  | .slc a lo hi, sc, e => (match e with
    | .Subscript x (.Slice l h none _) _ => chkE a sc x && ((match l with
      | none => isNonIE lo
      | some l => chkE lo sc l) && (match h with
      | none => isNonIE hi
      | some h => chkE hi sc h))
    | _ => false)
  | .tup as, sc, e => (match e with
    | .Tuple es _ _ => chkEs as sc es
    | _ => false)
  | .call f as ks ds, sc, e => (match e with
    | .Call (.Name x _) args kws _ => (Z.isg f && (decide (x = Z.gfn f) && glB sc x)) && ((chkEs as sc args && chkKs ks sc kws) && Z.pat f args.length (kws.filterMap (·.arg)) ds)
    | _ => false)
  | .meth a n as, sc, e => (match e with
    | .Call (.Attribute o m apos) args [] pos => (decide (m = Z.fnm n) && (apos.endLine == pos.line && decide (args.length < 20))) && ((chkE a sc o && noSup o) && chkEs as sc args)
    | _ => false)
  | .new c as ks ds, sc, e => (match e with
    | .Call (.Name x _) args kws _ => (decide (x = Z.gcl c) && glB sc x) && ((chkEs as sc args && chkKs ks sc kws) && (match Z.T.ini c with
      | some f => Z.pat f (args.length + 1) (kws.filterMap (·.arg)) ds
      | none => false))
    | _ => false)
  | .bif b as, sc, e => (match e with
    | .Call (.Name x _) (a :: args) [] _ => (decide (x = bifN b) && glB sc x) && chkEs as sc (a :: args)
    | _ => false)
  | .isi a ts, sc, e => (match e with
    | .Call (.Name x _) [o, .Name y p] [] _ => (decide (x = ("isinstance" : Str)) && glB sc x) && (chkE a sc o && (match ts with
      | [t] => (decide (y = tyN Z t) && glB sc y) && okTy Z.T t
      | _ => false))
    | .Call (.Name x _) [o, .Tuple es _ _] [] _ => (decide (x = ("isinstance" : Str)) && glB sc x) && (chkE a sc o && ((chkTys Z sc ts es && decide (ts.length ≤ 20)) && ts.all fun t => okTy Z.T t))
    | _ => false)
  | .fst as, sc, e => (match e with
    | .JoinedStr es _ => chkFs as sc es && decide (2 ≤ es.length)
    | _ => false)
  | .frz f, sc, e => chkF f sc e
  | .cel f, sc, e => chkF f sc e
  | .dpr a, sc, e => (match e with
    | .Call (.Name x _) [o] [] _ => (decide (x = ("dict" : Str)) && glB sc x) && chkE a sc o
    | _ => false)
  | .dlt kvs, _, e => (match e with
    | .Dict ks vs _ => chkDl kvs ks vs
    | _ => false)
  | .dge a i, sc, e => (match e with
    | .Subscript x y _ => chkE a sc x && (chkE i sc y && noSl y)
    | _ => false)
  | .din n x a, sc, e => (match e with
    | .Compare l [op] [r] _ => (match n, op with
      | false, .In => true
      | true, .NotIn => true
      | _, _ => false) && (chkE x sc l && chkE a sc r)
    | _ => false)
  | .nev, sc, e => (match e with
    | .Starred _ _ => false
    | .Set _ _ _ => false
    | _ => true)
  | .tpr a, sc, e => (match e with
    | .Call (.Name x _) [.Call (.Name y _) [o] [] _] [] _ => ((decide (x = ("tuple" : Str)) && glB sc x) && (decide (y = ("range" : Str)) && glB sc y)) && chkE a sc o
    | _ => false)
def chkEs : IEs → Scope → List Expr → Bool
  | .nil, sc, es => es.isEmpty
  | .cons a r, sc, es => (match es with
    | e :: es => chkE a sc e && chkEs r sc es
    | [] => false)
def chkKs : IEs → Scope → List Keyword → Bool
  | .nil, sc, es => es.isEmpty
  | .cons a r, sc, es => (match es with
    | ⟨some _, e, _⟩ :: es => chkE a sc e && chkKs r sc es
    | _ => false)
/-- the parts of an f-string -/
def chkFs : IEs → Scope → List Expr → Bool
  | .nil, sc, es => es.isEmpty
  | .cons a r, sc, es => (match es with
    | e :: es => (match e with
      | .FormattedValue x cv sp _ => decide (cv = -1) && (sp.isNone && chkE a sc x)
      | .Constant (.str z) _ _ => (match a with
        | .con (.str y) => decide (y = z)
        | _ => false)
      | _ => false) && chkFs r sc es
    | [] => false)
def chkF : FE → Scope → Expr → Bool
  | .lst as, sc, e => (match e with
    | .List es _ => chkEs as sc es
    | _ => false)
  | .lc own tg it cs x, sc, e => (match e with
    | .ListComp elt [⟨t, iter, ifs, 0⟩] scope _ => (blkC N sc scope (own.map fun i => (N.getD i Str.empty, i)) && ((chkT N scope tg t && noSet iter) && (itT it t && (tgIx tg).all fun i => own.contains i))) && ((chkI it sc iter && decide (ifs.length ≤ 1)) && (chkEs cs (relS scope sc) ifs && chkE x (relS scope sc) elt))
    | _ => false)
  | .lc2 own tg it ow1 tg1 it1 x, sc, e => (match e with
    | .ListComp elt [⟨t, iter, ifs, 0⟩, ⟨t1, iter1, ifs1, 0⟩] scope _ => (blkC N sc scope (own.map fun i => (N.getD i Str.empty, i)) && ((chkT N scope tg t && noSet iter) && (itT it t && (tgIx tg).all fun i => own.contains i))) && (((chkI it sc iter && ifs.isEmpty) && ((chkT N scope tg1 t1 && noSet iter1) && ((itT it1 t1 && (tgIx tg1).all fun i => ow1.contains i) && ow1.all fun i => own.contains i))) && ((chkI it1 (relS scope sc) iter1 && ifs1.isEmpty) && chkE x (relS scope sc) elt))
    | _ => false)
  | .lis a, sc, e => (match e with
    | .Call (.Name x _) [o] [] _ => (decide (x = ("list" : Str)) && glB sc x) && chkE a sc o
    | _ => false)
  | .srt a, sc, e => (match e with
    | .Call (.Name x _) [o] [] _ => (decide (x = ("sorted" : Str)) && glB sc x) && chkE a sc o
    | _ => false)
  | .sst a, sc, e => (match e with
    | .Call (.Name x _) [.Call (.Name y _) [o] [] _] [] _ => ((decide (x = ("sorted" : Str)) && glB sc x) && (decide (y = ("set" : Str)) && glB sc y)) && chkE a sc o
    | _ => false)
  | .slf f a, sc, e => (match e with
    | .Call (.Name x _) [o] [⟨some kn, .Name y _, _⟩] _ => (decide (x = ("sorted" : Str)) && glB sc x) && ((decide (kn = ("key" : Str)) && (((Z.isg f && Z.kyf f) && Z.pat f 1 [] []) && (decide (y = Z.gfn f) && glB sc y))) && chkE a sc o)
    | _ => false)
  | .cut a lo hi, sc, e => (match e with
    | .Subscript x (.Slice l h none _) _ => chkE a sc x && ((match l with
      | none => isNonIE lo
      | some l => chkE lo sc l) && (match h with
      | none => isNonIE hi
      | some h => chkE hi sc h))
    | _ => false)
  | .cat a b, sc, e => (match e with
    | .BinOp l .Add r _ => chkE a sc l && chkE b sc r
    | _ => false)
  | .cal f as ks ds, sc, e => (match e with
    | .Call (.Name x _) args kws _ => ((Z.isg f && Z.fsh f) && (decide (x = Z.gfn f) && glB sc x)) && ((chkEs as sc args && chkKs ks sc kws) && Z.pat f args.length (kws.filterMap (·.arg)) ds)
    | _ => false)
  | .lrg a, sc, e => (match e with
    | .Call (.Name x _) [.Call (.Name y _) [o] [] _] [] _ => ((decide (x = ("list" : Str)) && glB sc x) && (decide (y = ("range" : Str)) && glB sc y)) && chkE a sc o
    | _ => false)
  | .rep a n, sc, e => (match e with
    | .BinOp l .Mult r _ => chkE a sc l && chkE n sc r
    | _ => false)
def chkI : It → Scope → Expr → Bool
  | .exp a, sc, e => chkE a sc e
  | .rng a, sc, e => (match e with
    | .Call (.Name x _) [o] [] _ => (decide (x = ("range" : Str)) && glB sc x) && chkE a sc o
    | _ => false)
  | .rng2 a b, sc, e => (match e with
    | .Call (.Name x _) [o, p] [] _ => (decide (x = ("range" : Str)) && glB sc x) && (chkE a sc o && chkE b sc p)
    | _ => false)
  | .zip a b, sc, e => (match e with
    | .Call (.Name x _) [o, p] [] _ => (decide (x = ("zip" : Str)) && glB sc x) && (chkE a sc o && chkE b sc p)
    | _ => false)
  | .enu a, sc, e => (match e with
    | .Call (.Name x _) [o] [] _ => (decide (x = ("enumerate" : Str)) && glB sc x) && chkE a sc o
    | _ => false)
end
end
end Pm
end
end
section
set_option Elab.async false
set_option linter.all false
set_option maxRecDepth 100000
set_option maxHeartbeats 4000000
/-! Pm6: calls by configurations; the facts of the text; the context of a body. -/
noncomputable section
namespace Pm
open PySem PySem.Spec L2
/-- what a def hands back: a datum; a list that nobody has (fr) -/
def RetRel (Z : Ze) (fr : Bool) (c : Cfg) (d : D) (v : V) (H : Hp) : Prop := if fr = true then ∃ xs, d = .lst xs ∧ RelF Z c [] xs v H else Rp Z.toZt c.G c.as d v
def OutM (Z : Ze) (fr : Bool) (c : Cfg) (r : R D) (Q : VK) (E : XK) : Prop := match r with
  | .ok d m => ∀ c' v H', c.leS c' → c'.os = [] → Sim Z.toZt c' [] m [] H' → RetRel Z fr c' d v H' → Q v H'
  | .exc x p m => ∀ c' cls dd H', c.leS c' → c'.os = [] → Sim Z.toZt c' [] m [] H' → XRep Z.toZt Z.ecl Z.efd c' x p cls dd H' → E cls dd H'
  | .bad => False
/-- a def's promise: it does what the pure machine does -/
def SpM (Z : Ze) (C : CF) (f : Nat) : Sp := fun vs H Q E => ∃ c ds m, c.os = [] ∧ Sim Z.toZt c [] m [] H ∧ Rps Z.toZt c.G c.as ds vs ∧ OutM Z (Z.fsh f) c (C f ds m) Q E ∧ ds.length = Z.pars f
open Classical in
/-- the callee's configuration -/
def Cfg.inn (c : Cfg) (H : Hp) : Cfg := { G := c.G, F := fun a => if c.G a = none ∧ a ∉ c.as then H a else none, as := c.as, os := [] }
def Cfg.out (c c1 : Cfg) : Cfg := { G := c1.G, F := c.F, as := c1.as, os := c.os }
section
variable {Z : Zt} {c c1 : Cfg} {s : List S} {m m1 : Mu} {σ : L2.St} {H H1 : Hp}
theorem inn_F {a : Addr} (h : c.G a = none) (h' : a ∉ c.as) : (c.inn H).F a = H a := by
  show (if c.G a = none ∧ a ∉ c.as then H a else none) = H a
  rw [if_pos ⟨h, h'⟩]
theorem inn_F2 {a : Addr} {o : HO} (h : (c.inn H).F a = some o) : c.G a = none ∧ a ∉ c.as ∧ H a = some o := by
  have h : (if c.G a = none ∧ a ∉ c.as then H a else none) = some o := h
  by_cases q : c.G a = none ∧ a ∉ c.as
  · rw [if_pos q] at h; exact ⟨q.1, q.2, h⟩
  · rw [if_neg q] at h; cases h
theorem inn_F3 {a : Addr} (h : (c.inn H).F a ≠ none) : c.G a = none ∧ a ∉ c.as := by
  cases e : (c.inn H).F a with
  | none => exact absurd e h
  | some o => obtain ⟨h1, h2, _⟩ := inn_F2 e; exact ⟨h1, h2⟩
theorem Sim.inn (S1 : Sim Z c s m σ H) : Sim Z (c.inn H) [] m [] H := by
  refine ⟨S1.exG, fun a o e => (inn_F2 e).2.2, fun a e => (inn_F3 e).1, rfl, rfl, S1.la, fun i x e => by simp at e, fun k cl a h1 h2 => (S1.cell k cl a h1 h2).mono Ex.rfl' (List.prefix_refl _) rfl, fun a ha => ?_, ?_⟩
  · rcases ha with ha | ha
    · refine ⟨(S1.gn a (.inl ha)).1, ?_⟩
      cases e : (c.inn H).F a with
      | none => rfl
      | some o => exact absurd ha (inn_F2 e).2.1
    · simp [Cfg.inn] at ha
  · have := S1.nd
    rw [List.nodup_append] at this
    show (c.as ++ [].filterMap id).Nodup
    simpa using this.1
theorem os_mem {l : List (Option Addr)} {a : Addr} : a ∈ l.filterMap id ↔ some a ∈ l := by
  simp [List.mem_filterMap]
theorem Sim.outM (S1 : Sim Z c s m σ H) (l : (c.inn H).leS c1) (S2 : Sim Z c1 [] m1 [] H1) : Sim Z (c.out c1) s m1 σ H1 ∧ c.le (c.out c1) := by
  have hF : c1.F = (c.inn H).F := l.f
  have own : ∀ a, some a ∈ c.os → (c.inn H).F a = H a ∧ (c.inn H).F a ≠ none := fun a ha => by
    have g := S1.gn a (.inr ha)
    have na : a ∉ c.as := fun q => by
      have := S1.nd
      rw [List.nodup_append] at this
      exact this.2.2 a q a (os_mem.mpr ha) rfl
    have e := inn_F (H := H) g.1 na
    obtain ⟨o, q⟩ := S1.trk (.inr ha)
    exact ⟨e, by rw [e, q]; exact fun z => nomatch z⟩
  have fF : ∀ a, c.F a ≠ none → (c.inn H).F a = H a ∧ (c.inn H).F a ≠ none := fun a ha => by
    have g := S1.gf a ha
    have na : a ∉ c.as := fun q => ha (S1.gn a (.inl q)).2
    have e := inn_F (H := H) g na
    cases q : c.F a with
    | none => exact absurd q ha
    | some o => exact ⟨e, by rw [e, S1.exF a o q]; exact fun z => nomatch z⟩
  have keep : ∀ a, (c.inn H).F a ≠ none → (c.inn H).F a = H a → H1 a = H a := fun a h1 h2 => by
    cases q : (c.inn H).F a with
    | none => exact absurd q h1
    | some o =>
      rw [← h2, q]
      exact S2.exF a o (by rw [hF]; exact q)
  refine ⟨⟨S2.exG, fun a o e => ?_, fun a e => ?_, S1.ls, S1.lo, S2.la, fun i x e => (S1.slot i x e).mono l.g l.a fun a q => ?_, fun k cl a h1 h2 => (S2.cell k cl a h1 h2).mono Ex.rfl' (List.prefix_refl _) rfl, fun a ha => ?_, ?_⟩, ⟨l.g, rfl, l.a, rfl⟩⟩
  · obtain ⟨h1, h2⟩ := fF a (by rw [show c.F a = some o from e]; exact fun z => nomatch z)
    rw [keep a h2 h1]
    exact S1.exF a o e
  · exact S2.gf a (by rw [hF]; exact (fF a e).2)
  · have h := own a (mem_os q)
    exact keep a h.2 h.1
  · rcases ha with ha | ha
    · obtain ⟨h1, h2⟩ := S2.gn a (.inl ha)
      refine ⟨h1, ?_⟩
      cases q : c.F a with
      | none => exact q
      | some o =>
        have := (fF a (by rw [q]; exact fun z => nomatch z)).2
        rw [← hF] at this
        exact absurd h2 this
    · exact ⟨S2.gf a (by rw [hF]; exact (own a ha).2), (S1.gn a (.inr ha)).2⟩
  · have n1 := S1.nd
    have n2 := S2.nd
    rw [List.nodup_append] at n1 n2 ⊢
    refine ⟨n2.1, n1.2.1, fun a h1 b h2 e => ?_⟩
    subst e
    have q := (S2.gn a (.inl h1)).2
    rw [hF] at q
    exact (own a (os_mem.mp h2)).2 q
end
/-- kinds of data, for isinstance -/
inductive VT where
  | non | bl | int | str | tup | lst | cls (c : Nat)
def vtV (Z : Ze) : VT → Value
  | .non => .type "NoneType" | .bl => .type "bool" | .int => .type "int" | .str => .type "str" | .tup => .type "tuple" | .lst => .type "list" | .cls c => .ref (Z.cad c)
def tyV (Z : Ze) : Ty → Value
  | .tint => .type "int" | .tbool => .type "bool" | .tstr => .type "str" | .ttup => .type "tuple" | .tlst => .type "list" | .cls c => .ref (Z.cad c)
def tyB : VT → Ty → Bool
  | .int, .tint => true
  | .bl, .tint => true
  | .bl, .tbool => true
  | .str, .tstr => true
  | .tup, .ttup => true
  | .lst, .tlst => true
  | .cls c, .cls c' => decide (c = c')
  | _, _ => false
def okV (Z : Ze) : VT → Bool
  | .cls c => (Z.T.ini c).isSome
  | _ => true
abbrev okT (Z : Ze) (t : Ty) : Bool := okTy Z.T t
/-- what the text has made (K) and how the module's names stand -/
structure Txt (Z : Ze) (mg : Str → Option Value) : Prop where
  inj : ∀ f g, Z.fnm f = Z.fnm g → f = g
  fld : ∀ c f, f ∈ Z.T.fld c → Cls Z.K (Z.cad c) ∧ NoAttr Z.K (Z.cad c) (Z.fnm f)
  fnd : ∀ c, (Z.T.fld c).Nodup
  mth : ∀ c n f, Z.T.mth c n = some f → Cls Z.K (Z.cad c) ∧ Meth Z.K (Z.cad c) (Z.fnm n) (Z.fad f) ∧ n ∉ Z.T.fld c
  opm : ∀ c o f op, Z.T.opm c o = some f → bopB o op = true → PySem.W.selfFirst Z.K (Z.cad c) = true ∧ PySem.W.findIn Z.K (.ref (Z.cad c)) (PySem.dunder op.info.2) = some (some (.ref (Z.fad f))) ∧ PySem.W.isFn Z.K (.ref (Z.fad f)) = true ∧ Z.pat f 2 [] [] = true
  stm : ∀ c f, Z.T.stm c = some f → PySem.W.findIn Z.K (.ref (Z.cad c)) "__str__" = some (some (.ref (Z.fad f))) ∧ PySem.W.isFn Z.K (.ref (Z.fad f)) = true ∧ Z.pat f 1 [] [] = true ∧ PySem.W.findIn Z.K (.ref (Z.cad c)) "__format__" = some (some (.builtin "object.__format__")) ∧ PySem.W.mroIn Z.K (Z.cad c) (.type "object") = some true
  ist : ∀ c f, Z.T.ini c = some f → Cls Z.K (Z.cad c) ∧ PySem.W.findIn Z.K (.ref (Z.cad c)) "__class__" = some (some (.builtin "object.__class__")) ∧ PySem.W.specialIn Z.K (.builtin "object.__class__") "__get__" = some (some (.builtin "getset_descriptor.__get__")) ∧ PySem.W.takesIn Z.K (.builtin "object.__class__") = some true ∧ PySem.W.mroIn Z.K (Z.cad c) (.type "object") = some true
  eqm : ∀ c f, Z.T.eqm c = some f → PySem.W.findIn Z.K (.ref (Z.cad c)) "__eq__" = some (some (.ref (Z.fad f))) ∧ PySem.W.isFn Z.K (.ref (Z.fad f)) = true ∧ Z.pat f 2 [] [] = true ∧ PySem.W.findIn Z.K (.ref (Z.cad c)) "__ne__" = some (some (.builtin "object.__ne__")) ∧ PySem.W.mroIn Z.K (Z.cad c) (.type "object") = some true
  cinj : ∀ c c', (Z.T.eqm c).isSome = true → (Z.T.eqm c').isSome = true → Z.cad c = Z.cad c' → c = c'
  ini : ∀ c f, Z.T.ini c = some f → mg (Z.gcl c) = some (.ref (Z.cad c)) ∧ Mk Z.K (Z.cad c) (Z.fad f)
  gfn : ∀ f, Z.isg f = true → mg (Z.gfn f) = some (.ref (Z.fad f)) ∧ PySem.W.keepIn Z.K (.ref (Z.fad f)) = true
  glb : ∀ g, Z.isc g = true → ∃ v u, mg (Z.ggl g) = some u ∧ RelV v u ∧ ∀ G as, Rp Z.toZt G as (Z.T.glb g) v
  blt : ∀ x ∈ (["len", "abs", "int", "str", "tuple", "all", "any", "min", "max", "isinstance", "list", "sorted", "range", "zip", "enumerate", "bool", "set", "dict"] : List Str), mg x = none
  isi : ∀ a t, okV Z a = true → okT Z t = true → PySem.W.kitOne Z.K (vtV Z a) (tyV Z t) = some (tyB a t)
  xrs : ∀ x, Z.xrs x = true → Z.efd x = none ∧ Z.xtv x = .ref (Z.ecl x) ∧ Z.xty x = true ∧ PySem.W.excIn Z.K (Z.ecl x) PySem.HandSPX.veTail "ValueError.__new__" = true ∧ PySem.W.keepIn Z.K (.ref (Z.ecl x)) = true ∧ PySem.W.subIn Z.K (.ref (Z.ecl x)) (.type "BaseException") = some true ∧ PySem.W.typeIn Z.K (.ref (Z.ecl x)) = some (.type "type")
  xty : ∀ t, Z.xty t = true → mg (Z.xtn t) = some (Z.xtv t) ∨ (mg (Z.xtn t) = none ∧ Z.xtn t = "ValueError" ∧ Z.xtv t = .type "ValueError")
  xsb : ∀ x t b, Z.T.xsb x t = some b → Z.xty t = true ∧ Z.efd x = none ∧ ExcC Z.K (Z.ecl x) ∧ PySem.W.kitOne Z.K (.ref (Z.ecl x)) (Z.xtv t) = some b ∧ PySem.W.subIn Z.K (.ref (Z.ecl x)) (Z.xtv t) = some b
  xct : ∀ t, Z.xty t = true → (Z.xow t = true ∧ ∃ C, Z.xtv t = .ref C ∧ PySem.W.subIn Z.K (.ref C) (.type "BaseException") = some true ∧ PySem.W.hasDictIn Z.K C = true ∧ PySem.W.typeIn Z.K (.ref C) = some (.type "type")) ∨ (Z.xow t = false ∧ Z.xtv t = .type "ValueError")
/-- what is wanted of a def's end, in the caller's state -/
def RunQ (Z : Ze) (W : WX) (cf : Cfg) (s : List S) (τ σ : L2.St) (fr : Bool) (Q : VK) (r : R D) : Prop := match r with
  | .ok d m1 => ∀ c' v H', cf.le c' → Sim Z.toZt c' s m1 τ H' → RetRel Z fr c' d v H' → Q v H'
  | .exc x p m1 => ∀ c' cls dd H', cf.le c' → Sim Z.toZt c' s m1 τ H' → XRep Z.toZt Z.ecl Z.efd c' x p cls dd H' → W cls dd σ H'
  | .bad => False
theorem keyB_one {ps : List Str} {body : List Stmt} {sc : Scope} (h : keyB ps body sc = true) : ∃ p, ps = [p] := by
  match ps, h with
  | [p], _ => exact ⟨p, rfl⟩
  | [], h => simp [keyB] at h
  | _ :: _ :: _, h => simp [keyB] at h
/-- a def that may be a key -/
def KeyD (K : PySem.W.Frag) (f : Addr) (fd : FuncData) (ps : List Str) : Prop := ∃ x qual params body scope N dvs kws, FunD K x qual params body scope dvs kws f fd ∧ FnScope N ps scope ∧ keyB ps body scope = true
/-- how a def is called: n values, keywords ks, defaults ds -/
structure FOk (Z : Ze) (C : CF) (k : Nat) (P : Program) (w : World) (mg : Str → Option Value) (base : Heap) (f n : Nat) (ks : List Str) (ds : List D) : Prop where
  ok : ∃ fd ps dvs dus, FnOk P w Z.K mg base (L2.CX P w) k (Z.fad f) fd ps (SpM Z C f) ∧ n + ks.length + ds.length = Z.pars f ∧ Vals dvs dus ∧ (∀ G as, Rps Z.toZt G as ds dvs) ∧
    ∀ (s : Shared) (us ws : List Value), Z.K.In s.heap → us.length = n → ws.length = ks.length → BindsTo s fd ⟨us, ks.zip ws⟩ (ps.zip (us ++ ws ++ dus))
  key : Z.kyf f = true → n = 1 → ks = [] → ∃ fd p, KeyD Z.K (Z.fad f) fd [p] ∧ ∀ (s : Shared) (u : Value), Z.K.In s.heap → BindsTo s fd ⟨[u], []⟩ [(p, u)]
structure Cok (Z : Ze) (C : CF) (k : Nat) (N : List Str) (X : Cx) (sc : Scope) (W : WX) : Prop where
  eK : X.K = Z.K
  eN : X.N = N
  nd : N.Nodup
  esc : X.env.scope = sc
  calm : X.calm = true
  tk : Takes X W
  room : Room (k + 7) X.A
  clen : ∀ f xs m, C f xs m = .bad ∨ xs.length = Z.pars f
  txt : Txt Z X.mg
  fns : ∀ f n ks ds, Z.pat f n ks ds = true → FOk Z C k X.prog X.w X.mg X.base f n ks ds
section
variable {Z : Ze} {C : CF} {k : Nat} {N : List Str} {X : Cx} {sc : Scope} {W : WX}
theorem vis_of {x : Str} (h : visB sc x = true) : Vis sc x := by
  unfold visB at h
  split at h <;> first | exact .inl (by assumption) | exact .inr (.inl (by assumption)) | exact .inr (.inr (by assumption)) | cases h
theorem loc_of {x : Str} (h : locB sc x = true) : Loc sc x := by
  unfold locB at h
  split at h <;> first | exact .inl (by assumption) | exact .inr (by assumption) | cases h
theorem Cok.gl (c : Cok Z C k N X sc W) {x : Str} (h : glB sc x = true) : Gl X x ∧ (x == ("__debug__" : Str)) = false ∧ x ≠ "__name__" := by
  unfold glB at h
  simp only [Bool.and_eq_true, decide_eq_true_eq, Bool.not_eq_true', decide_eq_false_iff_not] at h
  exact ⟨by show X.env.scope.names.lookup x = _; rw [c.esc]; exact h.1, h.2.1, h.2.2⟩
/-- the callee's promise, from the caller's state -/
theorem Cok.spm (c : Cok Z C k N X sc W) {f : Nat} {σ τ : L2.St} {H : Hp} {cf : Cfg} {s : List S} {m : Mu} {xs : List D} {vs : List V} {Q : VK} (S1 : Sim Z.toZt cf s m τ H) (rx : Rps Z.toZt cf.G cf.as xs vs)
    (h : RunQ Z W cf s τ σ (Z.fsh f) Q (C f xs m)) (hl : xs.length = Z.pars f) : SpM Z C f vs H Q (WE W σ) := by
    refine ⟨cf.inn H, xs, m, rfl, S1.inn, rx, ?_, hl⟩
    unfold RunQ at h
    cases e : C f xs m with
      | ok d m1 =>
        rw [e] at h
        intro c' v H' l ho S2 rr
        obtain ⟨S3, l3⟩ := S1.outM l S2
        refine h _ v H' l3 S3 ?_
        unfold RetRel at rr ⊢
        split
        · rename_i q
          rw [if_pos q] at rr
          obtain ⟨zs, rfl, a, us', rfl, h1, h2, h3, h4, h5⟩ := rr
          refine ⟨zs, rfl, a, us', rfl, h1, h2, h3, ?_, ?_⟩
          · cases q : cf.F a with
            | none => exact q
            | some o =>
              have hg := S1.gf a (by rw [q]; exact fun z => nomatch z)
              have na : a ∉ cf.as := fun z => by
                have := (S1.gn a (.inl z)).2
                rw [q] at this; cases this
              have e1 := inn_F (H := H) hg na
              rw [← l.f, h4, S1.exF a o q] at e1
              cases e1
          · rintro (t | t)
            · exact h5 (.inl t)
            · have g := S1.gn a (.inr t)
              have na : a ∉ cf.as := fun q => by
                have := S1.nd
                rw [List.nodup_append] at this
                exact this.2.2 a q a (os_mem.mpr t) rfl
              have e1 := inn_F (H := H) g.1 na
              obtain ⟨o, q⟩ := S1.trk (.inr t)
              rw [← l.f, h4, q] at e1
              cases e1
        · rename_i q
          rw [if_neg q] at rr
          exact rr
      | exc x p m1 =>
        rw [e] at h
        intro c' cls dd H' l ho S2 rr
        obtain ⟨S3, l3⟩ := S1.outM l S2
        refine h _ cls dd H' l3 S3 ?_
        unfold XRep at rr ⊢
        refine ⟨rr.1, ?_⟩
        have rr2 := rr.2
        split
        · rename_i q
          rw [q] at rr2
          exact rr2
        · rename_i g q
          rw [q] at rr2
          obtain ⟨d, v, h1, h2, h3, h4, h5, h6⟩ := rr2
          refine ⟨d, v, h1, h2, h3, h4, ?_, ?_⟩
          · cases q : cf.F d with
            | none => exact q
            | some o =>
              have hg := S1.gf d (by rw [q]; exact fun z => nomatch z)
              have na : d ∉ cf.as := fun z => by
                have := (S1.gn d (.inl z)).2
                rw [q] at this; cases this
              have e1 := inn_F (H := H) hg na
              rw [← l.f, h5, S1.exF d o q] at e1
              cases e1
          · rintro (t | t)
            · exact h6 (.inl t)
            · have g := S1.gn d (.inr t)
              have na : d ∉ cf.as := fun q => by
                have := S1.nd
                rw [List.nodup_append] at this
                exact this.2.2 d q d (os_mem.mpr t) rfl
              have e1 := inn_F (H := H) g.1 na
              obtain ⟨o, q⟩ := S1.trk (.inr t)
              rw [← l.f, h5, q] at e1
              cases e1
      | bad => rw [e] at h; exact h.elim
/-- a callee's run, from the caller's state: us positional, ws by keywords -/
theorem Cok.runA (c : Cok Z C k N X sc W) {A : Around} (hA : Room k A) (hfr : A.frames = X.A.frames) {f n : Nat} {ks : List Str} {ds : List D} (F : FOk Z C k X.prog X.w X.mg X.base f n ks ds) {pins : List (Addr × Obj)} {σ τ : L2.St} {H : Hp} {sh : Shared} {us ws : List Value} {vs zs : List V} {cf : Cfg} {s : List S} {m : Mu} {xs ys : List D} {Q : VK}
    (I : Inv X pins σ H sh) (S1 : Sim Z.toZt cf s m τ H) (r : Vals vs us) (rz : Vals zs ws) (rx : Rps Z.toZt cf.G cf.as xs vs) (ry : Rps Z.toZt cf.G cf.as ys zs) (l1 : us.length = n) (l2 : ws.length = ks.length)
    (h : RunQ Z W cf s τ σ (Z.fsh f) Q (C f (xs ++ ys ++ ds) m)) : wpAny (model X.prog X.w) A (call (.ref (Z.fad f)) us (ks.zip ws)) (EP X pins σ Q) X.xe sh := by
  have e0 : Env0 X.prog X.w X.K X.mg X.base A X.stack sh H := by
    have e := I.env0
    exact ⟨by rw [hfr]; exact e.frames, e.mod, e.bs, e.bsz, e.funs, e.frf, e.hok, e.bare⟩
  obtain ⟨fd, ps, dvs, dus, F1, hl, rd, rp, hb⟩ := F.ok
  have r2 : Vals (vs ++ zs ++ dvs) (us ++ ws ++ dus) := (r.append rz).append rd
  have kin : Z.K.In sh.heap := by rw [← c.eK]; exact I.kIn
  have F1' : FnOk X.prog X.w X.K X.mg X.base (L2.CX X.prog X.w) k (Z.fad f) fd ps (SpM Z C f) := by rw [c.eK]; exact F1
  have sp : SpM Z C f (vs ++ zs ++ dvs) H Q (WE W σ) := c.spm S1 ((rx.append ry).append (rp _ _)) h (by
    rw [List.length_append, List.length_append, rx.length, ry.length, r.length, rz.length, l1, l2]
    exact hl)
  refine wpAny_call (codeAny_mono (F1'.run A X.stack sh H ⟨us, ks.zip ws⟩ (us ++ ws ++ dus) (vs ++ zs ++ dvs) Q (WE W σ) hA e0 (hb sh us ws kin l1 l2) r2 sp) fun r s' hq => ?_)
  cases r with
  | error e => exact passAt c.tk σ pins H sh e s' I hq
  | ok fl =>
    cases fl with
    | ret u => exact I.after hq
    | next => exact False.elim hq
    | brk => exact False.elim hq
    | cont => exact False.elim hq
theorem Cok.run (c : Cok Z C k N X sc W) {f n : Nat} {ks : List Str} {ds : List D} (F : FOk Z C k X.prog X.w X.mg X.base f n ks ds) {pins : List (Addr × Obj)} {σ τ : L2.St} {H : Hp} {sh : Shared} {us ws : List Value} {vs zs : List V} {cf : Cfg} {s : List S} {m : Mu} {xs ys : List D} {Q : VK}
    (I : Inv X pins σ H sh) (S1 : Sim Z.toZt cf s m τ H) (r : Vals vs us) (rz : Vals zs ws) (rx : Rps Z.toZt cf.G cf.as xs vs) (ry : Rps Z.toZt cf.G cf.as ys zs) (l1 : us.length = n) (l2 : ws.length = ks.length)
    (h : RunQ Z W cf s τ σ (Z.fsh f) Q (C f (xs ++ ys ++ ds) m)) : wpAny (model X.prog X.w) X.A (call (.ref (Z.fad f)) us (ks.zip ws)) (EP X pins σ Q) X.xe sh :=
  c.runA (c.room.mono (by omega)) rfl F I S1 r rz rx ry l1 l2 h
end
end Pm
end
end
section
set_option Elab.async false
set_option linter.all false
set_option maxRecDepth 100000
set_option maxHeartbeats 4000000
/-! Pm7: operations, by values. -/
noncomputable section
namespace Pm
open PySem PySem.Spec L2
theorem line_lim : (100000 : Nat) ≤ sizeLine := by rw [sizeLine_eq]; decide
/-! tuple * int, small or one -/
section
open PyProof.Rows
theorem tuple_mulS (l : Addr) (items : Array Value) (n : Nat) (dd : Option Addr) (sl : Array (Option Value)) (x : Int) (u : Tok) (c0 : (decide (x < -(2 ^ 63)) || decide (x ≥ 2 ^ 63)) = false) (c1 : (items.isEmpty || x == 1) = true) :
    Meets (Builtin.«tuple.__mul__» ⟨[.ref l, .int x u], []⟩) (fun _ R s => s.heap.get? l = some { cls := .type "tuple", dict := dd, data := .seq items n, slots := sl } ∧
      R (.ok (.ret (Value.ref l))) { s with heap := s.heap, toks := s.toks }) :=
  .of_wp fun prog w A R s h => by
    obtain ⟨hp, g, d, tk, os⟩ := s
    obtain ⟨hl, h⟩ := h
    have f1 := AutoSeq1.idx_int
    wp_walk using AutoSeq1.wpAny_loadPart' hl
    repeat (first
      | (refine wpAny_ite_false (decide_eq_false (by rw [c0]; exact Bool.false_ne_true)) ?_; wp_walk using AutoSeq1.wpAny_loadPart' hl)
      | (refine wpAny_ite_true (decide_eq_true (by rw [c1])) ?_; wp_walk using AutoSeq1.wpAny_loadPart' hl))
    exact ⟨_, rfl, h⟩
theorem tuple_mul0 (l : Addr) (items : Array Value) (n : Nat) (dd : Option Addr) (sl : Array (Option Value)) (x : Int) (u : Tok) (c0 : (decide (x < -(2 ^ 63)) || decide (x ≥ 2 ^ 63)) = false) (c1 : (items.isEmpty || x == 1) = false) (c2 : (decide (x ≤ 0) || items.isEmpty) = true) :
    Meets (Builtin.«tuple.__mul__» ⟨[.ref l, .int x u], []⟩) (fun _ R s => s.heap.get? l = some { cls := .type "tuple", dict := dd, data := .seq items n, slots := sl } ∧
      R (.ok (.ret (Value.ref s.heap.objs.size))) { s with heap := s.heap.push { cls := Value.type "tuple", data := Data.seq #[] }, toks := s.toks }) :=
  .of_wp fun prog w A R s h => by
    obtain ⟨hp, g, d, tk, os⟩ := s
    obtain ⟨hl, h⟩ := h
    have f1 := AutoSeq1.idx_int
    wp_walk using AutoSeq1.wpAny_loadPart' hl
    repeat (first
      | (refine wpAny_ite_false (decide_eq_false (by rw [c0]; exact Bool.false_ne_true)) ?_; wp_walk using AutoSeq1.wpAny_loadPart' hl)
      | (refine wpAny_ite_false (decide_eq_false (by rw [c1]; exact Bool.false_ne_true)) ?_; wp_walk using AutoSeq1.wpAny_loadPart' hl)
      | (refine wpAny_ite_true (decide_eq_true (by rw [c2])) ?_; wp_walk using AutoSeq1.wpAny_loadPart' hl))
    exact ⟨_, rfl, h⟩
def rRepA (K : PySem.W.Frag) : R2 := fun x y H Q => ∃ l k xs, x = .ref l ∧ y = .int k ∧ SqT K H l xs ∧ 0 ≤ k ∧ k ≤ 1000 ∧ xs.length ≤ 1000 ∧ (xs = [] ∨ k = 1 → Q (.ref l) H) ∧ ∀ p, H p = none → Q (.ref p) (upd H p (.tup (List.replicate k.toNat xs).flatten))
theorem op_repA {X : Cx} : OpR X (binaryOp .Mult) (rRepA X.K) := by
  intro pins s σ H x y v u Q I rx ry h
  obtain ⟨l, k, xs, rfl, rfl, hT, h1, h2, hz, q1, q2⟩ := h
  by_cases big : xs ≠ [] ∧ 2 ≤ k
  · exact op_repT pins s σ H _ _ v u Q I rx ry ⟨l, k, xs, rfl, rfl, hT, big.1, big.2, h2, hz, q2⟩
  · cases rx
    obtain ⟨t, rfl⟩ := ry
    obtain ⟨its, r, ⟨⟨cls, dd, data, sl⟩, ho, hc, n, hd⟩, hs⟩ := I.tuple hT
    simp only at hc hd
    subst hc hd
    have hle : its.length = xs.length := r.length.symm
    have c0 : (decide (k < -(2 ^ 63)) || decide (k ≥ 2 ^ 63)) = false := by
      rw [decide_eq_false (by omega), decide_eq_false (by omega)] <;> rfl
    by_cases one : xs = [] ∨ k = 1
    · have c1 : (its.toArray.isEmpty || k == 1) = true := by
        rcases one with one | one
        · have : its = [] := List.eq_nil_of_length_eq_zero (by rw [hle, one]; rfl)
          rw [this]
          rfl
        · rw [one]
          simp
      refine wpAny_binaryOp_repeat_ref (T := "tuple") (U := "int") (by decide) ⟨_, ho, rfl⟩ (fun s' => typeIs_int s' k t) noFill_tuple_mul F.fills_int_mul F.slot_int_rmul repeat_tuple F.slot_int_index.lookup
        (call_meets F.slot_int_rmul (typeIs_int s k t) F.entry_int_rmul (F.args_int_rmul_2 _ _) (int_rmul_tuple k t l its.toArray n dd sl)
          ⟨ho, rfl, ⟨_, ho, rfl⟩, call_meets F.slot_tuple_mul ⟨_, ho, rfl⟩ F.entry_tuple_mul (F.args_tuple_mul_2 _ _) (tuple_mulS l its.toArray n dd sl k t c0 c1) ⟨ho, ?_⟩⟩)
      exact ⟨.ref l, H, I, rfl, q1 one⟩
    · have k0 : k = 0 := by
        have : xs ≠ [] := fun e => one (.inl e)
        have : ¬ 2 ≤ k := fun e => big ⟨this, e⟩
        have : k ≠ 1 := fun e => one (.inr e)
        omega
      subst k0
      have hn : its ≠ [] := fun e => one (.inl (List.eq_nil_of_length_eq_zero (by rw [← hle, e]; rfl)))
      have hi : its.toArray.isEmpty = false := by
        cases its with
        | nil => exact absurd rfl hn
        | cons a b => rfl
      refine wpAny_binaryOp_repeat_ref (T := "tuple") (U := "int") (by decide) ⟨_, ho, rfl⟩ (fun s' => typeIs_int s' 0 t) noFill_tuple_mul F.fills_int_mul F.slot_int_rmul repeat_tuple F.slot_int_index.lookup
        (call_meets F.slot_int_rmul (typeIs_int s 0 t) F.entry_int_rmul (F.args_int_rmul_2 _ _) (int_rmul_tuple 0 t l its.toArray n dd sl)
          ⟨ho, rfl, ⟨_, ho, rfl⟩, call_meets F.slot_tuple_mul ⟨_, ho, rfl⟩ F.entry_tuple_mul (F.args_tuple_mul_2 _ _) (tuple_mul0 l its.toArray n dd sl 0 t c0 (by rw [hi]; rfl) (by rfl)) ⟨ho, ?_⟩⟩)
      refine ⟨.ref s.heap.objs.size, _, I.laid (t' := s.toks) (o := .tup []) (fun b ob q => Heap.get?_push_of_some _ q) (Nat.le_refl _) ?_, rfl, q2 _ (I.hok.fresh (Nat.le_refl _))⟩
      exact ⟨Nat.zero_le _, [], .nil, IsTup.new _ _⟩
end
section
variable {Z : Ze} {C : CF} {k : Nat} {N : List Str} {X : Cx} {sc : Scope} {W : WX}
variable {pins : List (Addr × Obj)} {σ : L2.St} {H : Hp} {sh : Shared} {cf : Cfg} {s : List S} {m : Mu}
theorem rep_int {c : Cfg} {i : Int} {v : V} : Rep Z.toZt c s (.int i) v ↔ v = .int i := by unfold Rep Rp; exact Iff.rfl
theorem rep_bl {c : Cfg} {i : Bool} {v : V} : Rep Z.toZt c s (.bl i) v ↔ v = .bl i := by unfold Rep Rp; exact Iff.rfl
theorem rep_str {c : Cfg} {i : Str} {v : V} : Rep Z.toZt c s (.str i) v ↔ v = .str i := by unfold Rep Rp; exact Iff.rfl
theorem rep_non {c : Cfg} {v : V} : Rep Z.toZt c s .non v ↔ v = .non := by unfold Rep Rp; exact Iff.rfl
theorem rep_tupA {c : Cfg} {xs : List D} {v : V} : Rep Z.toZt c s (.tup xs) v ↔ ∃ a vs, v = .ref a ∧ TupA Z.K c.G a vs ∧ Rps Z.toZt c.G c.as xs vs := by unfold Rep; dsimp only; unfold Rp; exact Iff.rfl
theorem rep_tup.mp {c : Cfg} {xs : List D} {v : V} (h : Rep Z.toZt c s (.tup xs) v) : ∃ a vs, v = .ref a ∧ SqT Z.K c.G a vs ∧ Rps Z.toZt c.G c.as xs vs := by
  obtain ⟨a, vs, h1, h2, h3⟩ := rep_tupA.mp h
  exact ⟨a, vs, h1, h2.1, h3⟩
theorem rep_tup.mpr {c : Cfg} {xs : List D} {v : V} (h : ∃ a vs, v = .ref a ∧ TupA Z.K c.G a vs ∧ Rps Z.toZt c.G c.as xs vs) : Rep Z.toZt c s (.tup xs) v := rep_tupA.mpr h
theorem rep_lst {c : Cfg} {xs : List D} {v : V} : Rep Z.toZt c s (.lst xs) v ↔ ∃ a vs, v = .ref a ∧ c.G a = some (.lst vs) ∧ Rps Z.toZt c.G c.as xs vs := by unfold Rep; dsimp only; unfold Rp; exact Iff.rfl
theorem rep_obj {c : Cfg} {k : Nat} {xs : List D} {v : V} : Rep Z.toZt c s (.obj k xs) v ↔ ∃ a dx vs, v = .ref a ∧ c.G a = some (.ins (Z.cad k) dx (((Z.T.fld k).map Z.fnm).zip vs)) ∧ (Z.T.fld k).length = xs.length ∧ Rps Z.toZt c.G c.as xs vs := by unfold Rep; dsimp only; unfold Rp; exact Iff.rfl
/-- a new tuple is kept -/
theorem out_tup {xs : List D} {vs : List V} {Q : VK} (S1 : Sim Z.toZt cf s m σ H) (r : Rps Z.toZt cf.G cf.as xs vs) (h : Out Z W (RelD Z) cf s σ (.ok (.tup xs) m) Q) : ∀ p, H p = none → Q (.ref p) (upd H p (.tup vs)) := fun p hp => by
  obtain ⟨S2, l⟩ := S1.lay (o := .tup vs) hp
  exact h.to l S2 (rep_tup.mpr ⟨p, vs, rfl, TupA.of upd_same, r.mono l.g l.a⟩)
theorem out_lst {xs : List D} {vs : List V} {Q : VK} (S1 : Sim Z.toZt cf s m σ H) (r : Rps Z.toZt cf.G cf.as xs vs) (h : Out Z W (RelD Z) cf s σ (.ok (.lst xs) m) Q) : ∀ p, H p = none → Q (.ref p) (upd H p (.lst vs)) := fun p hp => by
  obtain ⟨S2, l⟩ := S1.lay (o := .lst vs) hp
  exact h.to l S2 (rep_lst.mpr ⟨p, vs, rfl, upd_same, r.mono l.g l.a⟩)
/-- a new list, handed on as such -/
theorem out_fre {xs : List D} {vs : List V} {Q : VK} (S1 : Sim Z.toZt cf s m σ H) (r : Rps Z.toZt cf.G cf.as xs vs) (h : Out Z W (RelF Z) cf s σ (.ok xs m) Q) : ∀ p, H p = none → Q (.ref p) (upd H p (.lst vs)) := fun p hp => by
  obtain ⟨h1, h2, h3⟩ := S1.fresh hp
  exact h.done (S1.new hp) ⟨p, vs, rfl, upd_same, r, h1, h2, h3⟩
/-- .. it becomes a datum -/
theorem fre_keep {f : List D → Mu → R D} {xs : List D} {v : V} {Q : VK} (S1 : Sim Z.toZt cf s m σ H) (r : RelF Z cf s xs v H) (h : Out Z W (RelD Z) cf s σ (.ok (.lst xs) m) Q) : Q v H := by
  obtain ⟨a, vs, rfl, h1, h2, h3, h4, h5⟩ := r
  obtain ⟨S2, l⟩ := S1.keep h1 h3 h4 h5
  exact h.to l S2 (rep_lst.mpr ⟨a, vs, rfl, upd_same, h2.mono l.g l.a⟩)
theorem ins_inst (I : Inv X pins σ H sh) {a c dx : Addr} {fs : List (Str × V)} (e : H a = some (.ins c dx fs)) : ∃ od, PySem.W.InstAt sh.heap a (PySem.W.instObj c dx) c (some od) := by
  obtain ⟨mA, J, _⟩ := ins_get I.hok e
  obtain ⟨od, J, _⟩ := J.look
  exact ⟨od, J⟩
/-- an instance's own operator -/
theorem bop_ok (c : Cok Z C k N X sc W) {o : Bop} {op : Operator} (ho : bopB o op = true) {x y : D} {vx vy : V} {v u : Value} {Q : VK} (I : Inv X pins σ H sh) (S1 : Sim Z.toZt cf s m σ H) (rx : Rep Z.toZt cf s x vx) (ry : Rep Z.toZt cf s y vy)
    (qx : RelV vx v) (qy : RelV vy u) (h : Out Z W (RelD Z) cf s σ (bopD Z.T C o x y m) Q) : wpAny (model X.prog X.w) X.A (binaryOp op v u) (EP X pins σ Q) X.xe sh := by
  unfold bopD at h
  split at h
  · -- ints
    rename_i i j
    rw [rep_int] at rx ry
    subst rx ry
    cases o <;> cases op <;> first | (cases ho; done) | skip
    · exact op_add pins sh σ H _ _ v u Q I qx qy ⟨i, j, rfl, rfl, h.done S1 (rep_int.mpr rfl)⟩
    · exact op_sub pins sh σ H _ _ v u Q I qx qy ⟨i, j, rfl, rfl, h.done S1 (rep_int.mpr rfl)⟩
    · dsimp only at h
      split at h
      · rename_i hb
        exact op_mulW pins sh σ H _ _ v u Q I qx qy ⟨i, j, rfl, rfl, hb, h.done S1 (rep_int.mpr rfl)⟩
      · exact h.elim
    · dsimp only at h
      split at h
      · rename_i hb
        exact op_fdivW pins sh σ H _ _ v u Q I qx qy ⟨i, j, rfl, rfl, hb, h.done S1 (rep_int.mpr rfl)⟩
      · exact h.elim
    · dsimp only at h
      split at h
      · rename_i hb
        exact op_mod pins sh σ H _ _ v u Q I qx qy ⟨i, j, rfl, rfl, hb, h.done S1 (rep_int.mpr rfl)⟩
      · exact h.elim
    · dsimp only at h
      split at h
      · rename_i hb
        exact op_pow pins sh σ H _ _ v u Q I qx qy ⟨i, j, rfl, rfl, hb, h.done S1 (rep_int.mpr rfl)⟩
      · exact h.elim
  · -- texts
    rename_i i j
    rw [rep_str] at rx ry
    subst rx ry
    split at h
    · rename_i hb
      obtain ⟨rfl, hb⟩ := hb
      cases op <;> first | (cases ho; done) | skip
      exact op_add_str pins sh σ H _ _ v u Q I qx qy ⟨i, j, rfl, rfl, hb, h.done S1 (rep_str.mpr rfl)⟩
    · exact h.elim
  · -- tuples
    rename_i xs ys
    split at h
    · rename_i hb
      obtain ⟨rfl, hb⟩ := hb
      cases op <;> first | (cases ho; done) | skip
      obtain ⟨a, vs, rfl, h1, h2⟩ := rep_tupA.mp rx
      obtain ⟨b, us, rfl, h3, h4⟩ := rep_tupA.mp ry
      have e1 := h2.length
      have e2 := h4.length
      have t1 : SqT X.K H a vs := by rw [c.eK]; exact S1.exG.sqT h1.1
      have t2 : SqT X.K H b us := by rw [c.eK]; exact S1.exG.sqT h3.1
      refine op_catA pins sh σ H _ _ v u Q I qx qy ⟨a, b, vs, us, rfl, rfl, t1, t2, Nat.le_trans (show vs.length + us.length ≤ 100000 by have hl : lim = 100000 := rfl; omega) line_lim, fun e => ?_, fun _ e => ?_, fun _ _ => out_tup S1 (h2.append h4) h⟩
      · subst e
        have e3 : xs = [] := List.eq_nil_of_length_eq_zero e1
        subst e3
        exact h.done S1 (rep_tup.mpr ⟨b, us, rfl, h3, h4⟩)
      · subst e
        have e3 : ys = [] := List.eq_nil_of_length_eq_zero e2
        subst e3
        rw [List.append_nil] at h
        exact h.done S1 (rep_tup.mpr ⟨a, vs, rfl, h1, h2⟩)
    · exact h.elim
  · -- instances
    rename_i k1 xs k2 ys
    split at h
    · rename_i e
      subst e
      split at h
      · rename_i f hf
        obtain ⟨a, dx, vs, rfl, h1, hl1, h2⟩ := rep_obj.mp rx
        obtain ⟨b, dy, us, rfl, h3, hl2, h4⟩ := rep_obj.mp ry
        cases qx
        cases qy
        obtain ⟨f1, f2, f3, f4⟩ := c.txt.opm _ _ _ op hf ho
        obtain ⟨od, J⟩ := ins_inst I (S1.exG _ _ h1)
        obtain ⟨od2, J2⟩ := ins_inst I (S1.exG _ _ h3)
        obtain ⟨mm, hF⟩ := I.fr
        rw [← c.eK] at f1 f2 f3
        refine PySem.W.binop_K hF I.ok.mod.kin J J2.type f1 f2 f3 ?_
        have rr : Rps Z.toZt cf.G cf.as [.obj k1 xs, .obj k1 ys] [.ref a, .ref b] := .cons ((rep_obj.mpr ⟨a, dx, vs, rfl, h1, hl1, h2⟩ : Rep Z.toZt cf s _ _).rp rfl) (.cons ((rep_obj.mpr ⟨b, dy, us, rfl, h3, hl2, h4⟩ : Rep Z.toZt cf s _ _).rp rfl) .nil)
        have q := c.run (F := c.fns _ _ _ _ f4) (us := [.ref a, .ref b]) (ws := []) (vs := [V.ref a, V.ref b]) (zs := []) (ys := []) I S1 (.cons rfl (.cons rfl .nil)) .nil rr .nil rfl rfl (Q := fun v H' => Q v H' ∧ True) ?_
        · refine wpAny_mono q (fun r s' hr => ?_) fun _ _ z => z
          obtain ⟨v', H', I', rv, q1, _⟩ := hr
          have fin : EP X pins σ Q r s' := ⟨v', H', I', rv, q1⟩
          cases v' with
          | non => cases rv; exact fin
          | bl _ => cases rv; exact fin
          | int _ => obtain ⟨t, rfl⟩ := rv; exact fin
          | str _ => obtain ⟨t, rfl⟩ := rv; exact fin
          | byt _ => obtain ⟨t, rfl⟩ := rv; exact fin
          | flt _ => obtain ⟨t, rfl⟩ := rv; exact fin
          | ref _ => cases rv; exact fin
          | ty _ => cases rv; exact fin
        · simp only [List.append_nil]
          unfold RunQ
          cases e : C f [.obj k1 xs, .obj k1 ys] m with
          | ok d m1 =>
            rw [e] at h
            intro c' v' H' l S2 rr2
            refine ⟨?_, trivial⟩
            unfold RetRel at rr2
            split at rr2
            · obtain ⟨zs, rfl, rf⟩ := rr2
              obtain ⟨a', vs', rfl, g1, g2, g3, g4, g5⟩ := rf
              exact fre_keep (f := fun _ _ => .bad) S2 (cf := c') ⟨a', vs', rfl, g1, g2, g3, g4, g5⟩ (h.mono l)
            · exact h.to l S2 (Rep.of rr2)
          | exc x p m1 =>
            rw [e] at h
            exact h
          | bad => rw [e] at h; exact h.elim
      · exact h.elim
    · exact h.elim
  · -- a tuple some times
    rename_i xs j
    split at h
    · rename_i hb
      obtain ⟨rfl, b1, b2, b3⟩ := hb
      rw [rep_int] at ry
      subst ry
      cases op <;> first | (cases ho; done) | skip
      obtain ⟨a, vs, rfl, h1, h2⟩ := rep_tupA.mp rx
      have e1 := h2.length
      have t1 : SqT X.K H a vs := by rw [c.eK]; exact S1.exG.sqT h1.1
      refine op_repA pins sh σ H _ _ v u Q I qx qy ⟨a, j, vs, rfl, rfl, t1, b1, b2, by omega, fun e => ?_, out_tup S1 (h2.flat _) h⟩
      have e2 : (List.replicate j.toNat xs).flatten = xs := by
        rcases e with e | e
        · subst e
          have e3 : xs = [] := List.eq_nil_of_length_eq_zero e1
          subst e3
          simp
        · subst e
          simp
      rw [e2] at h
      exact h.done S1 (rep_tup.mpr ⟨a, vs, rfl, h1, h2⟩)
    · exact h.elim
  · -- a list some times
    rename_i j _ _
    rw [rep_int] at ry
    subst ry
    split at h
    · rename_i xs _ hx
      obtain ⟨a, vs, rfl, h1, h2⟩ := S1.lstT rx hx
      cases op <;> first | (cases ho; done) | skip
      split at h
      · rename_i hb
        obtain ⟨b1, b2, b3⟩ := hb
        have e1 := h2.length
        have b4 : (lim : Int) = 100000 := rfl
        refine op_rep pins sh σ H _ _ v u Q I qx qy ⟨a, j, vs, rfl, rfl, h1, by omega, by omega, ?_, out_lst S1 (h2.flat _) h⟩
        rw [← e1]
        exact Nat.le_trans b3 line_lim
      · exact h.elim
    · exact h.elim
  · -- lists
    split at h
    · rename_i xs ys _ hx hy
      obtain ⟨a, vs, rfl, h1, h2⟩ := S1.lstT rx hx
      obtain ⟨b, us, rfl, h3, h4⟩ := S1.lstT ry hy
      cases op <;> first | (cases ho; done) | skip
      split at h
      · rename_i hb
        have e1 := h2.length
        have e2 := h4.length
        exact op_cat pins sh σ H _ _ v u Q I qx qy ⟨a, b, vs, us, rfl, rfl, h1, h3, Nat.le_trans (show vs.length + us.length ≤ 100000 by have hl : lim = 100000 := rfl; omega) line_lim, out_lst S1 (h2.append h4) h⟩
      · exact h.elim
    · exact h.elim
end
end Pm
end
end
section
set_option Elab.async false
set_option linter.all false
set_option maxRecDepth 100000
set_option maxHeartbeats 4000000
/-! Pm8: expressions, construct by construct. -/
noncomputable section
namespace Pm
open PySem PySem.Spec L2
section
variable {Z : Ze} {C : CF} {k : Nat}
/-- what is shown of an expression -/
def SE (Z : Ze) (C : CF) (k : Nat) (ie : IE) : Prop := ∀ {N : List Str} {X : Cx} {sc : Scope} {W : WX}, Cok Z C k N X sc W → ∀ e, chkE Z N ie sc e = true → PE X e (tE Z W (ev Z.T C ie)) ∧ PT X e (tT Z W (tru Z.T C ie))
def SEs (Z : Ze) (C : CF) (k : Nat) (ie : IEs) : Prop := ∀ {N : List Str} {X : Cx} {sc : Scope} {W : WX}, Cok Z C k N X sc W → ∀ es, chkEs Z N ie sc es = true → PA X es (tA Z W (evs Z.T C ie))
def SF (Z : Ze) (C : CF) (k : Nat) (ie : FE) : Prop := ∀ {N : List Str} {X : Cx} {sc : Scope} {W : WX}, Cok Z C k N X sc W → ∀ e, chkF Z N ie sc e = true → PE X e (tF Z W (evF Z.T C ie))
theorem chkF_star {N : List Str} {sc : Scope} {f : FE} {x : Expr} {p : Pos} : chkF Z N f sc (.Starred x p) = false := by
  cases f <;> rfl
theorem chkE_star {N : List Str} {sc : Scope} {a : IE} {x : Expr} {p : Pos} : chkE Z N a sc (.Starred x p) = false := by
  cases a <;> first | rfl | exact chkF_star
theorem star_one {e : Expr} {es : List Expr} {env : Env} (h : ∀ x p, e ≠ .Starred x p) : starEach (e :: es) env = (false, eval e env) :: starEach es env := by
  cases e <;> first | rfl | exact absurd rfl (h _ _)
theorem noStar {N : List Str} {sc : Scope} {a : IE} {e : Expr} (h : chkE Z N a sc e = true) : ∀ x p, e ≠ .Starred x p := fun x p q => by
  subst q; rw [chkE_star] at h; cases h
theorem starEs {N : List Str} {sc : Scope} {pos : Pos} {env : Env} : ∀ {as : IEs} {es : List Expr}, chkEs Z N as sc es = true → (backTo pos (starEach es env)).any (·.1) = false
  | .nil, es, h => by
    unfold chkEs at h
    rw [List.isEmpty_iff] at h
    subst h; rfl
  | .cons a r, es, h => by
    unfold chkEs at h
    split at h
    · rename_i e es
      rw [Bool.and_eq_true] at h
      rw [star_one (noStar h.1)]
      show (false || (backTo pos (starEach es env)).any (·.1)) = false
      rw [Bool.false_or]
      exact starEs h.2
    · cases h
variable {N : List Str} {X : Cx} {sc : Scope} {W : WX}
/-- truth by the abstract heap -/
theorem tru_ofK (eK : X.K = Z.K) {cf : Cfg} {s : List S} {m : Mu} {σ : L2.St} {H : Hp} (S1 : Sim Z.toZt cf s m σ H) {d : D} {v : V} {b : Bool} (r : Rep Z.toZt cf s d v) (e : truth m d = some b) : TruV X.K v H b := by
  have seq : ∀ {xs : List D} {b : Bool}, seqOf m d = some xs → b = !xs.isEmpty → TruV X.K v H b := fun {xs b} h hb => by
    obtain ⟨a, vs, rfl, hq, h2⟩ := S1.seqOf r h
    have hl := h2.length
    have he : (!xs.isEmpty) = !vs.isEmpty := by
      cases xs with
      | nil => cases vs with
        | nil => rfl
        | cons _ _ => simp at hl
      | cons _ _ => cases vs with
        | nil => simp at hl
        | cons _ _ => rfl
    show (∃ xs, SqL X.K H a xs ∧ b = !xs.isEmpty) ∨ (∃ xs, SqT X.K H a xs ∧ b = !xs.isEmpty) ∨ ∃ kvs, H a = some (.dK kvs) ∧ b = !kvs.isEmpty
    rw [eK]
    rcases hq with hq | hq
    · exact .inl ⟨vs, hq, by rw [hb, he]⟩
    · exact .inr (.inl ⟨vs, hq, by rw [hb, he]⟩)
  have seq2 : (seqOf m d).map (fun xs => !xs.isEmpty) = some b → TruV X.K v H b := fun h => by
    cases q : seqOf m d with
    | none => rw [q] at h; cases h
    | some xs =>
      rw [q] at h
      exact seq q (Option.some.inj h).symm
  cases d with
  | non => rw [rep_non] at r; subst r; cases e; rfl
  | bl x => rw [rep_bl] at r; subst r; cases e; rfl
  | int i => rw [rep_int] at r; subst r; cases e; rfl
  | str x =>
    rw [rep_str] at r; subst r
    simp only [truth] at e
    split at e
    · rename_i hz
      refine ⟨hz, ?_⟩
      rw [← Option.some.inj e]
      cases q : x.length with
      | zero => rfl
      | succ n =>
        have h1 : ((n + 1 : Nat) : Int) ≠ 0 := by omega
        have h2 : n + 1 ≠ 0 := by omega
        rw [show (n + 1 != 0) = true from bne_iff_ne.mpr h2, show (((n + 1 : Nat) : Int) != 0) = true from bne_iff_ne.mpr h1]
    · cases e
  | tup xs => exact seq2 e
  | lst xs => exact seq2 e
  | bor xs => exact seq2 e
  | scr xs => exact seq2 e
  | ref k => exact seq2 e
  | obj k xs => exact seq2 e
theorem tru_of (c : Cok Z C k N X sc W) {cf : Cfg} {s : List S} {m : Mu} {σ : L2.St} {H : Hp} (S1 : Sim Z.toZt cf s m σ H) {d : D} {v : V} {b : Bool} (r : Rep Z.toZt cf s d v) (e : truth m d = some b) : TruV X.K v H b := tru_ofK c.eK S1 r e
/-- a test by its value -/
theorem test_of (c : Cok Z C k N X sc W) {ie : IE} {e : Expr} (h : PE X e (tE Z W (ev Z.T C ie))) (he : ∀ whole, isTrue e X.env whole = (do let v ← whole; standAt e.pos; holding [v] (truthy v))) : PT X e (tT Z W (tru Z.T C ie)) := by
  refine PT.of (pt_truth h he) fun σ H Q q => ?_
  obtain ⟨cf, s, m, S1, o⟩ := q
  unfold tru at o
  refine ⟨cf, s, m, S1, o.bind fun d m1 c1 v H1 l S2 r o2 => ?_⟩
  cases t : truth m1 d with
  | none => rw [t] at o2; exact o2.elim
  | some b =>
    rw [t] at o2
    exact ⟨b, tru_of c S2 r t, o2.done S2 rfl⟩
theorem case_var {i : Nat} : SE Z C k (.var i) := by
  intro N X sc W c e h
  unfold chkE at h
  split at h
  · rename_i x p
    simp only [Bool.and_eq_true, decide_eq_true_eq] at h
    obtain ⟨h1, h2, h3⟩ := h
    have hp : PE X (.Name x p) (tE Z W (ev Z.T C (.var i))) := by
      unfold dbgB at h3
      simp only [Bool.and_eq_true, Bool.not_eq_true'] at h3
      refine PE.of (pe_var (i := i) (by rw [c.eN]; exact h1) (by rw [c.esc]; exact vis_of h2) h3.1 h3.2) fun σ H Q q => ?_
      obtain ⟨cf, s, m, S1, o⟩ := q
      simp only [ev] at o
      split at o
      · rename_i d hd
        have q := S1.slot i _ hd
        obtain ⟨_, v, q1, q2⟩ := q
        exact ⟨v, q1, o.done S1 (Rep.of q2)⟩
      · rename_i xs hd
        have q := S1.slot i _ hd
        obtain ⟨a, q1, q2, q3⟩ := q
        exact ⟨.ref a, q2, o.done S1 ⟨i, a, hd, q1, rfl⟩⟩
      · exact o.elim
    exact ⟨hp, test_of c hp fun _ => rfl⟩
  · cases h
theorem case_con {d : D} : SE Z C k (.con d) := by
  intro N X sc W c e h
  unfold chkE at h
  split at h
  · rename_i cc j p
    have hp : PE X (.Constant cc j p) (tE Z W (ev Z.T C (.con d))) := by
      split at h
      · rename_i i i'
        have e : i = i' := by simpa using h
        subst e
        refine PE.of pe_int fun σ H Q q => ?_
        obtain ⟨cf, s, m, S1, o⟩ := q
        exact Out.done (show Out Z W (RelD Z) cf s σ (.ok (.int i) m) Q from o) S1 (rep_int.mpr rfl)
      · rename_i i i'
        have e : i = i' := by simpa using h
        subst e
        refine PE.of pe_bl fun σ H Q q => ?_
        obtain ⟨cf, s, m, S1, o⟩ := q
        exact Out.done (show Out Z W (RelD Z) cf s σ (.ok (.bl i) m) Q from o) S1 (rep_bl.mpr rfl)
      · rename_i i i'
        have e : i = i' := by simpa using h
        subst e
        refine PE.of pe_str fun σ H Q q => ?_
        obtain ⟨cf, s, m, S1, o⟩ := q
        exact Out.done (show Out Z W (RelD Z) cf s σ (.ok (.str i) m) Q from o) S1 (rep_str.mpr rfl)
      · refine PE.of pe_non fun σ H Q q => ?_
        obtain ⟨cf, s, m, S1, o⟩ := q
        exact Out.done (show Out Z W (RelD Z) cf s σ (.ok .non m) Q from o) S1 (rep_non.mpr rfl)
      · cases h
    exact ⟨hp, test_of c hp fun _ => rfl⟩
  · cases h
theorem case_glb {g : Nat} : SE Z C k (.glb g) := by
  intro N X sc W c e h
  unfold chkE at h
  split at h
  · rename_i x p
    simp only [Bool.and_eq_true, decide_eq_true_eq] at h
    obtain ⟨h0, h1, h2⟩ := h
    subst h1
    obtain ⟨g1, g2, g3⟩ := c.gl h2
    obtain ⟨v, u, e1, e2, e3⟩ := c.txt.glb g h0
    have hp : PE X (.Name (Z.ggl g) p) (tE Z W (ev Z.T C (.glb g))) := by
      refine PE.of (pe_glob g1 e1 e2 g2) fun σ H Q q => ?_
      obtain ⟨cf, s, m, S1, o⟩ := q
      exact Out.done (show Out Z W (RelD Z) cf s σ (.ok (Z.T.glb g) m) Q from o) S1 (Rep.of (e3 _ _))
    exact ⟨hp, test_of c hp fun _ => rfl⟩
  · cases h
theorem case_bop {o : Bop} {a b : IE} (ha : SE Z C k a) (hb : SE Z C k b) : SE Z C k (.bop o a b) := by
  intro N X sc W c e h
  unfold chkE at h
  split at h
  · rename_i l op r p
    simp only [Bool.and_eq_true] at h
    obtain ⟨h1, h2, h3⟩ := h
    have hp : PE X (.BinOp l op r p) (tE Z W (ev Z.T C (.bop o a b))) := by
      refine ⟨fun pins sh σ H Q I q => ?_⟩
      obtain ⟨cf, s, m, S1, q⟩ := q
      simp only [ev] at q
      refine wpAny_BinOp (thn ((ha c l h2).1.run pins sh σ H (fun vx H1 => ∃ c1 m1 x, Sim Z.toZt c1 s m1 σ H1 ∧ Rep Z.toZt c1 s x vx ∧ Out Z W (RelD Z) c1 s σ ((ev Z.T C b s m1).bind fun y m2 => bopD Z.T C o x y m2) Q) I ⟨cf, s, m, S1, q.bind fun d m1 c1 v H1 l S2 r o2 => ⟨c1, m1, d, S2, r, o2⟩⟩) fun v s1 ⟨vx, H1, I1, r1, c1, m1, x, S2, rx, q2⟩ => ?_)
      refine thn ((hb c r h3).1.run pins s1 σ H1 (fun vy H2 => ∃ c2 m2 y, c1.le c2 ∧ Sim Z.toZt c2 s m2 σ H2 ∧ Rep Z.toZt c2 s y vy ∧ Out Z W (RelD Z) c2 s σ (bopD Z.T C o x y m2) Q) I1 ⟨c1, s, m1, S2, q2.bind fun d m1 c1 v H1 l S2 r o2 => ⟨c1, m1, d, l, S2, r, o2⟩⟩) fun u s2 ⟨vy, H2, I2, r2, c2, m2, y, l2, S3, ry, q3⟩ => ?_
      exact bop_ok c h1 I2 S3 (rx.mono l2) ry r1 r2 q3
    exact ⟨hp, test_of c hp fun _ => rfl⟩
  · cases h
theorem case_neg {a : IE} (ha : SE Z C k a) : SE Z C k (.neg a) := by
  intro N X sc W c e h
  unfold chkE at h
  split at h
  · rename_i x p
    have hp : PE X (.UnaryOp .USub x p) (tE Z W (ev Z.T C (.neg a))) := by
      refine PE.of (pe_un un_neg (ha c x h).1) fun σ H Q q => ?_
      obtain ⟨cf, s, m, S1, o⟩ := q
      simp only [ev] at o
      refine ⟨cf, s, m, S1, o.bind fun d m1 c1 v H1 l S2 r o2 => ?_⟩
      split at o2
      · rename_i i
        have r : v = .int i := rep_int.mp r
        subst r
        exact ⟨i, rfl, o2.done S2 (rep_int.mpr rfl)⟩
      · exact o2.elim
    exact ⟨hp, test_of c hp fun _ => rfl⟩
  · cases h
theorem case_not {a : IE} (ha : SE Z C k a) : SE Z C k (.not_ a) := by
  intro N X sc W c e h
  unfold chkE at h
  split at h
  · rename_i x p
    refine ⟨PE.of (pe_notT (ha c x h).1) fun σ H Q q => ?_, PT.of (pt_not (ha c x h).2) fun σ H Q q => ?_⟩
    · obtain ⟨cf, s, m, S1, o⟩ := q
      simp only [ev] at o
      refine ⟨cf, s, m, S1, o.bind fun d m1 c1 v H1 l S2 r o2 => ?_⟩
      cases t : truth m1 d with
      | none => rw [t] at o2; exact o2.elim
      | some b =>
        rw [t] at o2
        exact ⟨b, tru_of c S2 r t, o2.done S2 (rep_bl.mpr rfl)⟩
    · obtain ⟨cf, s, m, S1, o⟩ := q
      have o' : Out Z W (RelB Z) cf s σ ((tru Z.T C a s m).bind fun b m1 => .ok (!b) m1) Q := by
        unfold tru at o ⊢
        simp only [ev] at o
        cases e : ev Z.T C a s m with
        | ok d m1 =>
          rw [e] at o
          simp only [R.bind_ok] at o ⊢
          cases t : truth m1 d with
          | none => rw [t] at o; exact o
          | some b => rw [t] at o; exact o
        | exc x p m1 => rw [e] at o; exact o
        | bad => rw [e] at o; exact o
      refine ⟨cf, s, m, S1, o'.bind fun b m1 c1 b' H1 l S2 r o2 => ?_⟩
      subst r
      exact o2.done S2 rfl
  · cases h
theorem case_ite {t a b : IE} (ht : SE Z C k t) (ha : SE Z C k a) (hb : SE Z C k b) : SE Z C k (.ite t a b) := by
  intro N X sc W c e h
  unfold chkE at h
  split at h
  · rename_i x y z p
    simp only [Bool.and_eq_true] at h
    obtain ⟨h1, h2, h3⟩ := h
    have main : ∀ {α β : Type} {Rel : Cfg → List S → α → β → Hp → Prop} {f : D → Mu → R α} {cf : Cfg} {s : List S} {m : Mu} {σ : L2.St} {Q : β → Hp → Prop}, Out Z W Rel cf s σ ((ev Z.T C (.ite t a b) s m).bind f) Q →
        Out Z W Rel cf s σ ((tru Z.T C t s m).bind fun k m1 => if k = true then (ev Z.T C a s m1).bind f else (ev Z.T C b s m1).bind f) Q := fun {α β Rel f cf s m σ Q} o => by
      simp only [ev] at o
      unfold tru
      cases e : ev Z.T C t s m with
      | ok d m1 =>
        rw [e] at o
        simp only [R.bind_ok] at o ⊢
        cases t : truth m1 d with
        | none => rw [t] at o; exact o
        | some b => rw [t] at o; cases b <;> exact o
      | exc x p m1 => rw [e] at o; exact o
      | bad => rw [e] at o; exact o
    have hp : PE X (.IfExp x y z p) (tE Z W (ev Z.T C (.ite t a b))) := by
      refine PE.of (pe_ifExp (ht c x h1).2 (ha c y h2).1 (hb c z h3).1) fun σ H Q q => ?_
      obtain ⟨cf, s, m, S1, o⟩ := q
      have o' := main (f := fun d m => .ok d m) (by
        cases e : ev Z.T C (.ite t a b) s m <;> (rw [e] at o; exact o))
      refine ⟨cf, s, m, S1, o'.bind fun b m1 c1 b' H1 l S2 r o2 => ?_⟩
      subst r
      cases b' with
      | true =>
        rw [if_pos rfl] at o2 ⊢
        exact ⟨c1, s, m1, S2, o2.bind fun d m2 c2 v H2 l2 S3 r o3 => o3.done S3 r⟩
      | false =>
        rw [if_neg Bool.false_ne_true] at o2 ⊢
        exact ⟨c1, s, m1, S2, o2.bind fun d m2 c2 v H2 l2 S3 r o3 => o3.done S3 r⟩
    refine ⟨hp, ⟨fun pins sh σ H Q I q => ?_⟩⟩
    obtain ⟨cf, s, m, S1, o⟩ := q
    unfold tru at o
    have o' := main o
    show wpAny _ _ (do if ← isTrue x X.env (eval x X.env) then isTrue y X.env (eval y X.env) else isTrue z X.env (eval z X.env)) _ _ _
    refine wpAny_bind (thn ((ht c x h1).2.run pins sh σ H (fun kb H1 => ∃ c1 m1, Sim Z.toZt c1 s m1 σ H1 ∧ Out Z W (RelB Z) c1 s σ (if kb = true then tru Z.T C a s m1 else tru Z.T C b s m1) Q) I ⟨cf, s, m, S1, o'.bind fun kb m1 c1 b' H1 l S2 r o2 => ⟨c1, m1, S2, by subst r; exact o2⟩⟩) fun kb s1 ⟨H1, I1, c1, m1, S2, q2⟩ => ?_)
    cases kb with
    | true =>
      rw [if_pos rfl]
      exact (ha c y h2).2.run pins s1 σ H1 Q I1 ⟨c1, s, m1, S2, q2⟩
    | false =>
      rw [if_neg Bool.false_ne_true]
      exact (hb c z h3).2.run pins s1 σ H1 Q I1 ⟨c1, s, m1, S2, q2⟩
  · cases h
end
end Pm
end
end
section
set_option Elab.async false
set_option linter.all false
set_option maxRecDepth 100000
set_option maxHeartbeats 4000000
/-! Pm9: comparisons (equality by a hypothesis), attributes, subscripts, displays. -/
noncomputable section
namespace Pm
open PySem PySem.Spec L2
/-- equality, as Pm10 shows it -/
structure EqHyp (Z : Ze) (C : CF) (X : Cx) : Prop where
  eq : ∀ {pins : List (Addr × Obj)} {σ τ : L2.St} {H : Hp} {sh : Shared} {cf : Cfg} {s : List S} {m : Mu} {x y : D} {vx vy : V} {v u : Value} {b : Bool} {Q : VK}, Inv X pins σ H sh → Sim Z.toZt cf s m τ H → Rep Z.toZt cf s x vx → Rep Z.toZt cf s y vy → RelV vx v → RelV vy u →
    eqD Z.T C m x y = some b → (∀ cf' H', cf.le cf' → Sim Z.toZt cf' s m τ H' → Q (.bl b) H') → wpAny (model X.prog X.w) X.A (compareOp .Eq v u) (EP X pins σ Q) X.xe sh
  ne : ∀ {pins : List (Addr × Obj)} {σ τ : L2.St} {H : Hp} {sh : Shared} {cf : Cfg} {s : List S} {m : Mu} {x y : D} {vx vy : V} {v u : Value} {b : Bool} {Q : VK}, Inv X pins σ H sh → Sim Z.toZt cf s m τ H → Rep Z.toZt cf s x vx → Rep Z.toZt cf s y vy → RelV vx v → RelV vy u →
    neT (neD m x y) (neO Z.T C m x y) = some b → (∀ cf' H', cf.le cf' → Sim Z.toZt cf' s m τ H' → Q (.bl b) H') → wpAny (model X.prog X.w) X.A (compareOp .NotEq v u) (EP X pins σ Q) X.xe sh
  isin : ∀ {pins : List (Addr × Obj)} {σ τ : L2.St} {H : Hp} {sh : Shared} {cf : Cfg} {s : List S} {m : Mu} {x y : D} {vx vy : V} {v u : Value} {b neg : Bool} {Q : VK}, Inv X pins σ H sh → Sim Z.toZt cf s m τ H → Rep Z.toZt cf s x vx → Rep Z.toZt cf s y vy → RelV vx v → RelV vy u →
    (∀ z, y ≠ .str z) → inD m x y = some b → Q (.bl (neg ^^ b)) H → wpAny (model X.prog X.w) X.A (compareOp (if neg then .NotIn else .In) v u) (EP X pins σ Q) X.xe sh
  lt : ∀ {pins : List (Addr × Obj)} {σ τ : L2.St} {H : Hp} {sh : Shared} {cf : Cfg} {s : List S} {m : Mu} {x y : D} {vx vy : V} {v u : Value} {Q : VK}, Inv X pins σ H sh → Sim Z.toZt cf s m τ H → Rep Z.toZt cf s x vx → Rep Z.toZt cf s y vy → RelV vx v → RelV vy u →
    flp x = true → flp y = true → PySem.W.alike (pd x) (pd y) = true → (∃ xs, x = .tup xs) → Q (.bl (PySem.W.dataLt (pd x) (pd y))) H → wpAny (model X.prog X.w) X.A (compareOp .Lt v u) (EP X pins σ Q) X.xe sh
abbrev EqAll (Z : Ze) (C : CF) (k : Nat) : Prop := ∀ {N : List Str} {X : Cx} {sc : Scope} {W : WX}, Cok Z C k N X sc W → EqHyp Z C X
section
variable {Z : Ze} {C : CF} {k : Nat} {N : List Str} {X : Cx} {sc : Scope} {W : WX}
variable {pins : List (Addr × Obj)} {σ τ : L2.St} {H : Hp} {sh : Shared} {cf : Cfg} {s : List S} {m : Mu}
theorem ints_vals {G : Hp} {as : List Addr} : ∀ {xs : List D} {ns : List Int} {vs : List V}, intsOf xs = some ns → Rps Z.toZt G as xs vs → vs = ns.map V.int
  | [], ns, vs, h, r => by
    cases h
    exact r.nil_inv
  | x :: xs, ns, vs, h, r => by
    obtain ⟨v, t, rfl, r1, r2⟩ := r.cons_inv
    cases x with
    | int i =>
      unfold intsOf at h
      cases q : intsOf xs with
      | none => rw [q] at h; cases h
      | some ms =>
        rw [q] at h
        cases h
        unfold Rp at r1
        rw [r1, ints_vals q r2]
        rfl
    | _ => cases h
theorem isNon_of {x : D} {v : V} (r : Rep Z.toZt cf s x v) : isNon x = decide (v = .non) := by
  cases x with
  | non => rw [rep_non] at r; subst r; rfl
  | bl _ => rw [rep_bl] at r; subst r; rfl
  | int _ => rw [rep_int] at r; subst r; rfl
  | str _ => rw [rep_str] at r; subst r; rfl
  | tup _ => obtain ⟨a, vs, rfl, _⟩ := rep_tup.mp r; rfl
  | lst _ => obtain ⟨a, vs, rfl, _⟩ := rep_lst.mp r; rfl
  | obj _ _ => obtain ⟨a, dx, vs, rfl, _⟩ := rep_obj.mp r; rfl
  | ref _ => unfold Rep Rp at r; obtain ⟨a, _, rfl⟩ := r; rfl
  | bor _ => obtain ⟨i, a, _, _, rfl⟩ := r; rfl
  | scr _ => unfold Rep at r; dsimp only at r; unfold Rp at r; obtain ⟨a, vs, rfl, _⟩ := r; rfl
/-- a comparison by values -/
theorem cmp_ok (c : Cok Z C k N X sc W) (E : EqHyp Z C X) {o : Cop} {op : CmpOp} (ho : copB o op = true) {x y : D} {vx vy : V} {v u : Value} {b : Bool} {Q : VK} (I : Inv X pins σ H sh) (S1 : Sim Z.toZt cf s m τ H) (rx : Rep Z.toZt cf s x vx) (ry : Rep Z.toZt cf s y vy)
    (qx : RelV vx v) (qy : RelV vy u) (h : cmpD Z.T C o x y m = some b) (q : ∀ cf' H', cf.le cf' → Sim Z.toZt cf' s m τ H' → Q (.bl b) H') : wpAny (model X.prog X.w) X.A (compareOp op v u) (EP X pins σ Q) X.xe sh := by
  have q0 : Q (.bl b) H := q cf H Cfg.le.rfl' S1
  have inc : ∀ {b' neg : Bool}, inD m x y = some b' → (b = (neg ^^ b')) → (if neg = true then CmpOp.NotIn else CmpOp.In) = op → wpAny (model X.prog X.w) X.A (compareOp op v u) (EP X pins σ Q) X.xe sh := fun {b' neg} e hb hop => by
    subst hop
    subst hb
    cases y with
    | str b2 =>
      cases x with
      | str a2 =>
        rw [rep_str] at rx ry
        subst rx ry
        have e' : b' = !(Builtin.Str.occurrences b2 a2 0 b2.length 1).isEmpty := (Option.some.inj e).symm
        subst e'
        cases neg with
        | true => exact op_notin_str pins sh σ H _ _ v u Q I qx qy ⟨a2, b2, rfl, rfl, by simpa using q0⟩
        | false => exact op_in_str pins sh σ H _ _ v u Q I qx qy ⟨a2, b2, rfl, rfl, by simpa using q0⟩
      | _ => cases e
    | _ => exact E.isin I S1 rx ry qx qy (fun z => by simp) e q0
  have two : ∀ {i j : Int}, x = .int i → y = .int j → vx = .int i ∧ vy = .int j := fun hx hy => by
    subst hx hy
    exact ⟨rep_int.mp rx, rep_int.mp ry⟩
  cases o <;> cases op <;> first | (cases ho; done) | skip
  · exact E.eq I S1 rx ry qx qy h q
  · exact E.ne I S1 rx ry qx qy h q
  · -- lt
    have h' : ltD x y = some b := h
    unfold ltD at h'
    split at h'
    · rename_i i j
      cases h'
      obtain ⟨rfl, rfl⟩ := two rfl rfl
      exact op_lt pins sh σ H _ _ v u Q I qx qy ⟨i, j, rfl, rfl, q0⟩
    · rename_i xs ys
      split at h'
      · rename_i ns ms e1 e2
        cases h'
        obtain ⟨a, vs, rfl, h1, h2⟩ := rep_tup.mp rx
        obtain ⟨b, us, rfl, h3, h4⟩ := rep_tup.mp ry
        have z1 := ints_vals e1 h2
        have z2 := ints_vals e2 h4
        subst z1 z2
        exact op_ltT c.room.units0 pins sh σ H _ _ v u Q I qx qy ⟨a, b, ns, ms, rfl, rfl, by rw [c.eK]; exact S1.exG.sqT h1, by rw [c.eK]; exact S1.exG.sqT h3, q0⟩
      · split at h'
        · rename_i hc
          simp only [Bool.and_eq_true] at hc
          cases h'
          exact E.lt I S1 rx ry qx qy hc.1.1 hc.1.2 hc.2 ⟨_, rfl⟩ q0
        · cases h'
    · cases h'
  · have h' : leD x y = some b := h
    unfold leD at h'
    split at h'
    · rename_i i j
      cases h'
      obtain ⟨rfl, rfl⟩ := two rfl rfl
      exact op_le pins sh σ H _ _ v u Q I qx qy ⟨i, j, rfl, rfl, q0⟩
    · cases h'
  · have h' : gtD x y = some b := h
    unfold gtD at h'
    split at h'
    · rename_i i j
      cases h'
      obtain ⟨rfl, rfl⟩ := two rfl rfl
      exact op_gt pins sh σ H _ _ v u Q I qx qy ⟨i, j, rfl, rfl, q0⟩
    · cases h'
  · have h' : leD y x = some b := h
    unfold leD at h'
    split at h'
    · rename_i i j
      cases h'
      obtain ⟨rfl, rfl⟩ := two rfl rfl
      exact op_ge pins sh σ H _ _ v u Q I qx qy ⟨j, i, rfl, rfl, q0⟩
    · cases h'
  · exact inc (neg := false) h (by simp) rfl
  · have h' : (inD m x y).map (!·) = some b := h
    cases w : inD m x y with
    | none => rw [w] at h'; cases h'
    | some b' =>
      rw [w] at h'
      cases h'
      exact inc (neg := true) w (by simp) rfl
  · have h' : (if isNon y then some (isNon x) else none) = some b := h
    split at h'
    · rename_i hy
      cases h'
      have e1 : vy = .non := by
        rw [isNon_of ry] at hy
        exact of_decide_eq_true hy
      rw [isNon_of rx] at q0
      exact op_isN pins sh σ H _ _ v u Q I qx qy ⟨e1, q0⟩
    · cases h'
  · have h' : (if isNon y then some (!isNon x) else none) = some b := h
    split at h'
    · rename_i hy
      cases h'
      have e1 : vy = .non := by
        rw [isNon_of ry] at hy
        exact of_decide_eq_true hy
      rw [isNon_of rx] at q0
      exact op_notN pins sh σ H _ _ v u Q I qx qy ⟨e1, q0⟩
    · cases h'
end
end Pm
end
end
section
set_option Elab.async false
set_option linter.all false
set_option maxRecDepth 100000
set_option maxHeartbeats 4000000
/-! Pm10: comparisons, and, or, attributes, subscripts, displays as expressions. -/
noncomputable section
namespace Pm
open PySem PySem.Spec L2
section
variable {Z : Ze} {C : CF} {k : Nat} {N : List Str} {X : Cx} {sc : Scope} {W : WX}
theorem chkF_set {N : List Str} {sc : Scope} {f : FE} {es : List Expr} {q : Nat} {p : Pos} : chkF Z N f sc (.Set es q p) = false := by
  cases f <;> rfl
theorem chkE_set {N : List Str} {sc : Scope} {a : IE} {es : List Expr} {q : Nat} {p : Pos} : chkE Z N a sc (.Set es q p) = false := by
  cases a <;> first | rfl | exact chkF_set
theorem nomark_of {N : List Str} {sc : Scope} {a : IE} {e : Expr} {op : CmpOp} (h : chkE Z N a sc e = true) : behindInMarks op e = false := by
  cases e <;> first | rfl | (rw [chkE_set] at h; cases h)
/-- a comparison's rule -/
def rCmp (Z : Ze) (C : CF) (o : Cop) : R2 := fun vx vy H Q => ∃ cf s m τ x y b, Sim Z.toZt cf s m τ H ∧ Rep Z.toZt cf s x vx ∧ Rep Z.toZt cf s y vy ∧ cmpD Z.T C o x y m = some b ∧ ∀ cf' H', cf.le cf' → Sim Z.toZt cf' s m τ H' → Q (.bl b) H'
theorem op_cmp (c : Cok Z C k N X sc W) (E : EqHyp Z C X) {o : Cop} {op : CmpOp} (ho : copB o op = true) : OpR X (compareOp op) (rCmp Z C o) := by
  intro pins sh σ H vx vy v u Q I qx qy h
  obtain ⟨cf, s, m, τ, x, y, b, S1, rx, ry, e, q⟩ := h
  exact cmp_ok c E ho I S1 rx ry qx qy e q
/-- a truth value's test -/
theorem out_tru {ie : IE} {cf : Cfg} {s : List S} {m : Mu} {σ : L2.St} {Q : Bool → Hp → Prop} (o : Out Z W (RelB Z) cf s σ (tru Z.T C ie s m) Q) (hb : ∀ d m', ev Z.T C ie s m = .ok d m' → ∃ b, d = .bl b) :
    Out Z W (RelD Z) cf s σ (ev Z.T C ie s m) (fun x H1 => ∃ k, x = .bl k ∧ Q k H1) := by
  unfold tru at o
  cases e : ev Z.T C ie s m with
  | ok d m1 =>
    rw [e] at o
    obtain ⟨b, rfl⟩ := hb d m1 e
    intro c1 v H1 l S1 r
    exact ⟨b, rep_bl.mp r, Out.to (show Out Z W (RelB Z) cf s σ (.ok b m1) Q from o) l S1 rfl⟩
  | exc x p m1 => rw [e] at o; exact o
  | bad => rw [e] at o; exact o
theorem ofB_ok {b : Option Bool} {m m' : Mu} {d : D} (h : R.ofB b m = .ok d m') : ∃ b', d = .bl b' := by
  cases b with
  | none => cases h
  | some b => cases h; exact ⟨b, rfl⟩
theorem bind_ok_inv {α β : Type} {r : R α} {f : α → Mu → R β} {b : β} {m : Mu} (h : r.bind f = .ok b m) : ∃ a m1, r = .ok a m1 ∧ f a m1 = .ok b m := by
  cases r with
  | ok a m1 => exact ⟨a, m1, rfl, h⟩
  | exc x p m1 => cases h
  | bad => cases h
theorem case_cmp (EA : EqAll Z C k) {o : Cop} {a b : IE} (ha : SE Z C k a) (hb : SE Z C k b) : SE Z C k (.cmp o a b) := by
  intro N X sc W c e h
  unfold chkE at h
  split at h
  · rename_i l op r p
    simp only [Bool.and_eq_true] at h
    obtain ⟨h1, ⟨h2, h3⟩, h4⟩ := h
    have red : ∀ {σ : L2.St} {H : Hp} {Q : VK} {cf : Cfg} {s : List S} {m : Mu}, Sim Z.toZt cf s m σ H → Out Z W (RelD Z) cf s σ (ev Z.T C (.cmp o a b) s m) Q → tOp (rCmp Z C o) (tE Z W (ev Z.T C a)) (tE Z W (ev Z.T C b)) σ H Q := fun {σ H Q cf s m} S1 q => by
      simp only [ev] at q
      refine ⟨cf, s, m, S1, q.bind fun x m1 c1 vx H1 l1 S2 rx q2 => ⟨c1, s, m1, S2, q2.bind fun y m2 c2 vy H2 l2 S3 ry q3 => ?_⟩⟩
      cases w : cmpD Z.T C o x y m2 with
      | none => rw [w] at q3; exact q3.elim
      | some b =>
        rw [w] at q3
        exact ⟨c2, s, m2, σ, x, y, b, S3, rx.mono l2, ry, w, fun cf' H' l S' => Out.to (show Out Z W (RelD Z) c2 s σ (.ok (.bl b) m2) Q from q3) l S' (rep_bl.mpr rfl)⟩
    refine ⟨PE.of (pe_cmpR (op_cmp c (EA c) h1) (ha c l h2).1 (hb c r h3).1 (nomark_of h3)) fun σ H Q q => ?_, PT.of (pt_cmpR (op_cmp c (EA c) h1) (ha c l h2).1 (hb c r h3).1 (nomark_of h3)) fun σ H Q q => ?_⟩
    · obtain ⟨cf, s, m, S1, q⟩ := q
      exact red S1 q
    · obtain ⟨cf, s, m, S1, q⟩ := q
      refine red S1 (out_tru q fun d m' e => ?_)
      simp only [ev] at e
      obtain ⟨x, m1, _, e⟩ := bind_ok_inv e
      obtain ⟨y, m2, _, e⟩ := bind_ok_inv e
      exact ofB_ok e
  · cases h
theorem case_chn (EA : EqAll Z C k) {o p : Cop} {a b d : IE} (ha : SE Z C k a) (hb : SE Z C k b) (hd : SE Z C k d) : SE Z C k (.chn o p a b d) := by
  intro N X sc W c e h
  unfold chkE at h
  split at h
  · rename_i l op op2 r r2 ps
    simp only [Bool.and_eq_true] at h
    obtain ⟨⟨h1, h1'⟩, h2, h3, h4⟩ := h
    have red : ∀ {σ : L2.St} {H : Hp} {Q : VK} {cf : Cfg} {s : List S} {m : Mu}, Sim Z.toZt cf s m σ H → Out Z W (RelD Z) cf s σ (ev Z.T C (.chn o p a b d) s m) Q → tChain (rCmp Z C o) (rCmp Z C p) (tE Z W (ev Z.T C a)) (tE Z W (ev Z.T C b)) (tE Z W (ev Z.T C d)) σ H Q := fun {σ H Q cf s m} S1 q => by
      simp only [ev] at q
      refine ⟨cf, s, m, S1, q.bind fun x m1 c1 vx H1 l1 S2 rx q2 => ⟨c1, s, m1, S2, q2.bind fun y m2 c2 vy H2 l2 S3 ry q3 => ?_⟩⟩
      cases w : cmpD Z.T C o x y m2 with
      | none => rw [w] at q3; exact q3.elim
      | some b =>
        rw [w] at q3
        refine ⟨c2, s, m2, σ, x, y, b, S3, rx.mono l2, ry, w, fun cf' H' l S' => ⟨b, rfl, ?_⟩⟩
        cases b with
        | false =>
          rw [if_neg Bool.false_ne_true]
          exact Out.to (show Out Z W (RelD Z) c2 s σ (.ok (.bl false) m2) Q from q3) l S' (rep_bl.mpr rfl)
        | true =>
          rw [if_pos rfl]
          refine ⟨cf', s, m2, S', (Out.mono l q3).bind fun z m3 c3 vz H3 l3 S4 rz q4 => ?_⟩
          cases w2 : cmpD Z.T C p y z m3 with
          | none => rw [w2] at q4; exact q4.elim
          | some b2 =>
            rw [w2] at q4
            exact ⟨c3, s, m3, σ, y, z, b2, S4, (ry.mono l).mono l3, rz, w2, fun cf' H' l S' => Out.to (show Out Z W (RelD Z) c3 s σ (.ok (.bl b2) m3) Q from q4) l S' (rep_bl.mpr rfl)⟩
    have hmk : lastMarks [op, op2] [r, r2] = false := by
      show behindInMarks op2 r2 = false
      exact nomark_of h4
    refine ⟨PE.of (pe_chain (op_cmp c (EA c) h1) (op_cmp c (EA c) h1') (ha c l h2).1 (hb c r h3).1 (hd c r2 h4).1 hmk) fun σ H Q q => ?_, PT.of (pt_chain (op_cmp c (EA c) h1) (op_cmp c (EA c) h1') (ha c l h2).1 (hb c r h3).1 (hd c r2 h4).1 hmk) fun σ H Q q => ?_⟩
    · obtain ⟨cf, s, m, S1, q⟩ := q
      exact red S1 q
    · obtain ⟨cf, s, m, S1, q⟩ := q
      refine red S1 (out_tru q fun d m' e => ?_)
      simp only [ev] at e
      obtain ⟨x, m1, _, e⟩ := bind_ok_inv e
      obtain ⟨y, m2, _, e⟩ := bind_ok_inv e
      split at e
      · obtain ⟨z, m3, _, e⟩ := bind_ok_inv e
        exact ofB_ok e
      · cases e; exact ⟨_, rfl⟩
      · cases e
  · cases h
/-! ### and, or -/
def truB (T : Tab) (C : CF) (k : Bool) (as : IEs) (s : List S) (m : Mu) : R Bool := (evb T C k as s m).bind fun x m1 => (match truth m1 x with
  | some t => .ok t m1
  | none => .bad)
def SBs (Z : Ze) (C : CF) (k : Nat) (ie : IEs) : Prop := ∀ {N : List Str} {X : Cx} {sc : Scope} {W : WX}, Cok Z C k N X sc W → ∀ es pos, chkEs Z N ie sc es = true →
  (PE X (.BoolOp .And es pos) (tE Z W (evb Z.T C true ie)) ∧ PW X (.BoolOp .And es pos) (tT Z W (truB Z.T C true ie))) ∧ (PE X (.BoolOp .Or es pos) (tE Z W (evb Z.T C false ie)) ∧ PW X (.BoolOp .Or es pos) (tT Z W (truB Z.T C false ie)))
theorem bs_nil : SBs Z C k .nil := by
  intro N X sc W c es pos h
  exact ⟨⟨⟨fun pins sh σ H Q I q => by obtain ⟨cf, s, m, S1, q⟩ := q; exact q.elim⟩, ⟨fun wh pins sh σ H Q I q => by obtain ⟨cf, s, m, S1, q⟩ := q; exact q.elim⟩⟩,
    ⟨⟨fun pins sh σ H Q I q => by obtain ⟨cf, s, m, S1, q⟩ := q; exact q.elim⟩, ⟨fun wh pins sh σ H Q I q => by obtain ⟨cf, s, m, S1, q⟩ := q; exact q.elim⟩⟩⟩
theorem PW.of {X : Cx} {e : Expr} {t t' : TT} (h : PW X e t) (k : ∀ σ H Q, t' σ H Q → t σ H Q) : PW X e t' := ⟨fun wh pins s σ H Q I q => h.run wh pins s σ H Q I (k σ H Q q)⟩
theorem truB_cons {T : Tab} {kk : Bool} {a b : IE} {r : IEs} {s : List S} {m : Mu} : truB T C kk (.cons a (.cons b r)) s m = (tru T C a s m).bind fun t m1 => if t = kk then truB T C kk (.cons b r) s m1 else .ok t m1 := by
  unfold truB tru
  rw [evb]
  cases e : ev T C a s m with
  | ok d m1 =>
    simp only [R.bind_ok]
    cases t : truth m1 d with
    | none => rfl
    | some x =>
      simp only [R.bind_ok]
      by_cases q : x = kk
      · rw [if_pos q, if_pos q]
      · rw [if_neg q, if_neg q]
        simp only [R.bind_ok, t]
  | exc x p m1 => rfl
  | bad => rfl
theorem bs_cons {a : IE} {r : IEs} (ha : SE Z C k a) (hr : SBs Z C k r) : SBs Z C k (.cons a r) := by
  intro N X sc W c es pos h
  unfold chkEs at h
  split at h
  · rename_i e es
    rw [Bool.and_eq_true] at h
    obtain ⟨h1, h2⟩ := h
    cases r with
    | nil =>
      unfold chkEs at h2
      rw [List.isEmpty_iff] at h2
      subst h2
      have e1 : ∀ kk, evb Z.T C kk (.cons a .nil) = ev Z.T C a := fun kk => by funext s m; rw [evb]
      have e2 : ∀ kk, truB Z.T C kk (.cons a .nil) = tru Z.T C a := fun kk => by funext s m; unfold truB tru; rw [evb]; first | done | exact congrArg _ (by funext x m1; cases truth m1 x <;> rfl)
      rw [e1, e1, e2, e2]
      exact ⟨⟨pe_one (ha c e h1).1, pw_and1 (ha c e h1).2⟩, ⟨pe_one (ha c e h1).1, pw_or1 (ha c e h1).2⟩⟩
    | cons b r =>
      have h2' := h2
      unfold chkEs at h2
      split at h2
      · rename_i e2 es
        have hr' := hr c (e2 :: es) pos h2'
        refine ⟨⟨PE.of (pe_andT (ha c e h1).1 hr'.1.1) fun σ H Q q => ?_, PW.of (pw_and (ha c e h1).2 hr'.1.2) fun σ H Q q => ?_⟩, ⟨PE.of (pe_orT (ha c e h1).1 hr'.2.1) fun σ H Q q => ?_, PW.of (pw_or (ha c e h1).2 hr'.2.2) fun σ H Q q => ?_⟩⟩
        · obtain ⟨cf, s, m, S1, q⟩ := q
          rw [evb] at q
          refine ⟨cf, s, m, S1, q.bind fun x m1 c1 vx H1 l1 S2 rx q2 => ?_⟩
          cases t : truth m1 x with
          | none => rw [t] at q2; exact q2.elim
          | some b =>
            rw [t] at q2
            refine ⟨b, tru_of c S2 rx t, ?_⟩
            cases b with
            | true => exact ⟨c1, s, m1, S2, q2⟩
            | false => exact Out.done (show Out Z W (RelD Z) c1 s σ (.ok x m1) Q from q2) S2 rx
        · obtain ⟨cf, s, m, S1, q⟩ := q
          rw [truB_cons] at q
          refine ⟨cf, s, m, S1, q.bind fun x m1 c1 vx H1 l1 S2 rx q2 => ?_⟩
          subst rx
          cases vx with
          | true => exact ⟨c1, s, m1, S2, q2⟩
          | false => exact Out.done (show Out Z W (RelB Z) c1 s σ (.ok false m1) Q from q2) S2 rfl
        · obtain ⟨cf, s, m, S1, q⟩ := q
          rw [evb] at q
          refine ⟨cf, s, m, S1, q.bind fun x m1 c1 vx H1 l1 S2 rx q2 => ?_⟩
          cases t : truth m1 x with
          | none => rw [t] at q2; exact q2.elim
          | some b =>
            rw [t] at q2
            refine ⟨b, tru_of c S2 rx t, ?_⟩
            cases b with
            | false => exact ⟨c1, s, m1, S2, q2⟩
            | true => exact Out.done (show Out Z W (RelD Z) c1 s σ (.ok x m1) Q from q2) S2 rx
        · obtain ⟨cf, s, m, S1, q⟩ := q
          rw [truB_cons] at q
          refine ⟨cf, s, m, S1, q.bind fun x m1 c1 vx H1 l1 S2 rx q2 => ?_⟩
          subst rx
          cases vx with
          | false => exact ⟨c1, s, m1, S2, q2⟩
          | true => exact Out.done (show Out Z W (RelB Z) c1 s σ (.ok true m1) Q from q2) S2 rfl
      · cases h2
  · cases h
theorem case_bol {kk : Bool} {as : IEs} (hs : SBs Z C k as) : SE Z C k (.bol kk as) := by
  intro N X sc W c e h
  unfold chkE at h
  split at h
  · rename_i op vs p
    rw [Bool.and_eq_true] at h
    obtain ⟨h1, h2⟩ := h
    have q := hs c vs p h2
    have e1 : ev Z.T C (.bol kk as) = evb Z.T C kk as := by funext s m; rw [ev]
    have e2 : tru Z.T C (.bol kk as) = truB Z.T C kk as := by funext s m; unfold tru truB; rw [ev]; first | done | exact congrArg _ (by funext x m1; cases truth m1 x <;> rfl)
    rw [e1, e2]
    split at h1
    · exact ⟨q.1.1, q.1.2.pt⟩
    · exact ⟨q.2.1, q.2.2.pt⟩
    · cases h1
  · cases h
/-! ### attributes, subscripts -/
theorem attr_base {o : Expr} {m : Str} {env : Env} {w : Sem Value} (h : noSup o = true) : attributeBase o m env w = w := by
  cases o <;> first | rfl | skip
  rename_i f as ks p
  cases f <;> first | rfl | skip
  cases as <;> first | rfl | skip
  cases ks <;> first | rfl | cases h
theorem zip_lookup (inj : ∀ f g, Z.fnm f = Z.fnm g → f = g) {G : Hp} {as : List Addr} {f : Nat} {d : D} : ∀ {fs : List Nat} {xs : List D} {vs : List V}, fldGet fs xs f = some d → Rps Z.toZt G as xs vs → fs.length = xs.length → ∃ v, ((fs.map Z.fnm).zip vs).lookup (Z.fnm f) = some v ∧ Rp Z.toZt G as d v ∧ f ∈ fs
  | [], _, _, h, _, _ => by unfold fldGet at h; cases h
  | g :: gs, [], _, h, _, _ => by unfold fldGet at h; cases h
  | g :: gs, y :: ys, vs, h, r, hl => by
    obtain ⟨v, t, rfl, r1, r2⟩ := r.cons_inv
    unfold fldGet at h
    rw [List.map_cons, List.zip_cons_cons, List.lookup_cons]
    by_cases q : g = f
    · rw [if_pos q] at h
      cases h
      subst q
      exact ⟨v, by simp, r1, List.mem_cons_self⟩
    · rw [if_neg q] at h
      have hn : (Z.fnm f == Z.fnm g) = false := beq_eq_false_iff_ne.mpr fun e => q (inj _ _ e.symm)
      rw [hn]
      obtain ⟨v', h1, h2, h3⟩ := zip_lookup inj h r2 (by simpa using hl)
      exact ⟨v', h1, h2, List.mem_cons_of_mem _ h3⟩
theorem flds_lookup (inj : ∀ f g, Z.fnm f = Z.fnm g → f = g) {G : Hp} {as : List Addr} {f : Nat} : ∀ {fs : List (Nat × D)} {gs : List (Str × V)}, gs.map (·.1) = fs.map (fun p => Z.fnm p.1) → Rps Z.toZt G as (fs.map (·.2)) (gs.map (·.2)) →
    (∀ d, fs.lookup f = some d → ∃ v, gs.lookup (Z.fnm f) = some v ∧ Rp Z.toZt G as d v) ∧ (fs.lookup f = none → gs.lookup (Z.fnm f) = none)
  | [], gs, h, _ => by
    have e : gs = [] := by simpa using h
    subst e
    exact ⟨fun d e => (by cases e), fun _ => rfl⟩
  | (g, y) :: fs, gs, h, r => by
    cases gs with
    | nil => simp at h
    | cons q gs =>
      obtain ⟨n, v⟩ := q
      simp only [List.map_cons, List.cons.injEq] at h r
      obtain ⟨h1, h2⟩ := h
      obtain ⟨v', t, e, r1, r2⟩ := r.cons_inv
      simp only [List.cons.injEq] at e
      obtain ⟨rfl, rfl⟩ := e
      obtain ⟨k1, k2⟩ := flds_lookup inj h2 r2
      rw [List.lookup_cons, List.lookup_cons, h1]
      by_cases q : f = g
      · subst q
        simp only [beq_self_eq_true]
        exact ⟨fun d e => by cases e; exact ⟨_, rfl, r1⟩, fun e => by cases e⟩
      · have hn : (Z.fnm f == Z.fnm g) = false := beq_eq_false_iff_ne.mpr fun e => q (inj _ _ e)
        have hn2 : (f == g) = false := beq_eq_false_iff_ne.mpr q
        rw [hn, hn2]
        exact ⟨k1, k2⟩
theorem lookup_mem {f : Nat} {d : D} : ∀ {fs : List (Nat × D)}, fs.lookup f = some d → (f, d) ∈ fs
  | [], h => by cases h
  | (g, y) :: fs, h => by
    rw [List.lookup_cons] at h
    split at h
    · rename_i e
      cases h
      rw [beq_iff_eq.mp e]
      exact List.mem_cons_self
    · exact List.mem_cons_of_mem _ (lookup_mem h)
theorem case_att {a : IE} {f : Nat} (ha : SE Z C k a) : SE Z C k (.att a f) := by
  intro N X sc W c e h
  unfold chkE at h
  split at h
  · rename_i o n p
    simp only [Bool.and_eq_true, decide_eq_true_eq] at h
    obtain ⟨rfl, h2, h3⟩ := h
    have hp : PE X (.Attribute o (Z.fnm f) p) (tE Z W (ev Z.T C (.att a f))) := by
      refine PE.of (pe_fld (ha c o h2).1 (attr_base h3)) fun σ H Q q => ?_
      obtain ⟨cf, s, m, S1, q⟩ := q
      simp only [ev] at q
      refine ⟨cf, s, m, S1, q.bind fun x m1 c1 vx H1 l1 S2 rx q2 => ?_⟩
      cases w : attD Z.T x f m1 with
      | none => rw [w] at q2; exact q2.elim
      | some d =>
        rw [w] at q2
        cases x with
        | obj cl xs =>
          obtain ⟨a1, dx, vs, rfl, g1, g2, g3⟩ := rep_obj.mp rx
          obtain ⟨v, e1, e2, e3⟩ := zip_lookup c.txt.inj w g3 g2
          obtain ⟨t1, t2⟩ := c.txt.fld _ _ e3
          rw [← c.eK] at t1 t2
          exact ⟨a1, Z.cad cl, dx, _, v, rfl, S2.exG _ _ g1, t1, t2, e1, q2.done S2 (Rep.of e2)⟩
        | ref j =>
          have rx' : Rep Z.toZt c1 s (.ref j) vx := rx
          unfold Rep Rp at rx'
          obtain ⟨a1, e0, rfl⟩ := rx'
          dsimp only [attD] at w
          cases w2 : m1[j]? with
          | none => rw [w2] at w; cases w
          | some cl =>
            rw [w2] at w
            cases cl with
            | lst _ => cases w
            | dct _ _ => cases w
            | ins cl fs =>
              obtain ⟨dx, gs, g1, ⟨g2, g3⟩, g4⟩ := S2.cell j _ a1 w2 e0
              obtain ⟨v, e1, e2⟩ := (flds_lookup c.txt.inj g2 g3).1 d w
              obtain ⟨t1, t2⟩ := c.txt.fld _ _ (g4 _ (lookup_mem w))
              rw [← c.eK] at t1 t2
              exact ⟨a1, Z.cad cl, dx, gs, v, rfl, g1, t1, t2, e1, q2.done S2 (Rep.of e2)⟩
        | _ => cases w
    exact ⟨hp, test_of c hp fun _ => rfl⟩
  · cases h
theorem atI_get {xs : List D} {vs : List V} {i : Int} {d : D} {G : Hp} {as : List Addr} (r : Rps Z.toZt G as xs vs) (h : atI xs i = some d) : ∃ v, atI vs i = some v ∧ Rp Z.toZt G as d v := by
  unfold atI at h ⊢
  rw [← r.length]
  cases e : ixN xs.length i with
  | none => rw [e] at h; cases h
  | some j =>
    rw [e] at h
    exact r.get h
theorem plainIx_of {e : Expr} (h : noSl e = true) : PlainIx e := by
  intro o i
  cases e <;> first | rfl | cases h
theorem case_sub {a i : IE} (ha : SE Z C k a) (hi : SE Z C k i) : SE Z C k (.sub a i) := by
  intro N X sc W c e h
  unfold chkE at h
  split at h
  · rename_i x y p
    simp only [Bool.and_eq_true] at h
    obtain ⟨h1, h2, h3⟩ := h
    have hp : PE X (.Subscript x y p) (tE Z W (ev Z.T C (.sub a i))) := by
      refine PE.of (pe_ix ix_seq (ha c x h1).1 (hi c y h2).1 (plainIx_of h3)) fun σ H Q q => ?_
      obtain ⟨cf, s, m, S1, q⟩ := q
      simp only [ev] at q
      refine ⟨cf, s, m, S1, q.bind fun x m1 c1 vx H1 l1 S2 rx q2 => ⟨c1, s, m1, S2, q2.bind fun y m2 c2 vy H2 l2 S3 ry q3 => ?_⟩⟩
      have rx2 := rx.mono l2
      cases w : subD x y m2 with
      | none => rw [w] at q3; exact q3.elim
      | some d =>
        rw [w] at q3
        cases y with
        | int i =>
          have ey := rep_int.mp ry
          subst ey
          have gen : (seqOf m2 x).bind (fun xs => atI xs i) = some d → rIx X.K vx (.int i) H2 Q := fun w => by
            cases w2 : seqOf m2 x with
            | none => rw [w2] at w; cases w
            | some xs =>
              rw [w2] at w
              obtain ⟨a1, vs, rfl, hq, g⟩ := S3.seqOf rx2 w2
              obtain ⟨v, e1, e2⟩ := atI_get g w
              have fin := q3.done S3 (Rep.of e2)
              rcases hq with hq | hq
              · exact .inl ⟨a1, vs, i, v, rfl, rfl, by rw [c.eK]; exact hq, e1, fin⟩
              · exact .inr (.inl ⟨a1, vs, i, v, rfl, rfl, by rw [c.eK]; exact hq, e1, fin⟩)
          cases x with
          | str z =>
            have ex := rep_str.mp rx2
            subst ex
            dsimp only [subD] at w
            split at w
            · rename_i hz
              cases w2 : atI z.cps.toList i with
              | none => rw [w2] at w; cases w
              | some ch =>
                rw [w2] at w
                cases w
                exact .inr (.inr ⟨z, i, ch, rfl, rfl, Nat.le_trans hz line_lim, w2, q3.done S3 (rep_str.mpr rfl)⟩)
            · cases w
          | _ => exact gen w
        | _ => cases w
    exact ⟨hp, test_of c hp fun _ => rfl⟩
  · cases h
end
end Pm
end
end
section
set_option Elab.async false
set_option linter.all false
set_option maxRecDepth 100000
set_option maxHeartbeats 4000000
/-! Pm11: argument lists, calls of defs and methods. -/
noncomputable section
namespace Pm
open PySem PySem.Spec L2
def IEs.len : IEs → Nat
  | .nil => 0
  | .cons _ r => r.len + 1
section
variable {Z : Ze} {C : CF} {k : Nat} {N : List Str} {X : Cx} {sc : Scope} {W : WX}
theorem evs_len {T : Tab} : ∀ {as : IEs} {s : List S} {m m' : Mu} {xs : List D}, evs T C as s m = .ok xs m' → xs.length = as.len
  | .nil, s, m, m', xs, h => by
    rw [evs] at h; cases h; rfl
  | .cons a r, s, m, m', xs, h => by
    rw [evs] at h
    obtain ⟨x, m1, _, h⟩ := bind_ok_inv h
    obtain ⟨ys, m2, h2, h⟩ := bind_ok_inv h
    cases h
    show ys.length + 1 = r.len + 1
    rw [evs_len h2]
theorem chkEs_len : ∀ {as : IEs} {es : List Expr}, chkEs Z N as sc es = true → es.length = as.len
  | .nil, es, h => by unfold chkEs at h; rw [List.isEmpty_iff] at h; subst h; rfl
  | .cons a r, es, h => by
    unfold chkEs at h
    split at h
    · rw [Bool.and_eq_true] at h
      show _ + 1 = r.len + 1
      rw [chkEs_len h.2]
    · cases h
theorem chkKs_len : ∀ {as : IEs} {es : List Keyword}, chkKs Z N as sc es = true → (es.filterMap (·.arg)).length = as.len ∧ ∀ (pos : Pos) (env : Env), (backToKw pos (keywordEach es env)).all (·.1.isSome) = true ∧ (backToKw pos (keywordEach es env)).any (·.1.isNone) = false ∧ (backToKw pos (keywordEach es env)).filterMap (·.1) = es.filterMap (·.arg)
  | .nil, es, h => by unfold chkKs at h; rw [List.isEmpty_iff] at h; subst h; exact ⟨rfl, fun pos env => ⟨rfl, rfl, rfl⟩⟩
  | .cons a r, es, h => by
    unfold chkKs at h
    split at h
    · rename_i n e p es
      rw [Bool.and_eq_true] at h
      obtain ⟨h1, h2⟩ := chkKs_len h.2
      refine ⟨by show (es.filterMap (·.arg)).length + 1 = r.len + 1; rw [h1], fun pos env => ?_⟩
      obtain ⟨k1, k2, k3⟩ := h2 pos env
      refine ⟨?_, ?_, ?_⟩
      · show (true && (backToKw pos (keywordEach es env)).all (·.1.isSome)) = true
        rw [k1]; rfl
      · show (false || (backToKw pos (keywordEach es env)).any (·.1.isNone)) = false
        rw [k2]; rfl
      · show n :: (backToKw pos (keywordEach es env)).filterMap (·.1) = n :: es.filterMap (·.arg)
        rw [k3]
    · cases h
theorem es_nil : SEs Z C k .nil := by
  intro N X sc W c es h
  unfold chkEs at h
  rw [List.isEmpty_iff] at h
  subst h
  refine PA.of pa_nil fun σ H Q q => ?_
  obtain ⟨cf, s, m, S1, q⟩ := q
  exact Out.done (show Out Z W (RelL Z) cf s σ (.ok [] m) Q from q) S1 rfl
theorem es_cons {a : IE} {r : IEs} (ha : SE Z C k a) (hr : SEs Z C k r) : SEs Z C k (.cons a r) := by
  intro N X sc W c es h
  unfold chkEs at h
  split at h
  · rename_i e es
    rw [Bool.and_eq_true] at h
    refine PA.of (pa_cons (ha c e h.1).1 (hr c es h.2) (star_one (noStar h.1))) fun σ H Q q => ?_
    obtain ⟨cf, s, m, S1, q⟩ := q
    rw [evs] at q
    exact ⟨cf, s, m, S1, q.bind fun x m1 c1 vx H1 l1 S2 rx q2 => ⟨c1, s, m1, S2, q2.bind fun ys m2 c2 vs H2 l2 S3 ry q3 => q3.done S3 ⟨vx, vs, rfl, rx.mono l2, ry⟩⟩⟩
  · cases h
def SKs (Z : Ze) (C : CF) (k : Nat) (ie : IEs) : Prop := ∀ {N : List Str} {X : Cx} {sc : Scope} {W : WX}, Cok Z C k N X sc W → ∀ es, chkKs Z N ie sc es = true → PK X es (tA Z W (evs Z.T C ie))
theorem PK.of {X : Cx} {e : List Keyword} {t t' : TA} (h : PK X e t) (k : ∀ σ H Q, t' σ H Q → t σ H Q) : PK X e t' := ⟨fun pos pins s σ H Q I q => h.run pos pins s σ H Q I (k σ H Q q)⟩
theorem ks_nil : SKs Z C k .nil := by
  intro N X sc W c es h
  unfold chkKs at h
  rw [List.isEmpty_iff] at h
  subst h
  refine PK.of pk_nil fun σ H Q q => ?_
  obtain ⟨cf, s, m, S1, q⟩ := q
  exact Out.done (show Out Z W (RelL Z) cf s σ (.ok [] m) Q from q) S1 rfl
theorem ks_cons {a : IE} {r : IEs} (ha : SE Z C k a) (hr : SKs Z C k r) : SKs Z C k (.cons a r) := by
  intro N X sc W c es h
  unfold chkKs at h
  split at h
  · rename_i n e p es
    rw [Bool.and_eq_true] at h
    refine PK.of (pk_cons (ha c e h.1).1 (hr c es h.2)) fun σ H Q q => ?_
    obtain ⟨cf, s, m, S1, q⟩ := q
    rw [evs] at q
    exact ⟨cf, s, m, S1, q.bind fun x m1 c1 vx H1 l1 S2 rx q2 => ⟨c1, s, m1, S2, q2.bind fun ys m2 c2 vs H2 l2 S3 ry q3 => q3.done S3 ⟨vx, vs, rfl, rx.mono l2, ry⟩⟩⟩
  · cases h
variable {pins : List (Addr × Obj)} {σ τ : L2.St} {H : Hp} {sh : Shared} {cf : Cfg} {s : List S} {m : Mu}
/-- the arguments of a call, then what is called -/
theorem args_run (c : Cok Z C k N X sc W) {as ks : IEs} {args : List Expr} {kws : List Keyword} (h1 : chkEs Z N as sc args = true) (h2 : chkKs Z N ks sc kws = true) (ha : SEs Z C k as) (hk : SKs Z C k ks) {f : Value} (hkeep : PySem.W.keepIn X.K f = true)
    {first : List Value} {α β : Type} {Rel : Cfg → List S → α → β → Hp → Prop} {g : List D → List D → Mu → R α} {Q : β → Hp → Prop} (I : Inv X pins σ H sh) (S1 : Sim Z.toZt cf s m σ H)
    (o : Out Z W Rel cf s σ ((evs Z.T C as s m).bind fun xs m1 => (evs Z.T C ks s m1).bind fun ys m2 => g xs ys m2) Q) {P : Value → Shared → Prop} {pos : Pos}
    (next : ∀ cf' xs ys m' vs zs us ws H' sh', cf.le cf' → Inv X pins σ H' sh' → Sim Z.toZt cf' s m' σ H' → Reps Z.toZt cf' s xs vs → Reps Z.toZt cf' s ys zs → Vals vs us → Vals zs ws → us.length = args.length → ws.length = (kws.filterMap (·.arg)).length →
      Out Z W Rel cf' s σ (g xs ys m') Q → wpAny (model X.prog X.w) X.A (call f (first ++ us) ((kws.filterMap (·.arg)).zip ws)) P X.xe sh') :
    wpAny (model X.prog X.w) X.A (callWith pos f first (backTo pos (starEach args X.env)) (backToKw pos (keywordEach kws X.env))) P X.xe sh := by
  have pa := ha c args h1
  have pk := hk c kws h2
  obtain ⟨kl, kk⟩ := chkKs_len h2
  obtain ⟨k1, k2, k3⟩ := kk pos X.env
  have al := chkEs_len h1
  have l2 : ∀ {s m m' xs}, evs Z.T C ks s m = .ok xs m' → xs.length = (kws.filterMap (·.arg)).length := fun e => (evs_len e).trans kl.symm
  -- behind the positional ones
  have fin2 : ∀ {xs m1 c1 vs us H1 s1}, cf.le c1 → Inv X pins σ H1 s1 → Sim Z.toZt c1 s m1 σ H1 → Reps Z.toZt c1 s xs vs → Vals vs us → us.length = args.length → Out Z W Rel c1 s σ ((evs Z.T C ks s m1).bind fun ys m2 => g xs ys m2) Q → kws = [] →
      wpAny (model X.prog X.w) X.A (call f (first ++ us)) P X.xe s1 := fun {xs m1 c1 vs us H1 s1} l I1 S2 rx rv hl q e => by
    subst e
    have e0 : ks = .nil := by
      cases ks with
      | nil => rfl
      | cons a r => unfold chkKs at h2; cases h2
    subst e0
    have q' : Out Z W Rel c1 s σ (g xs [] m1) Q := q
    exact next c1 xs [] m1 vs [] us [] H1 s1 l I1 S2 rx rfl rv .nil hl rfl q'
  cases args with
  | nil =>
    have e0 : as = .nil := by
      cases as with
      | nil => rfl
      | cons a r => unfold chkEs at h1; cases h1
    subst e0
    have o' : Out Z W Rel cf s σ ((evs Z.T C ks s m).bind fun ys m2 => g [] ys m2) Q := o
    cases kws with
    | nil =>
      have q := fin2 (us := []) Cfg.le.rfl' I S1 (xs := []) (vs := []) rfl .nil rfl o' rfl
      exact PySem.W.callWith_K0 I.kIn hkeep q
    | cons kw kws =>
      refine PySem.W.callWith_KW0 (h₀ := X.base) I.ok.mod.kin hkeep k1 ?_ (by rw [k2]; rfl)
      rw [k3]
      refine thn (pk.run pos pins sh σ H (fun zs H2 => ∃ c2 ys m2, cf.le c2 ∧ Sim Z.toZt c2 s m2 σ H2 ∧ Reps Z.toZt c2 s ys zs ∧ zs.length = ((kw :: kws).filterMap (·.arg)).length ∧ Out Z W Rel c2 s σ (g [] ys m2) Q) I ⟨cf, s, m, S1, ?_⟩) fun ws s2 ⟨zs, H2, I2, rz, c2, ys, m2, l, S3, ry, hz, q2⟩ => ⟨I2.kIn, next c2 [] ys m2 [] zs [] ws H2 s2 l I2 S3 rfl ry .nil rz rfl (by rw [← rz.length]; exact hz) q2⟩
      cases e : evs Z.T C ks s m with
      | ok ys m2 =>
        rw [e] at o'
        exact fun c1 b H1 l S2 r => ⟨c1, ys, m2, l, S2, r, by rw [← r.length]; exact l2 e, Out.mono l o'⟩
      | exc x p m2 => rw [e] at o'; exact o'
      | bad => rw [e] at o'; exact o'
  | cons e es =>
    have st : starEach (e :: es) X.env = (false, eval e X.env) :: starEach es X.env := by
      cases as with
      | nil => unfold chkEs at h1; cases h1
      | cons a r =>
        unfold chkEs at h1
        rw [Bool.and_eq_true] at h1
        exact star_one (noStar h1.1)
    have hpl := starEs (pos := pos) (env := X.env) h1
    have hpl2 : (backTo pos (starEach es X.env)).any (·.1) = false := by
      rw [st] at hpl
      have : (false || (backTo pos (starEach es X.env)).any (·.1)) = false := hpl
      rwa [Bool.false_or] at this
    have first_ : wpAny (model X.prog X.w) X.A (spliced (backTo pos (starEach (e :: es) X.env))) (AP X pins σ fun vs H1 => ∃ c1 xs m1, cf.le c1 ∧ Sim Z.toZt c1 s m1 σ H1 ∧ Reps Z.toZt c1 s xs vs ∧ vs.length = (e :: es).length ∧ Out Z W Rel c1 s σ ((evs Z.T C ks s m1).bind fun ys m2 => g xs ys m2) Q) X.xe sh := by
      refine pa.run pos pins sh σ H _ I ⟨cf, s, m, S1, ?_⟩
      cases e1 : evs Z.T C as s m with
      | ok xs m1 =>
        rw [e1] at o
        exact fun c1 b H1 l S2 r => ⟨c1, xs, m1, l, S2, r, by rw [← r.length, evs_len e1, al], Out.mono l o⟩
      | exc x p m2 => rw [e1] at o; exact o
      | bad => rw [e1] at o; exact o
    cases kws with
    | nil =>
      refine PySem.W.callWith_K (h₀ := X.base) I.ok.mod.kin hkeep (thn first_ fun us s1 hu => ?_) st hpl2
      obtain ⟨vs, H1, I1, rv, c1, xs, m1, l, S2, rx, hl, q⟩ := hu
      exact ⟨I1.kIn, fin2 l I1 S2 rx rv (by rw [← rv.length]; exact hl) q rfl⟩
    | cons kw kws =>
      refine PySem.W.callWith_KW (h₀ := X.base) I.ok.mod.kin hkeep k1 ?_ (by rw [hpl, k2]; rfl) st
      rw [k3]
      refine thn first_ fun us s1 hu => ?_
      obtain ⟨vs, H1, I1, rv, c1, xs, m1, l, S2, rx, hl, q⟩ := hu
      refine thn (pk.run pos pins s1 σ H1 (fun zs H2 => ∃ c2 ys m2, c1.le c2 ∧ Sim Z.toZt c2 s m2 σ H2 ∧ Reps Z.toZt c2 s ys zs ∧ zs.length = ((kw :: kws).filterMap (·.arg)).length ∧ Out Z W Rel c2 s σ (g xs ys m2) Q) I1 ⟨c1, s, m1, S2, ?_⟩) fun ws s2 ⟨zs, H2, I2, rz, c2, ys, m2, l2', S3, ry, hz, q2⟩ =>
        ⟨I2.kIn, next c2 xs ys m2 vs zs us ws H2 s2 (l.trans l2') I2 S3 (rx.mono l2') ry rv rz (by rw [← rv.length]; exact hl) (by rw [← rz.length]; exact hz) q2⟩
      cases e : evs Z.T C ks s m1 with
      | ok ys m2 =>
        rw [e] at q
        exact fun c1 b H1 l S2 r => ⟨c1, ys, m2, l, S2, r, by rw [← r.length]; exact l2 e, Out.mono l q⟩
      | exc x p m2 => rw [e] at q; exact q
      | bad => rw [e] at q; exact q
/-- a def's end as an expression's -/
theorem run_out {r : R D} {Q : VK} {fr : Bool} (h : Out Z W (RelD Z) cf s σ r Q) : RunQ Z W cf s σ σ fr Q r := by
  cases r with
  | ok d m1 =>
    intro c' v H' l S2 rr
    unfold RetRel at rr
    split at rr
    · obtain ⟨zs, rfl, rf⟩ := rr
      exact fre_keep (f := fun _ _ => .bad) S2 rf (h.mono l)
    · exact h.to l S2 (Rep.of rr)
  | exc x p m1 => exact h
  | bad => exact h
theorem case_call {f : Nat} {as ks : IEs} {ds : List D} (ha : SEs Z C k as) (hk : SKs Z C k ks) : SE Z C k (.call f as ks ds) := by
  intro N X sc W c e h
  unfold chkE at h
  split at h
  · rename_i x p args kws pos
    simp only [Bool.and_eq_true, decide_eq_true_eq] at h
    obtain ⟨⟨h0, h1, h2⟩, ⟨h3, h4⟩, h5⟩ := h
    subst h1
    obtain ⟨g1, g2, g3⟩ := c.gl h2
    obtain ⟨e1, e2⟩ := c.txt.gfn f h0
    rw [← c.eK] at e2
    have hp : PE X (.Call (.Name (Z.gfn f) p) args kws pos) (tE Z W (ev Z.T C (.call f as ks ds))) := by
      refine ⟨fun pins sh σ H Q I q => ?_⟩
      obtain ⟨cf, s, m, S1, q⟩ := q
      simp only [ev] at q
      refine wpAny_Call_Name_kw (ld_glob I g1 e1 ?_ g2)
      refine args_run c h3 h4 ha hk e2 (first := []) (g := fun xs ys m2 => if (xs.all fun x => !x.isBor) = true ∧ (ys.all fun x => !x.isBor) = true then C f (xs ++ ys ++ ds) m2 else .bad) I S1 q ?_
      intro cf' xs ys m' vs zs us ws H' sh' l I' S' rx ry rv rw' lu lw q'
      split at q'
      · rename_i hb
        exact c.run (c.fns _ _ _ _ h5) I' S' rv rw' (rx.rps hb.1) (ry.rps hb.2) lu lw (run_out q')
      · exact q'.elim
    exact ⟨hp, test_of c hp fun _ => rfl⟩
  · cases h
/-! ### methods -/
theorem star_all {args : List Expr} {pos : Pos} {env : Env} (h : (backTo pos (starEach args env)).any (·.1) = false) : (backTo pos (starEach args env)).all (!·.1) = true := by
  rw [List.any_eq_false] at h
  rw [List.all_eq_true]
  intro x hx
  have := h x hx
  simpa using this
theorem meth_eval {o : Expr} {n : Str} {apos pos : Pos} {args : List Expr} {env : Env} (h : noSup o = true) (hl : (apos.endLine == pos.line) = true) (hs : (backTo pos (starEach args env)).any (·.1) = false) (hn : args.length < 20) :
    eval (.Call (.Attribute o n apos) args [] pos) env = (do
      let ov ← eval o env
      standAt apos.atName
      let (f, first) ← holding [ov] (getMethod ov n (do return (← importBound o env).getD true))
      callWith pos f first (backTo pos (starEach args env)) (backToKw pos (keywordEach [] env))) := by
  have form : methodCallForm (args.length + ([] : List Keyword).length) (backTo pos (starEach args env)) (backToKw pos (keywordEach [] env)) = true := by
    unfold methodCallForm
    rw [star_all hs]
    show (true && true && decide (args.length + 0 + 0 < 30)) = true
    rw [decide_eq_true (by omega)]
    rfl
  show (do
    let ov ← attributeBase o n env (eval o env)
    standAt apos.atName
    methodCall o n apos pos env ov (args.length + ([] : List Keyword).length) (backTo pos (starEach args env)) (backToKw pos (keywordEach [] env))) = _
  rw [attr_base h]
  unfold methodCall
  rw [form]
  unfold calleeOf methodCallPos
  rw [hl]
  rfl
theorem zip_none (inj : ∀ f g, Z.fnm f = Z.fnm g → f = g) {n : Nat} : ∀ {fs : List Nat} {vs : List V}, n ∉ fs → ((fs.map Z.fnm).zip vs).lookup (Z.fnm n) = none
  | [], _, _ => rfl
  | g :: gs, [], _ => rfl
  | g :: gs, v :: vs, h => by
    rw [List.map_cons, List.zip_cons_cons, List.lookup_cons]
    have q : n ≠ g := fun e => h (by rw [e]; exact List.mem_cons_self)
    have hn : (Z.fnm n == Z.fnm g) = false := beq_eq_false_iff_ne.mpr fun e => q (inj _ _ e)
    rw [hn]
    exact zip_none inj fun e => h (List.mem_cons_of_mem _ e)
theorem case_meth {a : IE} {n : Nat} {as : IEs} (ha : SE Z C k a) (hs : SEs Z C k as) (hm : ∀ c n f, Z.T.mth c n = some f → Z.pat f (Z.pars f) [] [] = true) : SE Z C k (.meth a n as) := by
  intro N X sc W c e h
  unfold chkE at h
  split at h
  · rename_i o nm apos args pos
    simp only [Bool.and_eq_true, decide_eq_true_eq] at h
    obtain ⟨⟨rfl, h1, h2⟩, ⟨h3, h4⟩, h5⟩ := h
    have hp : PE X (.Call (.Attribute o (Z.fnm n) apos) args [] pos) (tE Z W (ev Z.T C (.meth a n as))) := by
      refine ⟨fun pins sh σ H Q I q => ?_⟩
      obtain ⟨cf, s, m, S1, q⟩ := q
      simp only [ev] at q
      refine PySem.W.methodCall_KW (pl := do return (← importBound o X.env).getD true) (thn ((ha c o h3).1.run pins sh σ H (fun vx H1 => ∃ c1 x m1, cf.le c1 ∧ Sim Z.toZt c1 s m1 σ H1 ∧ Rep Z.toZt c1 s x vx ∧ Out Z W (RelD Z) c1 s σ (match (clsOf x m1).bind fun c => Z.T.mth c n with
        | some f => (evs Z.T C as s m1).bind fun xs m2 => if (xs.all fun x => !x.isBor) = true then C f (x :: xs) m2 else .bad
        | none => .bad) Q) I ⟨cf, s, m, S1, q.bind fun x m1 c1 vx H1 l S2 r q2 => ⟨c1, x, m1, l, S2, r, q2⟩⟩) fun u s1 hu => ?_) (meth_eval h4 h1 (starEs h5) h2)
      obtain ⟨vx, H1, I1, r1, c1, x, m1, l, S2, rx, q2⟩ := hu
      cases w : clsOf x m1 with
      | none => rw [w] at q2; exact q2.elim
      | some cl =>
        rw [w] at q2
        have q2 : Out Z W (RelD Z) c1 s σ (match Z.T.mth cl n with
          | some f => (evs Z.T C as s m1).bind fun xs m2 => if (xs.all fun x => !x.isBor) = true then C f (x :: xs) m2 else .bad
          | none => .bad) Q := q2
        cases w2 : Z.T.mth cl n with
        | none => rw [w2] at q2; exact q2.elim
        | some f =>
          rw [w2] at q2
          have q2 : Out Z W (RelD Z) c1 s σ ((evs Z.T C as s m1).bind fun xs m2 => if (xs.all fun x => !x.isBor) = true then C f (x :: xs) m2 else .bad) Q := q2
          obtain ⟨t1, t2, t3⟩ := c.txt.mth _ _ _ w2
          rw [← c.eK] at t1 t2
          -- the receiver's object
          have rec_ : ∃ a1 dx gs, vx = .ref a1 ∧ H1 a1 = some (.ins (Z.cad cl) dx gs) ∧ gs.lookup (Z.fnm n) = none ∧ x.isBor = false := by
            cases x with
            | obj c' xs =>
              cases w
              obtain ⟨a1, dx, vs, rfl, g1, g2, g3⟩ := rep_obj.mp rx
              exact ⟨a1, dx, _, rfl, S2.exG _ _ g1, zip_none c.txt.inj t3, rfl⟩
            | ref j =>
              have rx' : Rep Z.toZt c1 s (.ref j) vx := rx
              unfold Rep Rp at rx'
              obtain ⟨a1, e0, rfl⟩ := rx'
              dsimp only [clsOf] at w
              cases w3 : m1[j]? with
              | none => rw [w3] at w; cases w
              | some cc =>
                rw [w3] at w
                cases cc with
                | lst _ => cases w
                | dct _ _ => cases w
                | ins c' fs =>
                  cases w
                  obtain ⟨dx, gs, g1, ⟨g2, g3⟩, g4⟩ := S2.cell j _ a1 w3 e0
                  refine ⟨a1, dx, gs, rfl, g1, (flds_lookup c.txt.inj g2 g3).2 ?_, rfl⟩
                  cases w4 : fs.lookup n with
                  | none => rfl
                  | some d => exact absurd (g4 _ (lookup_mem w4)) t3
            | _ => cases w
          obtain ⟨a1, dx, gs, rfl, g1, g2, g3⟩ := rec_
          obtain rfl : u = Value.ref a1 := r1
          refine getmeth_ok I1 g1 t1 t2 g2 ?_
          refine args_run c (ks := .nil) (kws := []) h5 (by unfold chkKs; rfl) hs ks_nil t2.kp (first := [.ref a1]) (g := fun xs ys m2 => if (xs.all fun x => !x.isBor) = true then C f (x :: xs) m2 else .bad) I1 S2 (by simp only [evs, R.bind_ok]; exact q2) ?_
          intro cf' xs ys m' vs zs us ws H' sh' l' I' S' rx2 ry rv rw' lu lw q'
          split at q'
          · rename_i hb
            have e1 : ys = [] := by
              cases ys with
              | nil => rfl
              | cons y ys =>
                have := ry.length
                rw [rw'.length, lw] at this
                cases this
            subst e1
            have e2 : zs = [] := ry
            subst e2
            cases rw'
            have rp : Rps Z.toZt cf'.G cf'.as (x :: xs) (V.ref a1 :: vs) := .cons ((rx.mono l').rp g3) (rx2.rps hb)
            rcases c.clen f (x :: xs) m' with z | z
            · rw [z] at q'; exact q'.elim
            have hps : us.length + 1 = Z.pars f := by
              rw [← z, List.length_cons, rx2.length, rv.length]
            have h7 := c.run (c.fns f (Z.pars f) [] [] (hm _ _ _ w2)) (us := .ref a1 :: us) (ws := []) (vs := V.ref a1 :: vs) (zs := []) (ys := []) I' S' (.cons rfl rv) .nil rp .nil hps rfl (Q := Q) (by
              rw [List.append_nil, List.append_nil]
              exact run_out q')
            exact h7
          · exact q'.elim
    exact ⟨hp, test_of c hp fun _ => rfl⟩
  · cases h
end
end Pm
end
end
section
set_option Elab.async false
set_option linter.all false
set_option maxRecDepth 100000
set_option maxHeartbeats 4000000
/-! Pm12: new instances. -/
noncomputable section
namespace Pm
open PySem PySem.Spec L2
/-! ### data that name no cell -/
section
variable {Z : Zt} {G G' : Hp} {as as' : List Addr}
mutual
theorem Rp.pure : ∀ {d : D} {v : V}, pln d = true → Rp Z G as d v → Rp Z G as' d v
  | .non, _, _, h => by unfold Rp at h ⊢; exact h
  | .bl _, _, p, _ => by cases p
  | .int _, _, _, h => by unfold Rp at h ⊢; exact h
  | .str _, _, _, h => by unfold Rp at h ⊢; exact h
  | .tup xs, _, p, h => by
    unfold Rp at h ⊢
    unfold pln at p
    obtain ⟨a, vs, q, h1, h2⟩ := h
    exact ⟨a, vs, q, h1, Rps.pure p h2⟩
  | .lst xs, _, p, h => by
    unfold Rp at h ⊢
    unfold pln at p
    obtain ⟨a, vs, q, h1, h2⟩ := h
    exact ⟨a, vs, q, h1, Rps.pure p h2⟩
  | .obj c xs, _, p, h => by
    unfold Rp at h ⊢
    unfold pln at p
    obtain ⟨a, dx, vs, q, h1, hl, h2⟩ := h
    exact ⟨a, dx, vs, q, h1, hl, Rps.pure p h2⟩
  | .ref k, _, p, _ => by cases p
  | .bor _, _, p, _ => by cases p
  | .scr _, _, p, _ => by cases p
theorem Rps.pure : ∀ {ds : List D} {vs : List V}, plns ds = true → Rps Z G as ds vs → Rps Z G as' ds vs
  | [], _, _, h => by unfold Rps at h ⊢; exact h
  | x :: xs, _, p, h => by
    unfold Rps at h ⊢
    unfold plns at p
    rw [Bool.and_eq_true] at p
    obtain ⟨v, r, q, h1, h2⟩ := h
    exact ⟨v, r, q, Rp.pure p.1 h1, Rps.pure p.2 h2⟩
end
mutual
/-- what was named before is named still -/
theorem Rp.shrink : ∀ {d : D} {v v' : V}, Rp Z G as d v → Rp Z G' (as ++ as') d v' → Rp Z G' as d v'
  | .non, _, _, _, h => by unfold Rp at h ⊢; exact h
  | .bl _, _, _, _, h => by unfold Rp at h ⊢; exact h
  | .int _, _, _, _, h => by unfold Rp at h ⊢; exact h
  | .str _, _, _, _, h => by unfold Rp at h ⊢; exact h
  | .tup xs, _, _, p, h => by
    unfold Rp at h p ⊢
    obtain ⟨a, vs, q, h1, h2⟩ := h
    obtain ⟨_, _, _, _, p2⟩ := p
    exact ⟨a, vs, q, h1, Rps.shrink p2 h2⟩
  | .lst xs, _, _, p, h => by
    unfold Rp at h p ⊢
    obtain ⟨a, vs, q, h1, h2⟩ := h
    obtain ⟨_, _, _, _, p2⟩ := p
    exact ⟨a, vs, q, h1, Rps.shrink p2 h2⟩
  | .scr xs, _, _, p, h => by
    unfold Rp at h p ⊢
    obtain ⟨a, vs, q, h1, h2⟩ := h
    obtain ⟨_, _, _, _, p2⟩ := p
    exact ⟨a, vs, q, h1, Rps.shrink p2 h2⟩
  | .obj c xs, _, _, p, h => by
    unfold Rp at h p ⊢
    obtain ⟨a, dx, vs, q, h1, hl, h2⟩ := h
    obtain ⟨_, _, _, _, _, _, p2⟩ := p
    exact ⟨a, dx, vs, q, h1, hl, Rps.shrink p2 h2⟩
  | .ref k, _, _, p, h => by
    unfold Rp at h p ⊢
    obtain ⟨a, h1, h2⟩ := h
    obtain ⟨b, p1, _⟩ := p
    have := pre_get (as' := as ++ as') (List.prefix_append _ _) p1
    rw [h1] at this
    cases this
    exact ⟨_, p1, h2⟩
  | .bor _, _, _, _, h => by unfold Rp at h; exact h.elim
theorem Rps.shrink : ∀ {ds : List D} {vs vs' : List V}, Rps Z G as ds vs → Rps Z G' (as ++ as') ds vs' → Rps Z G' as ds vs'
  | [], _, _, _, h => by unfold Rps at h ⊢; exact h
  | x :: xs, _, _, p, h => by
    unfold Rps at h p ⊢
    obtain ⟨v, r, q, h1, h2⟩ := h
    obtain ⟨_, _, _, p1, p2⟩ := p
    exact ⟨v, r, q, Rp.shrink p1 h1, Rps.shrink p2 h2⟩
end
end
section
variable {Z : Zt} {c c' : Cfg} {s : List S} {m : Mu} {τ : L2.St} {H H0 : Hp}
/-- a cell more -/
def Cfg.more (c : Cfg) (a : Addr) : Cfg := { c with as := c.as ++ [a] }
theorem Cfg.le_more {a : Addr} : c.le (c.more a) := ⟨Ex.rfl', rfl, List.prefix_append _ _, rfl⟩
theorem nd_more {l : List Addr} {o : List Addr} {a : Addr} (h : (l ++ o).Nodup) (h1 : a ∉ l) (h2 : a ∉ o) : ((l ++ [a]) ++ o).Nodup := by
  rw [List.append_assoc]
  rw [List.nodup_append] at h ⊢
  refine ⟨h.1, ?_, fun x hx y hy => ?_⟩
  · show (a :: o).Nodup
    exact List.nodup_cons.mpr ⟨h2, h.2.1⟩
  · rcases List.mem_cons.mp hy with e | hy
    · intro q; rw [q, e] at hx; exact h1 hx
    · exact h.2.2 x hx y hy
theorem Sim.push {a : Addr} {cl : Cell} (S1 : Sim Z c s m τ H) (hc : CellOk Z c H a cl) (hg : c.G a = none) (hf : c.F a = none) (ht : ¬ Trk c a) : Sim Z (c.more a) s (m ++ [cl]) τ H := by
  refine ⟨S1.exG, S1.exF, S1.gf, S1.ls, S1.lo, by show (c.as ++ [a]).length = _; rw [List.length_append, List.length_append, S1.la] <;> rfl, fun i x h => SlotOk.mono (c := c) (c' := c.more a) Ex.rfl' (List.prefix_append _ _) (fun _ _ => rfl) (S1.slot i x h), fun k cl' a' h1 h2 => ?_, fun b hb => ?_, ?_⟩
  · have h2 : (c.as ++ [a])[k]? = some a' := h2
    by_cases q : k < m.length
    · rw [List.getElem?_append_left q] at h1
      rw [List.getElem?_append_left (by rw [S1.la]; exact q)] at h2
      exact CellOk.mono (c := c) (c' := c.more a) Ex.rfl' (List.prefix_append _ _) rfl (S1.cell k cl' a' h1 h2)
    · have e : k = m.length := by
        have := (List.getElem?_eq_some_iff.mp h1).1
        rw [List.length_append] at this
        simp at this
        omega
      subst e
      rw [List.getElem?_append_right (Nat.le_refl _)] at h1
      rw [List.getElem?_append_right (by rw [S1.la]; exact Nat.le_refl _)] at h2
      simp at h1
      rw [S1.la] at h2
      simp at h2
      subst h1 h2
      exact CellOk.mono (c := c) (c' := c.more a) Ex.rfl' (List.prefix_append _ _) rfl hc
  · rcases hb with hb | hb
    · rcases List.mem_append.mp hb with hb | hb
      · exact S1.gn b (.inl hb)
      · have e : b = a := by simpa using hb
        subst e; exact ⟨hg, hf⟩
    · exact S1.gn b (.inr hb)
  · exact nd_more S1.nd (fun q => ht (.inl q)) fun q => ht (.inr (os_mem.mp q))
/-- the last cell is let go -/
theorem Sim.drop {a : Addr} {cl : Cell} (S0 : Sim Z c s m τ H0) (S1 : Sim Z c' s (m ++ [cl]) τ H) (l : (c.more a).le c') : c'.as = c.as ++ [a] ∧ Sim Z { c' with as := c.as } s m τ H ∧ CellOk Z c' H a cl ∧ c'.G a = none ∧ c'.F a = none ∧ ¬ Trk { c' with as := c.as } a ∧ c.le { c' with as := c.as } := by
  have ea : c'.as = c.as ++ [a] := by
    obtain ⟨t, e⟩ := l.a
    have h1 := S1.la
    rw [← e, List.length_append, List.length_append] at h1
    have h2 : (c.more a).as = c.as ++ [a] := rfl
    rw [h2, List.length_append, S0.la] at h1
    simp at h1
    subst h1
    rw [← e, h2, List.append_nil]
  have lst : (m ++ [cl])[m.length]? = some cl := by rw [List.getElem?_append_right (Nat.le_refl _)]; simp
  have lsa : c'.as[m.length]? = some a := by rw [ea, ← S0.la, List.getElem?_append_right (Nat.le_refl _)]; simp
  have ha : a ∈ c'.as := List.mem_of_getElem? lsa
  have nd := S1.nd
  rw [ea] at nd
  have nd2 : a ∉ c.as ∧ (c.as ++ c'.os.filterMap id).Nodup ∧ a ∉ c'.os.filterMap id := by
    rw [List.append_assoc] at nd
    have n1 := nd
    rw [List.nodup_append] at nd
    obtain ⟨k1, k2, k3⟩ := nd
    have k4 := List.nodup_cons.mp k2
    refine ⟨fun q => k3 a q a List.mem_cons_self rfl, ?_, k4.1⟩
    rw [List.nodup_append]
    exact ⟨k1, k4.2, fun x hx y hy => k3 x hx y (List.mem_cons_of_mem _ hy)⟩
  refine ⟨ea, ⟨S1.exG, S1.exF, S1.gf, S1.ls, S1.lo, S0.la, fun i x h => ?_, fun k cl' a' h1 h2 => ?_, fun b hb => S1.gn b (hb.elim (fun q => .inl (by rw [ea]; exact List.mem_append_left _ q)) .inr), nd2.2.1⟩, S1.cell _ _ _ lst lsa, (S1.gn a (.inl ha)).1, (S1.gn a (.inl ha)).2, ?_, ⟨l.g, l.f, List.prefix_refl _, l.o⟩⟩
  · have q0 := S0.slot i x h
    have q1 := S1.slot i x h
    cases x with
    | emp => exact q1
    | val d =>
      obtain ⟨_, v, _, r0⟩ := q0
      obtain ⟨h1, v', h2, r1⟩ := q1
      rw [ea] at r1
      exact ⟨h1, v', h2, r0.shrink r1⟩
    | own xs =>
      obtain ⟨_, _, _, vs, _, r0⟩ := q0
      obtain ⟨b, h1, h2, vs', h3, r1⟩ := q1
      rw [ea] at r1
      exact ⟨b, h1, h2, vs', h3, r0.shrink r1⟩
  · have q0 := S0.cell k cl' a' h1 h2
    have hk : k < m.length := (List.getElem?_eq_some_iff.mp h1).1
    have q1 := S1.cell k cl' a' (by rw [List.getElem?_append_left hk]; exact h1) (by rw [ea]; exact pre_get (List.prefix_append _ _) h2)
    cases cl' with
    | lst xs =>
      obtain ⟨vs, _, r0⟩ := q0
      obtain ⟨vs', h3, r1⟩ := q1
      rw [ea] at r1
      exact ⟨vs', h3, r0.shrink r1⟩
    | ins j fs =>
      obtain ⟨_, _, _, ⟨_, r0⟩, _⟩ := q0
      obtain ⟨dx, gs, h3, ⟨h4, r1⟩, h5⟩ := q1
      rw [ea] at r1
      exact ⟨dx, gs, h3, ⟨h4, r0.shrink r1⟩, h5⟩
    | dct tt kvs =>
      obtain ⟨_, _, q0⟩ := q0
      obtain ⟨_, r0⟩ := q0.vals
      obtain ⟨o, h3, r1⟩ := q1
      rw [ea] at r1
      refine ⟨o, h3, ?_⟩
      cases o <;> first | exact r1.elim | exact ⟨r1.1, r1.2.1, r0.shrink r1.2.2⟩
  · rintro (t | t)
    · exact nd2.1 t
    · exact nd2.2.2 (os_mem.mpr t)
end
section
variable {Z : Ze} {C : CF} {k : Nat} {N : List Str} {X : Cx} {sc : Scope} {W : WX}
variable {pins : List (Addr × Obj)} {σ : L2.St} {H : Hp} {sh : Shared} {cf : Cfg} {s : List S} {m : Mu}
theorem zip_of_pairs {fs : List (Nat × D)} {gs : List (Str × V)} (h : gs.map (·.1) = fs.map (fun p => Z.fnm p.1)) : gs = ((fs.map (·.1)).map Z.fnm).zip (gs.map (·.2)) := by
  have e : ((fs.map (·.1)).map Z.fnm) = gs.map (·.1) := by rw [h, List.map_map]; rfl
  rw [e]
  clear h e
  induction gs with
  | nil => rfl
  | cons g gs ih =>
    rw [List.map_cons, List.map_cons, List.zip_cons_cons, ← ih]
/-- a class is called -/
theorem make_run (c : Cok Z C k N X sc W) {cl n : Nat} {ks : List Str} {ds : List D} {f : Nat} (hi : Z.T.ini cl = some f) (hpat : Z.pat f (n + 1) ks ds = true) {us ws : List Value} {vs zs : List V} {xs ys : List D} {Q : VK}
    (I : Inv X pins σ H sh) (S1 : Sim Z.toZt cf s m σ H) (r : Vals vs us) (rz : Vals zs ws) (rx : Rps Z.toZt cf.G cf.as xs vs) (ry : Rps Z.toZt cf.G cf.as ys zs) (l1 : us.length = n) (l2 : ws.length = ks.length)
    (h : Out Z W (RelD Z) cf s σ (newD Z.T C cl (xs ++ ys ++ ds) m) Q) (hfsh : Z.fsh f = false) : wpAny (model X.prog X.w) X.A (call (.ref (Z.cad cl)) us (ks.zip ws)) (EP X pins σ Q) X.xe sh := by
  obtain ⟨M1, M⟩ := c.txt.ini _ _ hi
  obtain ⟨fd, ps, dvs, dus, F1, hl, rd, rp, hb⟩ := (c.fns _ _ _ _ hpat).ok
  have hx0 : H (sh.heap.objs.size + 1) = none := I.hok.fresh (Nat.le_succ _)
  have hd0 : H sh.heap.objs.size = none := I.hok.fresh (Nat.le_refl _)
  have I2 := Inv.made (C := Z.cad cl) I
  have kin2 := I2.kIn
  rw [c.eK] at kin2
  have r2 : Vals (V.ref (sh.heap.objs.size + 1) :: vs ++ zs ++ dvs) (Value.ref (sh.heap.objs.size + 1) :: us ++ ws ++ dus) := Vals.append (Vals.append (show Vals (V.ref (sh.heap.objs.size + 1) :: vs) (Value.ref (sh.heap.objs.size + 1) :: us) from .cons rfl r) rz) rd
  have M' : Mk X.K (Z.cad cl) (Z.fad f) := by rw [c.eK]; exact M
  have F1' : FnOk X.prog X.w X.K X.mg X.base (L2.CX X.prog X.w) k (Z.fad f) fd ps (SpM Z C f) := by rw [c.eK]; exact F1
  -- the new cell
  have hdx : (upd H sh.heap.objs.size (.own (sh.heap.objs.size + 1))) (sh.heap.objs.size + 1) = none := by
    rw [upd_ne (Nat.ne_of_gt (Nat.lt_succ_self _))]; exact hx0
  have S2 := (S1.new (o := .own (sh.heap.objs.size + 1)) hd0).new (o := .ins (Z.cad cl) sh.heap.objs.size []) hdx
  obtain ⟨f1, f2, f3⟩ := S1.fresh hx0
  have S3 : Sim Z.toZt (cf.more (sh.heap.objs.size + 1)) s (m ++ [.ins cl []]) σ _ := S2.push (a := sh.heap.objs.size + 1) (cl := .ins cl []) ⟨sh.heap.objs.size, [], upd_same, ⟨rfl, .nil⟩, fun p hp => by cases hp⟩ f1 f2 f3
  have fin : RunQ Z W (cf.more (sh.heap.objs.size + 1)) s σ σ false (fun v H2 => v = .non ∧ Q (.ref (sh.heap.objs.size + 1)) H2) (C f (.ref m.length :: (xs ++ ys ++ ds)) (m ++ [.ins cl []])) := by
    unfold newD at h
    rw [hi] at h
    have h : Out Z W (RelD Z) cf s σ (match C f (.ref m.length :: (xs ++ ys ++ ds)) (m ++ [.ins cl []]) with
      | .ok d m' => (match d with
        | .non => if Z.T.frz cl then (match m'.getLast? with
            | some (.ins c' fs) => (open Classical in if m'.dropLast = m ∧ c' = cl ∧ fs.map (·.1) = Z.T.fld cl ∧ plns (fs.map (·.2)) = true then .ok (.obj cl (fs.map (·.2))) m else .bad)
            | _ => .bad) else .ok (.ref m.length) m'
        | _ => .bad)
      | .exc e p m' => (open Classical in if m'.take m.length = m ∧ pln p = true then .exc e p m else .bad)
      | .bad => .bad) Q := h
    unfold RunQ
    cases e : C f (.ref m.length :: (xs ++ ys ++ ds)) (m ++ [.ins cl []]) with
    | ok d m' =>
      rw [e] at h
      cases d with
      | non =>
        intro c' v H' l S4 rr
        unfold RetRel at rr
        rw [if_neg Bool.false_ne_true] at rr
        unfold Rp at rr
        refine ⟨rr, ?_⟩
        have h : Out Z W (RelD Z) cf s σ (if Z.T.frz cl then (match m'.getLast? with
            | some (.ins c' fs) => (open Classical in if m'.dropLast = m ∧ c' = cl ∧ fs.map (·.1) = Z.T.fld cl ∧ plns (fs.map (·.2)) = true then .ok (.obj cl (fs.map (·.2))) m else .bad)
            | _ => .bad) else .ok (.ref m.length) m') Q := h
        by_cases hz : Z.T.frz cl = true
        · rw [if_pos hz] at h
          cases w : m'.getLast? with
          | none => rw [w] at h; exact h.elim
          | some cc =>
            rw [w] at h
            cases cc with
            | lst _ => exact h.elim
            | dct _ _ => exact h.elim
            | ins c2 fs =>
              have h7 : Out Z W (RelD Z) cf s σ (open Classical in if m'.dropLast = m ∧ c2 = cl ∧ fs.map (·.1) = Z.T.fld cl ∧ plns (fs.map (·.2)) = true then .ok (.obj cl (fs.map (·.2))) m else .bad) Q := h
              clear h
              split at h7
              · rename_i hh
                obtain ⟨h1, h2, h3, h4⟩ := hh
                subst h2
                have em : m' = m ++ [.ins c2 fs] := by
                  obtain ⟨ys, e⟩ := List.getLast?_eq_some_iff.mp w
                  rw [e, List.dropLast_concat] at h1
                  rw [e, h1]
                subst em
                obtain ⟨ea, S5, ck, g1, g2, g3, l5⟩ := S1.drop S4 l
                obtain ⟨dx, gs, k1, ⟨k2, k3⟩, k4⟩ := ck
                obtain ⟨S6, l6⟩ := S5.keep k1 g1 g2 g3
                refine Out.to (show Out Z W (RelD Z) cf s σ (.ok (.obj c2 (fs.map (·.2))) m) Q from h7) (l5.trans l6) S6 (show Rep Z.toZt _ s (.obj c2 (fs.map (·.2))) _ from rep_obj.mpr ⟨_, dx, gs.map (·.2), rfl, ?_, ?_, ?_⟩)
                · show (upd c'.G _ _) _ = _
                  rw [upd_same, ← h3, ← zip_of_pairs k2]
                · rw [← h3, List.length_map, List.length_map]
                · exact (Rps.pure h4 k3).mono l6.g l6.a
              · exact h7.elim
        · rw [if_neg hz] at h
          refine h.to (Cfg.le_more.trans l) S4 (Rep.of ?_)
          unfold Rp
          refine ⟨_, pre_get l.a ?_, rfl⟩
          show (cf.as ++ [sh.heap.objs.size + 1])[m.length]? = _
          rw [← S1.la, List.getElem?_append_right (Nat.le_refl _)]
          simp
      | _ => exact h.elim
    | exc x p m' =>
      rw [e] at h
      intro c' cls dd H' l S4 rr
      have h : Out Z W (RelD Z) cf s σ (open Classical in if m'.take m.length = m ∧ pln p = true then .exc x p m else .bad) Q := h
      split at h
      · rename_i hh
        obtain ⟨h1, h2⟩ := hh
        -- the cells behind the old ones are let go
        have e1 : m' = m ++ m'.drop m.length := by
          rw (config := { occs := .pos [1] }) [← List.take_append_drop m.length m', h1]
        obtain ⟨t, et⟩ := (Cfg.le_more.trans l).a
        have S5 : Sim Z.toZt { c' with as := cf.as } s m σ H' := by
          have nd := S4.nd
          rw [← et] at nd
          refine ⟨S4.exG, S4.exF, S4.gf, S4.ls, S4.lo, S1.la, fun i x h => ?_, fun k cl' a' h1 h2 => ?_, fun b hb => S4.gn b (hb.elim (fun q => .inl (by rw [← et]; exact List.mem_append_left _ q)) .inr), ?_⟩
          · have q0 := S1.slot i x h
            have q1 := S4.slot i x h
            cases x with
            | emp => exact q1
            | val d =>
              obtain ⟨_, v, _, r0⟩ := q0
              obtain ⟨h1, v', h2, r1⟩ := q1
              rw [← et] at r1
              exact ⟨h1, v', h2, r0.shrink r1⟩
            | own xs =>
              obtain ⟨_, _, _, vs, _, r0⟩ := q0
              obtain ⟨b, h1, h2, vs', h3, r1⟩ := q1
              rw [← et] at r1
              exact ⟨b, h1, h2, vs', h3, r0.shrink r1⟩
          · have q0 := S1.cell k cl' a' h1 h2
            have hk : k < m.length := (List.getElem?_eq_some_iff.mp h1).1
            have q1 := S4.cell k cl' a' (by rw [e1, List.getElem?_append_left hk]; exact h1) (by rw [← et]; exact pre_get (List.prefix_append _ _) h2)
            cases cl' with
            | lst xs =>
              obtain ⟨vs, _, r0⟩ := q0
              obtain ⟨vs', h3, r1⟩ := q1
              rw [← et] at r1
              exact ⟨vs', h3, r0.shrink r1⟩
            | ins j fs =>
              obtain ⟨_, _, _, ⟨_, r0⟩, _⟩ := q0
              obtain ⟨dx, gs, h3, ⟨h4, r1⟩, h5⟩ := q1
              rw [← et] at r1
              exact ⟨dx, gs, h3, ⟨h4, r0.shrink r1⟩, h5⟩
            | dct tt kvs =>
              obtain ⟨_, _, q0⟩ := q0
              obtain ⟨_, r0⟩ := q0.vals
              obtain ⟨o, h3, r1⟩ := q1
              rw [← et] at r1
              refine ⟨o, h3, ?_⟩
              cases o <;> first | exact r1.elim | exact ⟨r1.1, r1.2.1, r0.shrink r1.2.2⟩
          · rw [List.nodup_append] at nd ⊢
            have k1 := nd.1
            rw [List.nodup_append] at k1
            exact ⟨k1.1, nd.2.1, fun x hx y hy => nd.2.2 x (List.mem_append_left _ hx) y hy⟩
        refine h { c' with as := cf.as } cls dd H' ⟨l.g, l.f, List.prefix_refl _, l.o⟩ S5 ?_
        unfold XRep at rr ⊢
        refine ⟨rr.1, ?_⟩
        have rr2 := rr.2
        split
        · rename_i q
          rw [q] at rr2
          exact rr2
        · rename_i g q
          rw [q] at rr2
          obtain ⟨d, v, k1, k2, k3, k4, k5, k6⟩ := rr2
          exact ⟨d, v, k1, k2, k3.pure h2, k4, k5, fun t => k6 (t.elim (fun t => .inl (by rw [← et]; exact List.mem_append_left _ t)) .inr)⟩
      · exact h.elim
    | bad => rw [e] at h; exact h.elim
  have rpx : Rps Z.toZt (cf.more (sh.heap.objs.size + 1)).G (cf.more (sh.heap.objs.size + 1)).as (.ref m.length :: xs ++ ys ++ ds) (V.ref (sh.heap.objs.size + 1) :: vs ++ zs ++ dvs) := by
    refine ((Rps.cons ?_ (rx.mono Ex.rfl' (List.prefix_append _ _))).append (ry.mono Ex.rfl' (List.prefix_append _ _))).append (rp _ _)
    unfold Rp
    refine ⟨_, ?_, rfl⟩
    show (cf.as ++ [sh.heap.objs.size + 1])[m.length]? = _
    rw [← S1.la, List.getElem?_append_right (Nat.le_refl _)]
    simp
  have hlen : (.ref m.length :: xs ++ ys ++ ds).length = Z.pars f := by
    rw [List.length_append, List.length_append, List.length_cons, rx.length, ry.length, r.length, rz.length, l1, l2]
    exact hl
  have sp := c.spm (f := f) (Q := fun v H2 => v = .non ∧ Q (.ref (sh.heap.objs.size + 1)) H2) (σ := σ) S3 (rpx) (by rw [hfsh]; exact fin) hlen
  refine wpAny_call (make_map (f := Z.fad f) I.kIn M'.makes M'.init (beq_iff_eq.mp M'.fn) (codeAny_mono (F1'.run _ X.stack _ _ ⟨Value.ref (sh.heap.objs.size + 1) :: us, ks.zip ws⟩ (Value.ref (sh.heap.objs.size + 1) :: us ++ ws ++ dus) _ _ (WE W σ) ((c.room.mono (show k + 1 ≤ k + 7 by omega)).make (Z.cad cl) us (ks.zip ws))
    (I2.env0.make (Z.cad cl) us (ks.zip ws)) (hb _ (Value.ref (sh.heap.objs.size + 1) :: us) ws kin2 (by rw [List.length_cons, l1]) l2) r2 sp) fun r s' hq' => ?_))
  cases r with
  | error e => exact passAt c.tk σ pins _ _ e s' I2 hq'
  | ok fl =>
    cases fl with
    | ret u =>
      obtain ⟨v, H', I3, rv, ev, q3⟩ := I2.after hq'
      subst ev
      exact ⟨rv, ⟨V.ref (sh.heap.objs.size + 1), H', I3, rfl, q3⟩⟩
    | next => exact False.elim hq'
    | brk => exact False.elim hq'
    | cont => exact False.elim hq'
theorem case_new {cl : Nat} {as ks : IEs} {ds : List D} (ha : SEs Z C k as) (hk : SKs Z C k ks) (hfsh : ∀ c f, Z.T.ini c = some f → Z.fsh f = false) : SE Z C k (.new cl as ks ds) := by
  intro N X sc W c e h
  unfold chkE at h
  split at h
  · rename_i x p args kws pos
    simp only [Bool.and_eq_true, decide_eq_true_eq] at h
    obtain ⟨⟨h1, h2⟩, ⟨h3, h4⟩, h5⟩ := h
    subst h1
    obtain ⟨g1, g2, g3⟩ := c.gl h2
    cases hi : Z.T.ini cl with
    | none => rw [hi] at h5; cases h5
    | some f =>
      rw [hi] at h5
      obtain ⟨e1, e2⟩ := c.txt.ini _ _ hi
      have kp := e2.kp
      rw [← c.eK] at kp
      have hp : PE X (.Call (.Name (Z.gcl cl) p) args kws pos) (tE Z W (ev Z.T C (.new cl as ks ds))) := by
        refine ⟨fun pins sh σ H Q I q => ?_⟩
        obtain ⟨cf, s, m, S1, q⟩ := q
        simp only [ev] at q
        refine wpAny_Call_Name_kw (ld_glob I g1 e1 ?_ g2)
        refine args_run c h3 h4 ha hk kp (first := []) (g := fun xs ys m2 => if (xs.all fun x => !x.isBor) = true ∧ (ys.all fun x => !x.isBor) = true then newD Z.T C cl (xs ++ ys ++ ds) m2 else .bad) I S1 q ?_
        intro cf' xs ys m' vs zs us ws H' sh' l I' S' rx ry rv rw' lu lw q'
        split at q'
        · rename_i hb
          exact make_run c hi h5 I' S' rv rw' (rx.rps hb.1) (ry.rps hb.2) lu lw q' (hfsh _ _ hi)
        · exact q'.elim
      exact ⟨hp, test_of c hp fun _ => rfl⟩
  · cases h
end
end Pm
end
end
section
set_option Elab.async false
set_option linter.all false
set_option maxRecDepth 100000
set_option maxHeartbeats 4000000
/-! Pm13: slices, tuples, built-ins, isinstance, f-strings. -/
noncomputable section
open PySem PySem.Builtin in
theorem Pm.str_own {prog : Program} {w : World} {A : Around} {E : Value → Shared → Prop} {s : Shared} {K : PySem.W.Frag} {x C f : Addr} {ox : Obj} {od : Option Obj} {Q : Value → Shared → Prop} (hu : A.in1.in1.units < cLine) (X : K.In s.heap) (I : PySem.W.InstAt s.heap x ox C od)
    (hs : PySem.W.findIn K (.ref C) "__str__" = some (some (.ref f))) (hf : PySem.W.isFn K (.ref f) = true) (h : wpAny (model prog w) A.in1.in1 (call (.ref f) [.ref x]) (fun v s' => ∃ y t, v = .str y t ∧ Q v s') E s) : wpAny (model prog w) A (call (.type "str") [.ref x]) Q E s := by
  refine callType_codes (T := "str") (Bi := Builtin.«object.__init__») (Q₁ := fun r s₁ => ∃ y u, r = .str y u ∧ Q r s₁) PySem.F.called_str (PySem.F.typeCall_str_1 _) PySem.F.entry_object_init ?_ ?_
  · refine codeAny_of_tree ?_
    show wpAny _ A.in1.in1 (do checkBuiltinCall "str.__new__" ⟨[.type "str", .ref x], []⟩; again (.builtin "str.__new__" ⟨[.type "str", .ref x], []⟩)) _ _ s
    refine wpAny_bind (wpAny_of_eq (PySem.F.newCall_str_1 _) (wpAny_pure ⟨plainId_quiet (by decide +kernel) _, codeAny_builtin PySem.F.entry_str_new ?_⟩))
    rw [Around.under_plainId (by decide +kernel) _]
    rw [str_new_tree]
    refine wpAny_bind (wpAny_pure ?_)
    refine wpAny_bind (wpAny_of_eq isSubtype_str_str ?_)
    have key : wpAny (model prog w) A.in1.in1 (PySem.Builtin.Str.strOf (.ref x)) (fun r s₁ => ∃ y u, r = .str y u ∧ Q r s₁) E s := by
      unfold PySem.Builtin.Str.strOf
      rw [show PySem.Builtin.Str.isExactStr (.ref x) = false from rfl]
      refine wpAny_bind (m := cRoomFor _ _) (wpAny_cRoomFor hu ?_)
      refine wpAny_bind (m := callSpecial? (.ref x) (Str.ofString "__str__")) (PySem.W.special_fn X I hs (beq_iff_eq.mp hf) (wpAny_mono h (fun r s' z => ?_) fun _ _ y => y))
      obtain ⟨y, t, rfl, z⟩ := z
      exact wpAny_pure ⟨_, _, rfl, z⟩
    exact wpAny_bind (wpAny_mono key (fun r s₁ hr => wpAny_pure hr) fun _ _ y => y)
  · rintro obj s₁ ⟨y, u, rfl, hq⟩
    exact ⟨typeIs_str _ _ _, PySem.F.args_object_init_2 _ _, object_init_meets PySem.F.called_str.init.lookup PySem.F.called_str.made (by decide) prog w A.in1 _ s₁ ⟨typeIs_str _ _ _, rfl, hq⟩⟩
namespace Pm
open PySem PySem.Spec L2
section
variable {Z : Ze} {C : CF} {k : Nat} {N : List Str} {X : Cx} {sc : Scope} {W : WX}
variable {pins : List (Addr × Obj)} {σ τ : L2.St} {H : Hp} {sh : Shared} {cf : Cfg} {s : List S} {m : Mu}
/-! ### slices -/
theorem part_of {e : Option Expr} {a : IE} (ha : SE Z C k a) (c : Cok Z C k N X sc W) (h : (match e with
      | none => isNonIE a
      | some l => chkE Z N a sc l) = true) : PO X e (fun σ H Q => ∃ cf s m, Sim Z.toZt cf s m σ H ∧ Out Z W (fun c' s' d o _ => partOf d = some o) cf s σ (ev Z.T C a s m) Q ∧ ∀ d m', ev Z.T C a s m = .ok d m' → (partOf d).isSome = true) := by
  cases e with
  | none =>
    refine ⟨fun pins sh σ H Q I q => ?_⟩
    obtain ⟨cf, s, m, S1, o, _⟩ := q
    cases a with
    | con d =>
      cases d with
      | non =>
        refine po_none.run pins sh σ H Q I ?_
        exact Out.done (show Out Z W (fun c' s' d o _ => partOf d = some o) cf s σ (.ok .non m) Q from o) S1 rfl
      | _ => cases h
    | _ => cases h
  | some l =>
    refine ⟨fun pins sh σ H Q I q => ?_⟩
    obtain ⟨cf, s, m, S1, o, hp⟩ := q
    rw [evalPart_some]
    refine thn ((ha c l h).1.run pins sh σ H (fun v H1 => ∃ op, ((op = none ∧ v = .non) ∨ ∃ i, op = some i ∧ v = .int i) ∧ Q op H1) I ⟨cf, s, m, S1, ?_⟩) fun u s1 hu => ?_
    · cases e : ev Z.T C a s m with
      | ok d m1 =>
        rw [e] at o
        have hp := hp d m1 e
        intro c1 v H1 l S2 r
        cases d with
        | non => exact ⟨none, .inl ⟨rfl, rep_non.mp r⟩, o c1 none H1 l S2 rfl⟩
        | int i => exact ⟨some i, .inr ⟨i, rfl, rep_int.mp r⟩, o c1 (some i) H1 l S2 rfl⟩
        | _ => cases hp
      | exc x p m1 => rw [e] at o; exact o
      | bad => rw [e] at o; exact o
    · obtain ⟨v, H1, I1, rv, op, hv, q⟩ := hu
      rcases hv with ⟨rfl, rfl⟩ | ⟨i, rfl, rfl⟩
      · cases rv
        exact ⟨none, H1, I1, .none, q⟩
      · obtain ⟨t, rfl⟩ := rv
        exact ⟨some i, H1, I1, .int _ _, q⟩
theorem cut_rps {G : Hp} {as : List Addr} {xs : List D} {vs : List V} {lo hi : Option Int} (r : Rps Z.toZt G as xs vs) : Rps Z.toZt G as (cutD xs lo hi) (cutV vs lo hi) := by
  unfold cutD cutV
  rw [r.length]
  exact (r.drop _).take _
theorem slices {a lo hi : IE} (ha : SE Z C k a) (hl : SE Z C k lo) (hh : SE Z C k hi) (c : Cok Z C k N X sc W) {x : Expr} {l h : Option Expr} (h1 : chkE Z N a sc x = true) (h2 : (match l with
      | none => isNonIE lo
      | some l => chkE Z N lo sc l) = true) (h3 : (match h with
      | none => isNonIE hi
      | some l => chkE Z N hi sc l) = true) {σ : L2.St} {H : Hp} {Q : VK} {cf : Cfg} {s : List S} {m : Mu} {α : Type} {Rel : Cfg → List S → α → V → Hp → Prop} {g : D → Option Int → Option Int → Mu → R α}
    (S1 : Sim Z.toZt cf s m σ H) (q : Out Z W Rel cf s σ ((ev Z.T C a s m).bind fun x m1 => (ev Z.T C lo s m1).bind fun y m2 => (match partOf y with
      | none => .bad
      | some a => (ev Z.T C hi s m2).bind fun z m3 => (match partOf z with
        | none => .bad
        | some b => g x a b m3))) Q) (r : V → Option Int → Option Int → Hp → VK → Prop)
    (k : ∀ c1 x m3 vx a b H3, cf.le c1 → Sim Z.toZt c1 s m3 σ H3 → Rep Z.toZt c1 s x vx → Out Z W Rel c1 s σ (g x a b m3) Q → r vx a b H3 Q) :
    tSl r (tE Z W (ev Z.T C a)) (fun σ H Q => ∃ cf s m, Sim Z.toZt cf s m σ H ∧ Out Z W (fun c' s' d o _ => partOf d = some o) cf s σ (ev Z.T C lo s m) Q ∧ ∀ d m', ev Z.T C lo s m = .ok d m' → (partOf d).isSome = true)
      (fun σ H Q => ∃ cf s m, Sim Z.toZt cf s m σ H ∧ Out Z W (fun c' s' d o _ => partOf d = some o) cf s σ (ev Z.T C hi s m) Q ∧ ∀ d m', ev Z.T C hi s m = .ok d m' → (partOf d).isSome = true) σ H Q := by
  refine ⟨cf, s, m, S1, q.bind fun x m1 c1 vx H1 l1 S2 rx q2 => ⟨c1, s, m1, S2, ?_, fun d m' e => ?_⟩⟩
  · refine q2.bind fun y m2 c2 oy H2 l2 S3 ry q3 => ?_
    rw [ry] at q3
    refine ⟨c2, s, m2, S3, ?_, fun d m' e => ?_⟩
    · refine Out.bind q3 fun z m3 c3 oz H3 l3 S4 rz q4 => ?_
      rw [rz] at q4
      exact k c3 x m3 vx oy oz H3 ((l1.trans l2).trans l3) S4 ((rx.mono l2).mono l3) q4
    · have q3 : Out Z W Rel c2 s σ ((ev Z.T C hi s m2).bind fun z m3 => (match partOf z with
        | none => .bad
        | some b => g x oy b m3)) Q := q3
      rw [e, R.bind_ok] at q3
      cases w : partOf d with
      | none => rw [w] at q3; exact q3.elim
      | some _ => rfl
  · rw [e, R.bind_ok] at q2
    cases w : partOf d with
    | none => rw [w] at q2; exact q2.elim
    | some _ => rfl
theorem case_slc {a lo hi : IE} (ha : SE Z C k a) (hl : SE Z C k lo) (hh : SE Z C k hi) : SE Z C k (.slc a lo hi) := by
  intro N X sc W c e h
  unfold chkE at h
  split at h
  · rename_i x l h' p2 p
    rw [Bool.and_eq_true, Bool.and_eq_true] at h
    obtain ⟨h1, h2, h3⟩ := h
    have hp : PE X (.Subscript x (.Slice l h' none p2) p) (tE Z W (ev Z.T C (.slc a lo hi))) := by
      refine PE.of (pe_slice (sl_tupA.or (sl_list.or sl_str)) (ha c x h1).1 (part_of hl c h2) (part_of hh c h3)) fun σ H Q q => ?_
      obtain ⟨cf, s, m, S1, q⟩ := q
      simp only [ev] at q
      refine slices ha hl hh c h1 h2 h3 S1 (g := fun x a b m3 => R.ofO (slcD x a b m3) m3) q _ ?_
      intro c1 x m3 vx a b H3 l S2 rx q2
      have gen : ∀ x, Rep Z.toZt c1 s x vx → Out Z W (RelD Z) c1 s σ (R.ofO ((lstT m3 x).map fun xs => .lst (cutD xs a b)) m3) Q → rSlA X.K vx a b H3 Q ∨ rSlL X.K vx a b H3 Q ∨ rSlS vx a b H3 Q := fun x rx q2 => by
        cases w : lstT m3 x with
        | none => rw [w] at q2; exact q2.elim
        | some xs =>
          rw [w] at q2
          obtain ⟨a1, vs, rfl, g1, g2⟩ := S2.lstT rx w
          exact .inr (.inl ⟨a1, vs, rfl, SqL.of g1, out_lst S2 (cut_rps g2) q2⟩)
      cases x with
      | tup xs =>
        have q2 : Out Z W (RelD Z) c1 s σ (.ok (.tup (cutD xs a b)) m3) Q := q2
        obtain ⟨a1, vs, rfl, g1, g2⟩ := rep_tupA.mp rx
        refine .inl ⟨a1, vs, rfl, by rw [c.eK]; exact S2.exG.sqT g1.1, fun hw => ?_, fun _ => out_tup S2 (cut_rps g2) q2⟩
        have e : cutD xs a b = xs := by
          unfold cutD
          rw [g2.length, hw.1, hw.2, List.drop_zero, Nat.sub_zero, ← g2.length, List.take_length]
        rw [e] at q2
        exact q2.done S2 (rep_tup.mpr ⟨a1, vs, rfl, g1, g2⟩)
      | str z =>
        have q2 : Out Z W (RelD Z) c1 s σ (R.ofO (if z.length ≤ lim then some (.str (L2.cutS z a b)) else none) m3) Q := q2
        split at q2
        · rename_i hz
          have e := rep_str.mp rx
          subst e
          exact .inr (.inr ⟨z, rfl, Nat.le_trans hz line_lim, Out.done (show Out Z W (RelD Z) c1 s σ (.ok (.str (L2.cutS z a b)) m3) Q from q2) S2 (rep_str.mpr rfl)⟩)
        · exact q2.elim
      | _ => exact gen _ rx q2
    exact ⟨hp, test_of c hp fun _ => rfl⟩
  · cases h
theorem case_cut {a lo hi : IE} (ha : SE Z C k a) (hl : SE Z C k lo) (hh : SE Z C k hi) : SF Z C k (.cut a lo hi) := by
  intro N X sc W c e h
  unfold chkF at h
  split at h
  · rename_i x l h' p2 p
    rw [Bool.and_eq_true, Bool.and_eq_true] at h
    obtain ⟨h1, h2, h3⟩ := h
    refine PE.of (pe_slice sl_list (ha c x h1).1 (part_of hl c h2) (part_of hh c h3)) fun σ H Q q => ?_
    obtain ⟨cf, s, m, S1, q⟩ := q
    simp only [evF] at q
    refine slices ha hl hh c h1 h2 h3 S1 (g := fun x a b m3 => R.ofO ((lstT m3 x).map fun xs => cutD xs a b) m3) q _ ?_
    intro c1 x m3 vx a b H3 l S2 rx q2
    cases w : lstT m3 x with
    | none => rw [w] at q2; exact q2.elim
    | some xs =>
      rw [w] at q2
      obtain ⟨a1, vs, rfl, g1, g2⟩ := S2.lstT rx w
      exact ⟨a1, vs, rfl, SqL.of g1, out_fre S2 (cut_rps g2) q2⟩
  · cases h
theorem case_tup {as : IEs} (ha : SEs Z C k as) : SE Z C k (.tup as) := by
  intro N X sc W c e h
  unfold chkE at h
  split at h
  · rename_i es q p
    have hp : PE X (.Tuple es q p) (tE Z W (ev Z.T C (.tup as))) := by
      refine PE.of (pe_tup (ha c es h)) fun σ H Q q => ?_
      obtain ⟨cf, s, m, S1, q⟩ := q
      simp only [ev] at q
      refine ⟨cf, s, m, S1, q.bind fun xs m1 c1 vs H1 l S2 rx q2 => ?_⟩
      split at q2
      · rename_i hb
        exact ⟨Nat.le_trans (by rw [← rx.length]; exact hb.2) line_lim, out_tup S2 (rx.rps hb.1) q2⟩
      · exact q2.elim
    exact ⟨hp, test_of c hp fun _ => rfl⟩
  · cases h
theorem case_fl {as : IEs} (ha : SEs Z C k as) : SF Z C k (.lst as) := by
  intro N X sc W c e h
  unfold chkF at h
  split at h
  · rename_i es p
    refine PE.of (pe_lst (ha c es h)) fun σ H Q q => ?_
    obtain ⟨cf, s, m, S1, q⟩ := q
    simp only [evF] at q
    refine ⟨cf, s, m, S1, q.bind fun xs m1 c1 vs H1 l S2 rx q2 => ?_⟩
    split at q2
    · rename_i hb
      exact ⟨Nat.le_trans (by rw [← rx.length]; exact hb.2) line_lim, out_fre S2 (rx.rps hb.1) q2⟩
    · exact q2.elim
  · cases h
theorem case_cat {a b : IE} (ha : SE Z C k a) (hb : SE Z C k b) : SF Z C k (.cat a b) := by
  intro N X sc W c e h
  unfold chkF at h
  split at h
  · rename_i l r p
    rw [Bool.and_eq_true] at h
    refine PE.of (pe_op op_cat (ha c l h.1).1 (hb c r h.2).1) fun σ H Q q => ?_
    obtain ⟨cf, s, m, S1, q⟩ := q
    simp only [evF] at q
    refine ⟨cf, s, m, S1, q.bind fun x m1 c1 vx H1 l1 S2 rx q2 => ⟨c1, s, m1, S2, q2.bind fun y m2 c2 vy H2 l2 S3 ry q3 => ?_⟩⟩
    cases w : lstT m2 x with
    | none => rw [w] at q3; exact q3.elim
    | some xs =>
      cases w2 : lstT m2 y with
      | none => rw [w, w2] at q3; exact q3.elim
      | some ys =>
        rw [w, w2] at q3
        obtain ⟨a1, vs, rfl, g1, g2⟩ := S3.lstT (rx.mono l2) w
        obtain ⟨b1, us, rfl, g3, g4⟩ := S3.lstT ry w2
        have q3 : Out Z W (RelF Z) c2 s σ (if xs.length + ys.length ≤ lim then .ok (xs ++ ys) m2 else .bad) Q := q3
        split at q3
        · rename_i hz
          have e1 := g2.length
          have e2 := g4.length
          exact ⟨a1, b1, vs, us, rfl, rfl, g1, g3, Nat.le_trans (show vs.length + us.length ≤ 100000 by have hl : lim = 100000 := rfl; omega) line_lim, out_fre S3 (g2.append g4) q3⟩
        · exact q3.elim
  · cases h
theorem case_rep {a b : IE} (ha : SE Z C k a) (hb : SE Z C k b) : SF Z C k (.rep a b) := by
  intro N X sc W c e h
  unfold chkF at h
  split at h
  · rename_i l r p
    rw [Bool.and_eq_true] at h
    refine PE.of (pe_op op_rep (ha c l h.1).1 (hb c r h.2).1) fun σ H Q q => ?_
    obtain ⟨cf, s, m, S1, q⟩ := q
    simp only [evF] at q
    refine ⟨cf, s, m, S1, q.bind fun x m1 c1 vx H1 l1 S2 rx q2 => ⟨c1, s, m1, S2, q2.bind fun y m2 c2 vy H2 l2 S3 ry q3 => ?_⟩⟩
    cases w : lstT m2 x with
    | none => rw [w] at q3; exact q3.elim
    | some xs =>
      cases y with
      | int j =>
        rw [w] at q3
        have ey := rep_int.mp ry
        subst ey
        obtain ⟨a1, vs, rfl, g1, g2⟩ := S3.lstT (rx.mono l2) w
        have q3 : Out Z W (RelF Z) c2 s σ (if 0 ≤ j ∧ j ≤ lim ∧ xs.length * j.toNat ≤ lim then .ok (List.replicate j.toNat xs).flatten m2 else .bad) Q := q3
        split at q3
        · rename_i hz
          have hl : lim = 100000 := rfl
          have e1 := g2.length
          obtain ⟨z1, z2, z3⟩ := hz
          refine ⟨a1, j, vs, rfl, rfl, g1, by omega, by omega, Nat.le_trans (show vs.length * j.toNat ≤ 100000 by rw [← e1]; exact z3) line_lim, out_fre S3 (g2.flat _) q3⟩
        · exact q3.elim
      | _ => rw [w] at q3; exact q3.elim
  · cases h
theorem case_frz {f : FE} (hf : SF Z C k f) : SE Z C k (.frz f) := by
  intro N X sc W c e h
  have h' : chkF Z N f sc e = true := h
  have hp : PE X e (tE Z W (ev Z.T C (.frz f))) := by
    refine PE.of (hf c e h') fun σ H Q q => ?_
    obtain ⟨cf, s, m, S1, q⟩ := q
    simp only [ev] at q
    exact ⟨cf, s, m, S1, q.bind fun xs m1 c1 v H1 l S2 r q2 => fre_keep (f := fun _ _ => .bad) S2 r q2⟩
  refine ⟨hp, test_of c hp fun w => ?_⟩
  cases e <;> first | rfl | (cases f <;> cases h')
theorem case_cel {f : FE} (hf : SF Z C k f) : SE Z C k (.cel f) := by
  intro N X sc W c e h
  have h' : chkF Z N f sc e = true := h
  have hp : PE X e (tE Z W (ev Z.T C (.cel f))) := by
    refine PE.of (hf c e h') fun σ H Q q => ?_
    obtain ⟨cf, s, m, S1, q⟩ := q
    simp only [ev] at q
    refine ⟨cf, s, m, S1, q.bind fun xs m1 c1 v H1 l S2 r q2 => ?_⟩
    obtain ⟨a, vs, rfl, g1, g2, g3, g4, g5⟩ := r
    have S3 : Sim Z.toZt (c1.more a) s (m1 ++ [.lst xs]) σ H1 := S2.push (cl := .lst xs) ⟨vs, g1, g2⟩ g3 g4 g5
    refine q2.to Cfg.le_more S3 (Rep.of ?_)
    unfold Rp
    refine ⟨a, ?_, rfl⟩
    show (c1.as ++ [a])[m1.length]? = some a
    rw [← S2.la, List.getElem?_append_right (Nat.le_refl _)]
    simp
  refine ⟨hp, test_of c hp fun w => ?_⟩
  cases e <;> first | rfl | (cases f <;> cases h')
end
end Pm
end
end
section
set_option Elab.async false
set_option linter.all false
set_option maxRecDepth 100000
set_option maxHeartbeats 4000000
/-! Pm14: built-ins, isinstance, f-strings. -/
noncomputable section
namespace Pm
open PySem PySem.Spec L2
section
variable {Z : Ze} {C : CF} {k : Nat} {N : List Str} {X : Cx} {sc : Scope} {W : WX}
variable {pins : List (Addr × Obj)} {σ τ : L2.St} {H : Hp} {sh : Shared} {cf : Cfg} {s : List S} {m : Mu}
/-! ### str -/
theorem ret_str {fr : Bool} {c' : Cfg} {d : D} {v : V} {z : Str} {H' : Hp} (rr : RetRel Z fr c' d v H') (e : d = .str z) : v = .str z := by
  subst e
  unfold RetRel at rr
  split at rr
  · obtain ⟨zs, e, _⟩ := rr; cases e
  · unfold Rp at rr; exact rr
/-- an instance's own __str__, called at A -/
theorem str_run (c : Cok Z C k N X sc W) {A : Around} (hA : Room k A) (hfr : A.frames = X.A.frames) {cl f : Nat} {xs : List D} {z : Str} {m1 : Mu} {a1 : Addr} {Q : Str → Hp → Prop} (I : Inv X pins σ H sh) (S1 : Sim Z.toZt cf s m τ H) (rx : Rp Z.toZt cf.G cf.as (.obj cl xs) (.ref a1))
    (hf : Z.T.stm cl = some f) (e : C f [.obj cl xs] m = .ok (.str z) m1) (q : ∀ cf' H', cf.le cf' → Sim Z.toZt cf' s m1 τ H' → Q z H') :
    wpAny (model X.prog X.w) A (call (.ref (Z.fad f)) [.ref a1]) (fun v s' => ∃ t H', v = .str z t ∧ Inv X pins σ H' s' ∧ Q z H') X.xe sh := by
  obtain ⟨_, _, f3, _, _⟩ := c.txt.stm _ _ hf
  have h := c.runA hA hfr (c.fns _ _ _ _ f3) (us := [.ref a1]) (ws := []) (vs := [V.ref a1]) (zs := []) (ys := []) (Q := fun v H' => v = .str z ∧ Q z H') I S1 (.cons rfl .nil) .nil (.cons rx .nil) .nil rfl rfl (by
    unfold RunQ
    simp only [List.append_nil]
    rw [e]
    exact fun c' v H' l S2 rr => ⟨ret_str rr rfl, q c' H' l S2⟩)
  refine wpAny_mono h (fun v s' hv => ?_) fun _ _ z => z
  obtain ⟨v', H', I', rv, rfl, q'⟩ := hv
  obtain ⟨t, rfl⟩ := rv
  exact ⟨t, H', rfl, I', q'⟩
def rStr (Z : Ze) (C : CF) : List V → Hp → VK → Prop := fun vs H Q => ∃ cf s m τ x vx z m1, vs = [vx] ∧ Sim Z.toZt cf s m τ H ∧ Rep Z.toZt cf s x vx ∧ strD Z.T C x m = .ok (.str z) m1 ∧ ∀ cf' H', cf.le cf' → Sim Z.toZt cf' s m1 τ H' → Q (.str z) H'
theorem strD_obj {cl : Nat} {xs : List D} {z : Str} {m m1 : Mu} (e : strD Z.T C (.obj cl xs) m = .ok (.str z) m1) : ∃ f, Z.T.stm cl = some f ∧ C f [.obj cl xs] m = .ok (.str z) m1 := by
  dsimp only [strD] at e
  cases w : Z.T.stm cl with
  | none => rw [w] at e; cases e
  | some f =>
    rw [w] at e
    have e : (C f [.obj cl xs] m).noex.bind (fun (d : D) m1 => (match d with
      | D.str z => R.ok (D.str z) m1
      | _ => R.bad)) = .ok (.str z) m1 := e
    refine ⟨f, rfl, ?_⟩
    cases w2 : C f [.obj cl xs] m with
    | ok d m2 =>
      rw [w2] at e
      simp only [R.noex_ok, R.bind_ok] at e
      split at e
      · cases e; rfl
      · cases e
    | exc x p m2 => rw [w2] at e; cases e
    | bad => rw [w2] at e; cases e
theorem in1_frames {A : Around} : A.in1.frames = A.frames := rfl
theorem cr_str (c : Cok Z C k N X sc W) : CallR X (.type "str") (rStr Z C) := by
  intro pins sh σ H vs us Q I r h
  obtain ⟨cf, s, m, τ, x, vx, z, m1, rfl, S1, rx, e, q⟩ := h
  cases x with
  | int i =>
    have ev := rep_int.mp rx
    subst ev
    dsimp only [strD] at e
    split at e
    · rename_i hz
      cases e
      exact call_str_int pins sh σ H [.int i] us Q I r ⟨i, rfl, hz, q cf H Cfg.le.rfl' S1⟩
    · cases e
  | obj cl xs =>
    obtain ⟨f, hf, e2⟩ := strD_obj e
    obtain ⟨a1, dx, vs, rfl, g1, g2, g3⟩ := rep_obj.mp rx
    obtain ⟨u, rfl, ru⟩ := vals1 r
    cases ru
    obtain ⟨f1, f2, f3, f4, f5⟩ := c.txt.stm _ _ hf
    rw [← c.eK] at f1 f2
    obtain ⟨od, J⟩ := ins_inst I (S1.exG _ _ g1)
    have r2 : Room k X.A.in1.in1 := (Room.in1 (c.room.mono (show k + 1 + 1 ≤ k + 7 by omega))).in1
    refine Pm.str_own r2.units0 I.kIn J f1 f2 (wpAny_mono (str_run c r2 rfl I S1 (rx.rp rfl) hf e2 (Q := fun z H' => Q (.str z) H') q) (fun v s' hv => ?_) fun _ _ z => z)
    obtain ⟨t, H', rfl, I', q'⟩ := hv
    exact ⟨z, t, rfl, .str z, H', I', ⟨t, rfl⟩, q'⟩
  | _ => cases e
/-! ### f-strings -/
/-- one part -/
def tFm (Z : Ze) (C : CF) (W : WX) (a : IE) : TE := fun σ H Q => ∃ cf s m, Sim Z.toZt cf s m σ H ∧ Out Z W (fun c' s' d v _ => v = .str d) cf s σ ((ev Z.T C a s m).bind fun x m1 => (match x with
    | .str y => if y.length ≤ sizeLine then R.ok y m1 else .bad
    | x => (strD Z.T C x m1).bind fun z m2 => (match z with
      | .str y => if y.length ≤ sizeLine then R.ok y m2 else .bad
      | _ => .bad))) Q
theorem strD_ok {x : D} {m m1 : Mu} {d : D} (e : strD Z.T C x m = .ok d m1) : ∃ z, d = .str z := by
  unfold strD at e
  split at e
  · split at e
    · cases e; exact ⟨_, rfl⟩
    · cases e
  · split at e
    · obtain ⟨y, m2, _, e⟩ := bind_ok_inv e
      split at e
      · cases e; exact ⟨_, rfl⟩
      · cases e
    · cases e
  · cases e
theorem strD_noex {x : D} {m m1 : Mu} {c : Nat} {p : D} : strD Z.T C x m ≠ .exc c p m1 := by
  intro e
  unfold strD at e
  split at e
  · split at e <;> cases e
  · split at e
    · rename_i f w
      cases w2 : C f _ m with
      | ok d m2 =>
        rw [w2] at e
        simp only [R.noex_ok, R.bind_ok] at e
        split at e <;> cases e
      | exc x p m2 => rw [w2] at e; cases e
      | bad => rw [w2] at e; cases e
    · cases e
  · cases e
theorem fm_of {a : IE} (ha : SE Z C k a) (c : Cok Z C k N X sc W) {e : Expr} {p : Pos} (h : chkE Z N a sc e = true) : PE X (.FormattedValue e (-1) none p) (tFm Z C W a) := by
  refine ⟨fun pins sh σ H Q I q => ?_⟩
  obtain ⟨cf, s, m, S1, q⟩ := q
  refine wpAny_FormattedValue_plain (thn ((ha c e h).1.run pins sh σ H (fun vx H1 => ∃ c1 x m1, Sim Z.toZt c1 s m1 σ H1 ∧ Rep Z.toZt c1 s x vx ∧ Out Z W (fun c' s' d v _ => v = .str d) c1 s σ (match x with
    | .str y => if y.length ≤ sizeLine then R.ok y m1 else .bad
    | x => (strD Z.T C x m1).bind fun z m2 => (match z with
      | .str y => if y.length ≤ sizeLine then R.ok y m2 else .bad
      | _ => .bad)) Q) I ⟨cf, s, m, S1, q.bind fun x m1 c1 vx H1 l S2 rx q2 => ⟨c1, x, m1, S2, rx, q2⟩⟩) fun v s1 hv => ?_)
  obtain ⟨vx, H1, I1, r1, c1, x, m1, S2, rx, q2⟩ := hv
  have str2 : ∀ {x : D}, Rep Z.toZt c1 s x vx → (∀ y, x ≠ .str y) → Out Z W (fun c' s' d v _ => v = .str d) c1 s σ ((strD Z.T C x m1).bind fun z m2 => (match z with
      | .str y => if y.length ≤ sizeLine then R.ok y m2 else .bad
      | _ => .bad)) Q → ∃ z m2, strD Z.T C x m1 = .ok (.str z) m2 ∧ z.length ≤ sizeLine ∧ Out Z W (fun c' s' (d : Str) (v : V) _ => v = .str d) c1 s σ (R.ok z m2) Q := fun {x} rx hx q2 => by
    cases w : strD Z.T C x m1 with
    | ok d m2 =>
      obtain ⟨z, rfl⟩ := strD_ok w
      rw [w] at q2
      simp only [R.bind_ok] at q2
      split at q2
      · rename_i hz
        exact ⟨z, m2, rfl, hz, q2⟩
      · exact q2.elim
    | exc x p m2 => exact absurd w strD_noex
    | bad => rw [w] at q2; exact q2.elim
  cases x with
  | str y =>
    have ev := rep_str.mp rx
    subst ev
    obtain ⟨t, rfl⟩ := r1
    have q2 : Out Z W (fun c' s' (d : Str) (v : V) _ => v = .str d) c1 s σ (if y.length ≤ sizeLine then R.ok y m1 else .bad) Q := q2
    split at q2
    · rename_i hz
      have fin := q2.done S2 rfl
      exact wpAny_formatField_str ⟨.str y, H1, I1, ⟨t, rfl⟩, fin⟩ ⟨.str y, H1, I1.tok _, ⟨_, rfl⟩, fin⟩ hz
    · exact q2.elim
  | int i =>
    have ev := rep_int.mp rx
    subst ev
    obtain ⟨t, rfl⟩ := r1
    obtain ⟨z, m2, e2, hz, q3⟩ := str2 rx (fun y h => by cases h) q2
    dsimp only [strD] at e2
    split at e2
    · rename_i hi2
      cases e2
      exact wpAny_formatField_int hi2 ⟨.str (toString i), H1, I1.tok _, ⟨_, rfl⟩, q3.done S2 rfl⟩
    · cases e2
  | obj cl xs =>
    obtain ⟨z, m2, e2, hz, q3⟩ := str2 rx (fun y h => by cases h) q2
    obtain ⟨f, hf, e3⟩ := strD_obj e2
    obtain ⟨a1, dx, vs, rfl, g1, g2, g3⟩ := rep_obj.mp rx
    cases r1
    obtain ⟨f1, f2, f3, f4, f5⟩ := c.txt.stm _ _ hf
    rw [← c.eK] at f1 f2 f4 f5
    obtain ⟨od, J⟩ := ins_inst I1 (S2.exG _ _ g1)
    have r2 : Room k X.A.in1 := (Room.in1 (c.room.mono (show k + 1 ≤ k + 7 by omega)))
    refine PySem.W.kfo_fieldS r2.units0 I1.kIn J f4 f5 f1 f2 (wpAny_mono (str_run c r2 rfl (I1.tok _) S2 (rx.rp rfl) hf e3 (Q := fun z H' => Q (.str z) H') fun cf' H' l S' => q3.to l S' rfl) (fun v s' hv => ?_) fun _ _ z => z)
    obtain ⟨t, H', rfl, I', q'⟩ := hv
    exact ⟨.str z, H', I', ⟨t, rfl⟩, q'⟩
  | non => obtain ⟨z, m2, e2, _⟩ := str2 rx (fun y h => by cases h) q2; cases e2
  | bl _ => obtain ⟨z, m2, e2, _⟩ := str2 rx (fun y h => by cases h) q2; cases e2
  | tup _ => obtain ⟨z, m2, e2, _⟩ := str2 rx (fun y h => by cases h) q2; cases e2
  | lst _ => obtain ⟨z, m2, e2, _⟩ := str2 rx (fun y h => by cases h) q2; cases e2
  | ref _ => obtain ⟨z, m2, e2, _⟩ := str2 rx (fun y h => by cases h) q2; cases e2
  | bor _ => obtain ⟨z, m2, e2, _⟩ := str2 rx (fun y h => by cases h) q2; cases e2
  | scr _ => obtain ⟨z, m2, e2, _⟩ := str2 rx (fun y h => by cases h) q2; cases e2
end
end Pm
end
end
section
set_option Elab.async false
set_option linter.all false
set_option maxRecDepth 100000
set_option maxHeartbeats 4000000
/-! Pm15: f-strings, built-ins by name, isinstance, list(x). -/
noncomputable section
namespace Pm
open PySem PySem.Spec L2
section
variable {Z : Ze} {C : CF} {k : Nat} {N : List Str} {X : Cx} {sc : Scope} {W : WX}
variable {pins : List (Addr × Obj)} {σ τ : L2.St} {H : Hp} {sh : Shared} {cf : Cfg} {s : List S} {m : Mu}
theorem app_le {a b : Str} (h : (a ++ b).length ≤ sizeLine) : b.length ≤ sizeLine := by
  have e : (a ++ b).length = a.length + b.length := by
    show (a.cps ++ b.cps).size = a.cps.size + b.cps.size
    rw [Array.size_append]
  omega
def SFs (Z : Ze) (C : CF) (k : Nat) (as : IEs) : Prop := ∀ {N : List Str} {X : Cx} {sc : Scope} {W : WX}, Cok Z C k N X sc W → ∀ es, chkFs Z N as sc es = true → ∃ ts, PJ X es ts ∧
  ∀ acc σ H Q cf s m, Sim Z.toZt cf s m σ H → Out Z W (RelD Z) cf s σ (evf Z.T C as acc s m) Q → tJs ts acc σ H (fun out H1 => Q (.str out) H1)
theorem fs_nil : SFs Z C k .nil := by
  intro N X sc W c es h
  unfold chkFs at h
  rw [List.isEmpty_iff] at h
  subst h
  exact ⟨[], .nil, fun acc σ H Q cf s m S1 o => Out.done (show Out Z W (RelD Z) cf s σ (.ok (.str acc) m) Q from o) S1 (rep_str.mpr rfl)⟩
theorem fs_cons {a : IE} {r : IEs} (ha : SE Z C k a) (hr : SFs Z C k r) : SFs Z C k (.cons a r) := by
  intro N X sc W c es h
  unfold chkFs at h
  split at h
  · rename_i e es
    rw [Bool.and_eq_true] at h
    obtain ⟨h1, h2⟩ := h
    obtain ⟨ts, j, q⟩ := hr c es h2
    split at h1
    · rename_i x cv sp p
      simp only [Bool.and_eq_true, decide_eq_true_eq] at h1
      obtain ⟨rfl, h3, h4⟩ := h1
      have e0 : sp = none := by cases sp <;> first | rfl | cases h3
      subst e0
      refine ⟨tFm Z C W a :: ts, .cons (fm_of ha c h4) j, fun acc σ H Q cf s m S1 o => ?_⟩
      rw [evf] at o
      refine ⟨cf, s, m, S1, ?_⟩
      have fin : ∀ {y : Str} {m1 : Mu}, Out Z W (RelD Z) cf s σ (if (acc ++ y).length ≤ sizeLine then evf Z.T C r (acc ++ y) s m1 else .bad) Q → y.length ≤ sizeLine ∧ Out Z W (fun c' s' (d : Str) (v : V) _ => v = .str d) cf s σ (R.ok y m1) (fun x H1 => ∃ y, x = V.str y ∧ (acc ++ y).length ≤ sizeLine ∧ tJs ts (acc ++ y) σ H1 (fun out H1 => Q (.str out) H1)) := fun {y m1} o => by
        split at o
        · rename_i hz
          exact ⟨app_le hz, fun c1 v H1 l S2 r => ⟨y, r, hz, q _ σ H1 Q c1 s m1 S2 (Out.mono l o)⟩⟩
        · exact o.elim
      cases w : ev Z.T C a s m with
      | ok x m1 =>
        rw [w] at o
        simp only [R.bind_ok] at o ⊢
        have str2 : ∀ {x : D}, Out Z W (RelD Z) cf s σ ((strD Z.T C x m1).bind fun z m2 => (match z with
            | .str y => if (acc ++ y).length ≤ sizeLine then evf Z.T C r (acc ++ y) s m2 else .bad
            | _ => .bad)) Q → Out Z W (fun c' s' (d : Str) (v : V) _ => v = .str d) cf s σ ((strD Z.T C x m1).bind fun z m2 => (match z with
            | .str y => if y.length ≤ sizeLine then R.ok y m2 else .bad
            | _ => .bad)) (fun x H1 => ∃ y, x = V.str y ∧ (acc ++ y).length ≤ sizeLine ∧ tJs ts (acc ++ y) σ H1 (fun out H1 => Q (.str out) H1)) := fun {x} o => by
          cases w2 : strD Z.T C x m1 with
          | ok d m2 =>
            obtain ⟨z, rfl⟩ := strD_ok w2
            rw [w2] at o
            simp only [R.bind_ok] at o ⊢
            obtain ⟨f1, f2⟩ := fin o
            rw [if_pos f1]
            exact f2
          | exc x p m2 => exact absurd w2 strD_noex
          | bad => rw [w2] at o; exact o.elim
        cases x with
        | str y =>
          simp only at o ⊢
          obtain ⟨f1, f2⟩ := fin o
          rw [if_pos f1]
          exact f2
        | _ => exact str2 o
      | exc x p m1 => rw [w] at o; exact o
      | bad => rw [w] at o; exact o
    · rename_i z j' p
      split at h1
      · rename_i y
        have e0 : y = z := by simpa using h1
        subst e0
        refine ⟨tC (.str y) :: ts, .cons pe_str j, fun acc σ H Q cf s m S1 o => ?_⟩
        rw [evf] at o
        have o : Out Z W (RelD Z) cf s σ (if (acc ++ y).length ≤ sizeLine then evf Z.T C r (acc ++ y) s m else .bad) Q := o
        split at o
        · rename_i hz
          exact ⟨y, rfl, hz, q _ σ H Q cf s m S1 o⟩
        · exact o.elim
      · cases h1
    · cases h1
  · cases h
theorem case_fst {as : IEs} (hs : SFs Z C k as) : SE Z C k (.fst as) := by
  intro N X sc W c e h
  unfold chkE at h
  split at h
  · rename_i es p
    simp only [Bool.and_eq_true, decide_eq_true_eq] at h
    obtain ⟨h1, h2⟩ := h
    obtain ⟨ts, j, q⟩ := hs c es h1
    have hp : PE X (.JoinedStr es p) (tE Z W (ev Z.T C (.fst as))) := by
      cases es with
      | nil => simp at h2
      | cons v1 es =>
        cases es with
        | nil => simp at h2
        | cons v2 es =>
          refine PE.of (pe_joined j) fun σ H Q o => ?_
          obtain ⟨cf, s, m, S1, o⟩ := o
          simp only [ev] at o
          exact q Str.empty σ H Q cf s m S1 o
    exact ⟨hp, test_of c hp fun _ => rfl⟩
  · cases h
/-! ### isinstance -/
def vtOf (m : Mu) : D → VT
  | .non => .non | .bl _ => .bl | .int _ => .int | .str _ => .str | .tup _ => .tup | .lst _ => .lst | .bor _ => .lst | .scr _ => .lst
  | .obj c _ => .cls c
  | .ref k => (match m[k]? with
    | some (.ins c _) => .cls c
    | _ => .lst)
theorem okVx_dct {T : Tab} {x : D} (h : okVx T x m = true) : (dctOf m x).isNone = true := by
  unfold okVx at h
  cases x with
  | ref k =>
    dsimp only [clsOf] at h
    cases w : m[k]? with
    | none => simp [dctOf, w]
    | some cl =>
      rw [w] at h
      cases cl with
      | dct tt kvs => simp [dctOf, w] at h
      | _ => simp [dctOf, w]
  | _ => rfl
theorem tyIs_eq {x : D} {t : Ty} (h : ∀ k, x = .ref k → (m[k]?).isSome = true) (hd : (dctOf m x).isNone = true) : tyIs m x t = tyB (vtOf m x) t := by
  cases x with
  | ref k =>
    have hk := h k rfl
    cases w : m[k]? with
    | none => rw [w] at hk; cases hk
    | some cl =>
      cases cl with
      | lst xs => cases t <;> simp [tyIs, vtOf, tyB, lstOf, clsOf, w]
      | ins c fs => cases t <;> simp [tyIs, vtOf, tyB, lstOf, clsOf, w]
      | dct tt kvs => simp [dctOf, w] at hd
  | _ => cases t <;> simp [tyIs, vtOf, tyB, lstOf, clsOf]
theorem okV_of {m1 : Mu} {x : D} (ok : okVx Z.T x m1 = true) : okV Z (vtOf m1 x) = true := by
    cases x with
    | obj cl xs => exact ok
    | ref j =>
      dsimp only [okVx, clsOf] at ok
      cases w : m1[j]? with
      | none => simp [vtOf, w, okV]
      | some cl =>
        rw [w] at ok
        cases cl with
        | lst _ => simp [vtOf, w, okV]
        | ins cl fs => simp [vtOf, w, okV]; exact ok
        | dct _ _ => simp [vtOf, w, okV]
    | _ => rfl
theorem tyx_of (c : Cok Z C k N X sc W) (S1 : Sim Z.toZt cf s m τ H) {x : D} {v : V} (r : Rep Z.toZt cf s x v) (ok : okV Z (vtOf m x) = true) (hd : (dctOf m x).isNone = true) : TyX X.K H v (vtV Z (vtOf m x)) := by
  have ins_ : ∀ {cl : Nat} {a dx : Addr} {gs : List (Str × V)}, (Z.T.ini cl).isSome = true → H a = some (.ins (Z.cad cl) dx gs) → TyX X.K H (.ref a) (.ref (Z.cad cl)) := fun {cl a dx gs} h e => by
    cases w : Z.T.ini cl with
    | none => rw [w] at h; cases h
    | some f =>
      obtain ⟨t1, t2, t3, t4, t5⟩ := c.txt.ist _ _ w
      rw [← c.eK] at t1 t2 t3 t4 t5
      exact .base (.ins e t1 t2 t3 t4 t5)
  have seqT : ∀ {a : Addr} {vs : List V}, SqT Z.K H a vs → TyX X.K H (.ref a) (.type "tuple") := fun {a vs} h => by
    rcases h with (h | ⟨o, h⟩) | ⟨o, its, n, h1, h2, _⟩
    · exact .base (.tup h)
    · exact .fTuple h
    · exact .kTuple (o := o) (by rw [c.eK]; exact h1) h2
  have seqL : ∀ {a : Addr} {vs : List V}, SqL Z.K H a vs → TyX X.K H (.ref a) (.type "list") := fun {a vs} h => by
    rcases h with (h | ⟨o, h⟩) | ⟨o, its, n, h1, h2, _⟩
    · exact .base (.lst h)
    · exact .base (.frz h)
    · exact .kList (o := o) (by rw [c.eK]; exact h1) h2
  cases x with
  | non => have e := rep_non.mp r; subst e; exact .base .non
  | bl b => have e := rep_bl.mp r; subst e; exact .base (.bl b)
  | int b => have e := rep_int.mp r; subst e; exact .base (.int b)
  | str b => have e := rep_str.mp r; subst e; exact .base (.str b)
  | tup xs => obtain ⟨a, vs, rfl, h1, _⟩ := rep_tup.mp r; exact seqT (S1.exG.sqT h1)
  | lst xs => obtain ⟨a, vs, rfl, h1, _⟩ := S1.lstOf r rfl; exact seqL h1
  | bor xs => obtain ⟨a, vs, rfl, h1, _⟩ := S1.lstOf r rfl; exact seqL h1
  | scr xs => obtain ⟨a, vs, rfl, h1, _⟩ := S1.lstOf r rfl; exact seqL h1
  | obj cl xs => obtain ⟨a, dx, vs, rfl, h1, _⟩ := rep_obj.mp r; exact ins_ ok (S1.exG _ _ h1)
  | ref j =>
    have r' := r
    unfold Rep Rp at r'
    obtain ⟨a, e0, rfl⟩ := r'
    have hj : j < m.length := by rw [← S1.la]; exact (List.getElem?_eq_some_iff.mp e0).1
    cases w : m[j]? with
    | none => rw [List.getElem?_eq_getElem hj] at w; cases w
    | some cl =>
      have q := S1.cell j cl a w e0
      cases cl with
      | lst xs =>
        obtain ⟨vs, h1, _⟩ := q
        have e : vtOf m (.ref j) = .lst := by simp [vtOf, w]
        rw [e]
        exact seqL (SqL.of h1)
      | ins cl fs =>
        obtain ⟨dx, gs, h1, _⟩ := q
        have e : vtOf m (.ref j) = .cls cl := by simp [vtOf, w]
        rw [e] at ok ⊢
        exact ins_ ok h1
      | dct tt kvs => simp [dctOf, w] at hd
abbrev bnames : List Str := ["len", "abs", "int", "str", "tuple", "all", "any", "min", "max", "isinstance", "list", "sorted", "range", "zip", "enumerate", "bool", "set", "dict"]
theorem bmem {x : Str} (h : x ∈ bnames) : x ∈ (["len", "abs", "int", "str", "tuple", "all", "any", "min", "max", "isinstance", "list", "sorted", "range", "zip", "enumerate", "bool", "set", "dict"] : List Str) := h
theorem boot_ty {t : Ty} : (∃ n : String, tyN Z t = Str.ofString n ∧ bootBuiltins (tyN Z t) = some (.type n) ∧ tyV Z t = .type n ∧ (tyN Z t) ∈ (["len", "abs", "int", "str", "tuple", "all", "any", "min", "max", "isinstance", "list", "sorted", "range", "zip", "enumerate", "bool", "set", "dict"] : List Str)) ∨ ∃ c, t = .cls c := by
  cases t with
  | cls c => exact .inr ⟨c, rfl⟩
  | tint => exact .inl ⟨"int", rfl, (show bootBuiltins (Str.ofString "int") = some (.type "int") by decide +kernel), rfl, bmem (show Str.ofString "int" ∈ bnames by decide +kernel)⟩
  | tbool => exact .inl ⟨"bool", rfl, (show bootBuiltins (Str.ofString "bool") = some (.type "bool") by decide +kernel), rfl, bmem (show Str.ofString "bool" ∈ bnames by decide +kernel)⟩
  | tstr => exact .inl ⟨"str", rfl, (show bootBuiltins (Str.ofString "str") = some (.type "str") by decide +kernel), rfl, bmem (show Str.ofString "str" ∈ bnames by decide +kernel)⟩
  | ttup => exact .inl ⟨"tuple", rfl, (show bootBuiltins (Str.ofString "tuple") = some (.type "tuple") by decide +kernel), rfl, bmem (show Str.ofString "tuple" ∈ bnames by decide +kernel)⟩
  | tlst => exact .inl ⟨"list", rfl, (show bootBuiltins (Str.ofString "list") = some (.type "list") by decide +kernel), rfl, bmem (show Str.ofString "list" ∈ bnames by decide +kernel)⟩
theorem cls_pe {N : List Str} {X : Cx} {sc : Scope} {W : WX} (c : Cok Z C k N X sc W) {t : Ty} {p2 : Pos} (h5 : glB sc (tyN Z t) = true) (h6 : okTy Z.T t = true) : ∃ cv, PE X (.Name (tyN Z t) p2) (tC cv) ∧ ClsV cv (tyV Z t) := by
  obtain ⟨k1, k2, k3⟩ := c.gl h5
  rcases boot_ty (Z := Z) (t := t) with ⟨n, e1, e2, e3, e4⟩ | ⟨cl, rfl⟩
  · exact ⟨.ty n, pe_bltn k1 (c.txt.blt _ e4) e2 rfl k3 k2, by rw [e3]; exact .ty n⟩
  · have h6' : (Z.T.ini cl).isSome = true := h6
    cases w : Z.T.ini cl with
    | none => rw [w] at h6'; cases h6'
    | some f =>
      obtain ⟨m1, m2⟩ := c.txt.ini _ _ w
      exact ⟨.ref (Z.cad cl), pe_glob k1 m1 rfl k2, .own _⟩
theorem tys_pa {N : List Str} {X : Cx} {sc : Scope} {W : WX} (c : Cok Z C k N X sc W) : ∀ {ts : List Ty} {es : List Expr}, chkTys Z sc ts es = true → (ts.all fun t => okTy Z.T t) = true → ∃ cs : List V, PA X es (fun _ H Q => Q cs H) ∧ Paired ClsV cs (ts.map (tyV Z)) ∧ cs.length = ts.length
  | [], es, h, _ => by
    unfold chkTys at h
    cases es with
    | nil => exact ⟨[], pa_nil, .nil, rfl⟩
    | cons _ _ => cases h
  | t :: ts, es, h, ho => by
    unfold chkTys at h
    cases es with
    | nil => cases h
    | cons e es =>
      rw [Bool.and_eq_true] at h
      rw [List.all_cons, Bool.and_eq_true] at ho
      obtain ⟨h1, h2⟩ := h
      split at h1
      · rename_i x p
        rw [Bool.and_eq_true, decide_eq_true_eq] at h1
        obtain ⟨rfl, h1⟩ := h1
        obtain ⟨cv, e1, e2⟩ := cls_pe (p2 := p) c h1 ho.1
        obtain ⟨cs, f1, f2, f3⟩ := tys_pa c h2 ho.2
        exact ⟨cv :: cs, PA.of (pa_cons e1 f1 rfl) fun σ H Q q => q, .cons e2 f2, by rw [List.length_cons, List.length_cons, f3]⟩
      · cases h1
theorem kitAny_tys {N : List Str} {X : Cx} {sc : Scope} {W : WX} (c : Cok Z C k N X sc W) {a : VT} (ha : okV Z a = true) : ∀ {ts : List Ty}, (ts.all fun t => okTy Z.T t) = true → PySem.W.kitAny Z.K (vtV Z a) (ts.map (tyV Z)) = some (ts.any fun t => tyB a t)
  | [], _ => kitAny_nil
  | t :: ts, h => by
    rw [List.all_cons, Bool.and_eq_true] at h
    rw [List.map_cons, List.any_cons]
    exact kitAny_cons (c.txt.isi a t ha h.1) (fun z => by rw [z, Bool.false_or]; exact kitAny_tys c ha h.2) (fun z => by rw [z, Bool.true_or])
theorem case_isi {a : IE} {ts : List Ty} (ha : SE Z C k a) : SE Z C k (.isi a ts) := by
  intro N X sc W c e h
  unfold chkE at h
  split at h
  · rename_i x p o y p2 pos
    simp only [Bool.and_eq_true, decide_eq_true_eq] at h
    obtain ⟨⟨rfl, h2⟩, h3, h4⟩ := h
    split at h4
    · rename_i t
      simp only [Bool.and_eq_true, decide_eq_true_eq] at h4
      obtain ⟨⟨rfl, h5⟩, h6⟩ := h4
      obtain ⟨g1, g2, g3⟩ := c.gl h2
      obtain ⟨k1, k2, k3⟩ := c.gl h5
      -- the class
      have hcls : ∃ cv, PE X (.Name (tyN Z t) p2) (tC cv) ∧ ClsV cv (tyV Z t) := by
        rcases boot_ty (Z := Z) (t := t) with ⟨n, e1, e2, e3, e4⟩ | ⟨cl, rfl⟩
        · exact ⟨.ty n, pe_bltn k1 (c.txt.blt _ e4) e2 rfl k3 k2, by rw [e3]; exact .ty n⟩
        · have h6' : (Z.T.ini cl).isSome = true := h6
          cases w : Z.T.ini cl with
          | none => rw [w] at h6'; cases h6'
          | some f =>
            obtain ⟨m1, m2⟩ := c.txt.ini _ _ w
            exact ⟨.ref (Z.cad cl), pe_glob k1 m1 rfl k2, .own _⟩
      obtain ⟨cv, hcv, hcl⟩ := hcls
      have hp : PE X (.Call (.Name "isinstance" p) [o, .Name (tyN Z t) p2] [] pos) (tE Z W (ev Z.T C (.isi a [t]))) := by
        refine PE.of (pe_callB call_isi g1 (c.txt.blt _ (by decide +kernel)) (by decide +kernel) (pa_cons (ha c o h3).1 (pa_cons hcv pa_nil rfl) (star_one (noStar h3))) g3 g2 (star_one (noStar h3)) rfl) fun σ H Q q => ?_
        obtain ⟨cf, s, m, S1, q⟩ := q
        simp only [ev] at q
        refine ⟨cf, s, m, S1, q.bind fun x m1 c1 vx H1 l S2 rx q2 => ?_⟩
        split at q2
        · rename_i ok
          have hj0 : ∀ j, x = .ref j → (m1[j]?).isSome = true := fun j e => by
            subst e
            have r' := rx
            unfold RelD Rep Rp at r'
            obtain ⟨a1, e0, _⟩ := r'
            have hj : j < m1.length := by rw [← S2.la]; exact (List.getElem?_eq_some_iff.mp e0).1
            rw [List.getElem?_eq_getElem hj]
            rfl
          have e1 := tyIs_eq (m := m1) (x := x) (t := t) hj0 (okVx_dct ok)
          have e2 : isiD m1 x [t] = tyB (vtOf m1 x) t := by simp [isiD, e1]
          have ok2 := okV_of (Z := Z) ok
          refine ⟨vx, cv, _, _, tyB (vtOf m1 x) t, rfl, hcl, tyx_of c S2 rx ok2 (okVx_dct ok), by rw [c.eK]; exact c.txt.isi _ _ ok2 h6, ?_⟩
          rw [e2] at q2
          exact q2.done S2 (rep_bl.mpr rfl)
        · exact q2.elim
      exact ⟨hp, test_of c hp fun _ => rfl⟩
    · cases h4
  · rename_i x p o es kk tpos pos
    simp only [Bool.and_eq_true, decide_eq_true_eq] at h
    obtain ⟨⟨rfl, h2⟩, h3, ⟨h4, h5⟩, h6⟩ := h
    obtain ⟨g1, g2, g3⟩ := c.gl h2
    obtain ⟨cs, f1, f2, f3⟩ := tys_pa c h4 h6
    have hp : PE X (.Call (.Name "isinstance" p) [o, .Tuple es kk tpos] [] pos) (tE Z W (ev Z.T C (.isi a ts))) := by
      refine PE.of (pe_callB call_isiT g1 (c.txt.blt _ (by decide +kernel)) (by decide +kernel) (pa_cons (ha c o h3).1 (pa_cons (pe_tup f1) pa_nil rfl) (star_one (noStar h3))) g3 g2 (star_one (noStar h3)) rfl) fun σ H Q q => ?_
      obtain ⟨cf, s, m, S1, q⟩ := q
      simp only [ev] at q
      refine ⟨cf, s, m, S1, q.bind fun x m1 c1 vx H1 l S2 rx q2 => ?_⟩
      split at q2
      · rename_i ok
        have hj0 : ∀ j, x = .ref j → (m1[j]?).isSome = true := fun j e => by
          subst e
          have r' := rx
          unfold RelD Rep Rp at r'
          obtain ⟨a1, e0, _⟩ := r'
          have hj : j < m1.length := by rw [← S2.la]; exact (List.getElem?_eq_some_iff.mp e0).1
          rw [List.getElem?_eq_getElem hj]
          rfl
        have e2 : isiD m1 x ts = ts.any fun t => tyB (vtOf m1 x) t := by
          unfold isiD
          congr 1
          funext t
          exact tyIs_eq hj0 (okVx_dct ok)
        have ok2 := okV_of (Z := Z) ok
        refine ⟨Nat.le_trans (by rw [f3]; exact Nat.le_trans h5 (by decide)) line_lim, fun tp htp => ?_⟩
        have S3 := S2.new (o := .tup cs) htp
        refine ⟨vx, tp, cs, _, _, ts.any (fun t => tyB (vtOf m1 x) t), rfl, upd_same, f2, tyx_of c S3 rx ok2 (okVx_dct ok), by rw [c.eK]; exact kitAny_tys c ok2 h6, ?_⟩
        rw [e2] at q2
        exact q2.done S3 (rep_bl.mpr rfl)
      · exact q2.elim
    exact ⟨hp, test_of c hp fun _ => rfl⟩
  · cases h
end
end Pm
end
end
section
set_option Elab.async false
set_option linter.all false
set_option maxRecDepth 100000
set_option maxHeartbeats 4000000
/-! Pm16: built-ins by name, list(x). -/
noncomputable section
namespace Pm
open PySem PySem.Spec L2
section
variable {Z : Ze} {C : CF} {k : Nat} {N : List Str} {X : Cx} {sc : Scope} {W : WX}
variable {pins : List (Addr × Obj)} {σ τ : L2.St} {H : Hp} {sh : Shared} {cf : Cfg} {s : List S} {m : Mu}
def rBif (Z : Ze) (C : CF) (b : Bif) : List V → Hp → VK → Prop := fun vs H Q => ∃ cf s m τ xs d m1, Sim Z.toZt cf s m τ H ∧ Reps Z.toZt cf s xs vs ∧ bifD Z.T C b xs m = .ok d m1 ∧ ∀ cf' H' v, cf.le cf' → Sim Z.toZt cf' s m1 τ H' → Rep Z.toZt cf' s d v → Q v H'
def bifV : Bif → Value
  | .len => .builtin "len" | .abs => .builtin "abs" | .int => .type "int" | .str => .type "str" | .tuple => .type "tuple" | .all => .builtin "all" | .any => .builtin "any" | .min2 => .builtin "min" | .max2 => .builtin "max"
theorem reps1 {xs : List D} {x : D} {vs : List V} (r : Reps Z.toZt cf s [x] vs) : ∃ v, vs = [v] ∧ Rep Z.toZt cf s x v := by
  obtain ⟨v, t, rfl, h, h2⟩ := r
  have e : t = [] := h2
  subst e
  exact ⟨v, rfl, h⟩
theorem reps2 {x y : D} {vs : List V} (r : Reps Z.toZt cf s [x, y] vs) : ∃ v w, vs = [v, w] ∧ Rep Z.toZt cf s x v ∧ Rep Z.toZt cf s y w := by
  obtain ⟨v, t, rfl, h, w, t2, rfl, h2, h3⟩ := r
  have e : t2 = [] := h3
  subst e
  exact ⟨v, w, rfl, h, h2⟩
theorem foldl_min : ∀ (is : List Int) (i : Int), is.foldl min i ∈ i :: is ∧ ∀ y ∈ i :: is, is.foldl min i ≤ y
  | [], i => ⟨List.mem_cons_self, fun y hy => by simp at hy; subst hy; exact Int.le_refl _⟩
  | j :: is, i => by
    obtain ⟨h1, h2⟩ := foldl_min is (min i j)
    rw [List.foldl_cons]
    have h3 := h2 (min i j) List.mem_cons_self
    refine ⟨?_, fun y hy => ?_⟩
    · rcases List.mem_cons.mp h1 with e | h
      · rw [e]
        rcases (show min i j = i ∨ min i j = j by omega) with q | q <;> rw [q] <;> simp
      · exact List.mem_cons_of_mem _ (List.mem_cons_of_mem _ h)
    · rcases List.mem_cons.mp hy with rfl | hy
      · omega
      · rcases List.mem_cons.mp hy with rfl | hy
        · omega
        · exact h2 y (List.mem_cons_of_mem _ hy)
theorem bls_vals {G : Hp} {as : List Addr} : ∀ {xs : List D} {ns : List Bool} {vs : List V}, blsOf xs = some ns → Rps Z.toZt G as xs vs → vs = ns.map V.bl
  | [], ns, vs, h, r => by cases h; exact r.nil_inv
  | x :: xs, ns, vs, h, r => by
    obtain ⟨v, t, rfl, r1, r2⟩ := r.cons_inv
    cases x with
    | bl i =>
      unfold blsOf at h
      cases q : blsOf xs with
      | none => rw [q] at h; cases h
      | some ms =>
        rw [q] at h
        cases h
        unfold Rp at r1
        rw [r1, bls_vals q r2]
        rfl
    | _ => cases h
theorem cr_bif (c : Cok Z C k N X sc W) (b : Bif) : CallR X (bifV b) (rBif Z C b) := by
  intro pins sh σ H vs us Q I r h
  obtain ⟨cf, s, m, τ, xs, d, m1, S1, rx, e, q⟩ := h
  have q0 : ∀ {v}, Rep Z.toZt cf s d v → m1 = m → Q v H := fun {v} r e => q cf H v Cfg.le.rfl' (by rw [e]; exact S1) r
  unfold bifD at e
  split at e
  · -- len of a text
    obtain ⟨v, rfl, rv⟩ := reps1 (xs := []) rx
    have ev := rep_str.mp rv
    subst ev
    split at e
    · rename_i hz
      cases e
      exact call_len_str pins sh σ H _ us Q I r ⟨_, rfl, hz, q0 (rep_int.mpr rfl) rfl⟩
    · cases e
  · obtain ⟨v, rfl, rv⟩ := reps1 (xs := []) rx
    split at e
    · rename_i ys w
      cases e
      obtain ⟨a, ws, rfl, hq, g⟩ := S1.seqOf rv w
      exact call_len_seq pins sh σ H _ us Q I r ⟨a, ws, rfl, by rw [c.eK]; exact hq, q0 (rep_int.mpr (by rw [g.length])) rfl⟩
    · cases e
  · obtain ⟨v, rfl, rv⟩ := reps1 (xs := []) rx
    have ev := rep_int.mp rv
    subst ev
    cases e
    exact call_abs pins sh σ H _ us Q I r ⟨_, rfl, q0 (rep_int.mpr rfl) rfl⟩
  · obtain ⟨v, rfl, rv⟩ := reps1 (xs := []) rx
    have ev := rep_int.mp rv
    subst ev
    cases e
    exact call_int1 pins sh σ H _ us Q I r (.inl ⟨_, rfl, q0 (rep_int.mpr rfl) rfl⟩)
  · obtain ⟨v, rfl, rv⟩ := reps1 (xs := []) rx
    have ev := rep_bl.mp rv
    subst ev
    cases e
    exact call_int1 pins sh σ H _ us Q I r (.inr ⟨_, rfl, q0 (rep_int.mpr rfl) rfl⟩)
  · obtain ⟨v, rfl, rv⟩ := reps1 (xs := []) rx
    obtain ⟨z, rfl⟩ := strD_ok e
    exact cr_str c pins sh σ H _ us Q I r ⟨cf, s, m, τ, _, v, z, m1, rfl, S1, rv, e, fun cf' H' l S' => q cf' H' _ l S' (rep_str.mpr rfl)⟩
  · obtain ⟨v, rfl, rv⟩ := reps1 (xs := []) rx
    cases e
    obtain ⟨a, ws, rfl, g1, g2⟩ := rep_tup.mp rv
    exact call_tuple_of pins sh σ H _ us Q I r ⟨a, ws, rfl, .inr ⟨by rw [c.eK]; exact S1.exG.sqT g1, q0 rv rfl⟩⟩
  · obtain ⟨v, rfl, rv⟩ := reps1 (xs := []) rx
    split at e
    · rename_i ys w
      cases e
      obtain ⟨a, ws, rfl, g1, g2⟩ := S1.lstOf rv w
      refine call_tuple_of pins sh σ H _ us Q I r ⟨a, ws, rfl, .inl ⟨by rw [c.eK]; exact g1, fun p hp => ?_⟩⟩
      obtain ⟨S2, l⟩ := S1.lay (o := .tup ws) hp
      exact q _ _ _ l S2 (rep_tup.mpr ⟨p, ws, rfl, TupA.of upd_same, g2.mono l.g l.a⟩)
    · cases e
  · obtain ⟨v, rfl, rv⟩ := reps1 (xs := []) rx
    split at e
    · rename_i ys w
      cases e
      obtain ⟨zs, w1, w2⟩ := Option.bind_eq_some_iff.mp w
      obtain ⟨a, ws, rfl, g1, g2⟩ := S1.lstOf rv w1
      have e2 := bls_vals w2 g2
      subst e2
      exact cr_all c.calm pins sh σ H _ us Q I r ⟨a, ys, rfl, by rw [c.eK]; exact g1, q0 (rep_bl.mpr rfl) rfl⟩
    · cases e
  · obtain ⟨v, rfl, rv⟩ := reps1 (xs := []) rx
    split at e
    · rename_i ys w
      cases e
      obtain ⟨zs, w1, w2⟩ := Option.bind_eq_some_iff.mp w
      obtain ⟨a, ws, rfl, g1, g2⟩ := S1.lstOf rv w1
      have e2 := bls_vals w2 g2
      subst e2
      exact cr_any c.calm pins sh σ H _ us Q I r ⟨a, ys, rfl, by rw [c.eK]; exact g1, q0 (rep_bl.mpr rfl) rfl⟩
    · cases e
  · obtain ⟨v, rfl, rv⟩ := reps1 (xs := []) rx
    split at e
    · rename_i i is w
      cases e
      obtain ⟨zs, w1, w2⟩ := Option.bind_eq_some_iff.mp w
      obtain ⟨a, ws, rfl, g1, g2⟩ := S1.lstOf rv w1
      have e2 := ints_vals w2 g2
      subst e2
      refine cr_min c.calm pins sh σ H _ us Q I r ⟨a, i :: is, rfl, by rw [c.eK]; exact g1, by simp, fun mm h1 h2 => ?_⟩
      have f1 := foldl_min is i
      have e3 : mm = is.foldl min i := by
        have a1 := h2 _ f1.1
        have a2 := f1.2 mm h1
        omega
      rw [e3]
      exact q0 (rep_int.mpr rfl) rfl
    · cases e
  · obtain ⟨v, w, rfl, rv, rw'⟩ := reps2 rx
    have ev := rep_int.mp rv
    have ew := rep_int.mp rw'
    subst ev ew
    cases e
    exact call_min2 c.calm pins sh σ H _ us Q I r ⟨_, _, rfl, q0 (rep_int.mpr rfl) rfl⟩
  · obtain ⟨v, w, rfl, rv, rw'⟩ := reps2 rx
    have ev := rep_int.mp rv
    have ew := rep_int.mp rw'
    subst ev ew
    cases e
    exact call_max2 c.calm pins sh σ H _ us Q I r ⟨_, _, rfl, q0 (rep_int.mpr rfl) rfl⟩
  · cases e
theorem bif_noex {b : Bif} {xs : List D} {m m1 : Mu} {e : Nat} {p : D} : bifD Z.T C b xs m ≠ .exc e p m1 := by
  intro h
  unfold bifD at h
  split at h
  case h_6 => exact strD_noex h
  all_goals first
    | (split at h <;> cases h; done)
    | (cases h; done)
theorem case_bif {b : Bif} {as : IEs} (hs : SEs Z C k as) : SE Z C k (.bif b as) := by
  intro N X sc W c e h
  unfold chkE at h
  split at h
  · rename_i x p a args pos
    simp only [Bool.and_eq_true, decide_eq_true_eq] at h
    obtain ⟨⟨rfl, h2⟩, h3⟩ := h
    obtain ⟨g1, g2, g3⟩ := c.gl h2
    have st : starEach (a :: args) X.env = (false, eval a X.env) :: starEach args X.env := by
      cases as with
      | nil => unfold chkEs at h3; cases h3
      | cons a' r =>
        unfold chkEs at h3
        rw [Bool.and_eq_true] at h3
        exact star_one (noStar h3.1)
    have hpl2 : (backTo pos (starEach args X.env)).any (·.1) = false := by
      have hpl := starEs (pos := pos) (env := X.env) h3
      rw [st] at hpl
      have : (false || (backTo pos (starEach args X.env)).any (·.1)) = false := hpl
      rwa [Bool.false_or] at this
    have pa := hs c (a :: args) h3
    have red : ∀ σ H Q, tE Z W (ev Z.T C (.bif b as)) σ H Q → tCB (rBif Z C b) (tA Z W (evs Z.T C as)) σ H Q := fun σ H Q q => by
      obtain ⟨cf, s, m, S1, q⟩ := q
      simp only [ev] at q
      refine ⟨cf, s, m, S1, q.bind fun xs m1 c1 vs H1 l S2 rx q2 => ?_⟩
      cases w : bifD Z.T C b xs m1 with
      | ok d m2 =>
        rw [w] at q2
        exact ⟨c1, s, m1, σ, xs, d, m2, S2, rx, w, fun cf' H' v l' S' r' => q2.to l' S' r'⟩
      | exc x p m2 => exact absurd w bif_noex
      | bad => rw [w] at q2; exact q2.elim
    have hp : PE X (.Call (.Name (bifN b) p) (a :: args) [] pos) (tE Z W (ev Z.T C (.bif b as))) := by
      have hm : X.mg (bifN b) = none := c.txt.blt _ (by cases b <;> decide +kernel)
      have r := cr_bif c b
      cases b with
      | int => exact PE.of (pe_callTy r g1 hm (show bootBuiltins (Str.ofString "int") = _ by decide +kernel) pa g3 g2 st hpl2) red
      | str => exact PE.of (pe_callTy r g1 hm (show bootBuiltins (Str.ofString "str") = _ by decide +kernel) pa g3 g2 st hpl2) red
      | tuple => exact PE.of (pe_callTy r g1 hm (show bootBuiltins (Str.ofString "tuple") = _ by decide +kernel) pa g3 g2 st hpl2) red
      | len => exact PE.of (pe_callB r g1 hm (show bootBuiltins (Str.ofString "len") = _ by decide +kernel) pa g3 g2 st hpl2) red
      | abs => exact PE.of (pe_callB r g1 hm (show bootBuiltins (Str.ofString "abs") = _ by decide +kernel) pa g3 g2 st hpl2) red
      | all => exact PE.of (pe_callB r g1 hm (show bootBuiltins (Str.ofString "all") = _ by decide +kernel) pa g3 g2 st hpl2) red
      | any => exact PE.of (pe_callB r g1 hm (show bootBuiltins (Str.ofString "any") = _ by decide +kernel) pa g3 g2 st hpl2) red
      | min2 => exact PE.of (pe_callB r g1 hm (show bootBuiltins (Str.ofString "min") = _ by decide +kernel) pa g3 g2 st hpl2) red
      | max2 => exact PE.of (pe_callB r g1 hm (show bootBuiltins (Str.ofString "max") = _ by decide +kernel) pa g3 g2 st hpl2) red
    exact ⟨hp, test_of c hp fun _ => rfl⟩
  · cases h
theorem case_lis {a : IE} (ha : SE Z C k a) : SF Z C k (.lis a) := by
  intro N X sc W c e h
  unfold chkF at h
  split at h
  · rename_i x p o pos
    simp only [Bool.and_eq_true, decide_eq_true_eq] at h
    obtain ⟨⟨rfl, h2⟩, h3⟩ := h
    obtain ⟨g1, g2, g3⟩ := c.gl h2
    refine PE.of (pe_callTy call_list_of g1 (c.txt.blt _ (by decide +kernel)) (show bootBuiltins (Str.ofString "list") = _ by decide +kernel) (pa_cons (ha c o h3).1 pa_nil (star_one (noStar h3))) g3 g2 (star_one (noStar h3)) rfl) fun σ H Q q => ?_
    obtain ⟨cf, s, m, S1, q⟩ := q
    simp only [evF] at q
    refine ⟨cf, s, m, S1, q.bind fun x m1 c1 vx H1 l S2 rx q2 => ?_⟩
    split at q2
    · rename_i xs w
      obtain ⟨a1, vs, rfl, hq, g⟩ := S2.seqOf rx w
      exact ⟨a1, vs, rfl, by rw [c.eK]; exact hq, out_fre S2 g q2⟩
    · exact q2.elim
  · cases h
end
end Pm
end
end
section
set_option Elab.async false
set_option linter.all false
set_option maxRecDepth 100000
set_option maxHeartbeats 4000000
/-! Pm17: slots stored, targets, what loops walk. -/
noncomputable section
namespace Pm
open PySem PySem.Spec L2
section
variable {Z : Zt} {c c' : Cfg} {s : List S} {m : Mu} {σ : L2.St} {H H' : Hp}
theorem nd_sub {l : List Addr} {o o' : List (Option Addr)} (h : (l ++ o.filterMap id).Nodup) (hs : (o'.filterMap id).Sublist (o.filterMap id)) : (l ++ o'.filterMap id).Nodup := by
  rw [List.nodup_append] at h ⊢
  exact ⟨h.1, h.2.1.sublist hs, fun x hx y hy => h.2.2 x hx y (hs.subset hy)⟩
theorem set_none_sub (o : List (Option Addr)) (i : Nat) : ((o.set i none).filterMap id).Sublist (o.filterMap id) := by
  induction o generalizing i with
  | nil => exact List.Sublist.refl _
  | cons a o ih =>
    cases i with
    | zero =>
      cases a with
      | none => exact List.Sublist.refl _
      | some a =>
        show (o.filterMap id).Sublist (a :: o.filterMap id)
        exact List.sublist_cons_self _ _
    | succ i =>
      cases a with
      | none => exact ih i
      | some a =>
        show (a :: (o.set i none).filterMap id).Sublist (a :: o.filterMap id)
        exact (ih i).cons₂ a
/-- a slot is filled with a datum -/
def Cfg.rel (c : Cfg) (i : Nat) : Cfg := { c with os := c.os.set i none }
theorem mem_set_none {o : List (Option Addr)} {i : Nat} {a : Addr} (h : some a ∈ o.set i none) : some a ∈ o := by
  rcases List.mem_or_eq_of_mem_set h with q | q
  · exact q
  · cases q
theorem Sim.store {i : Nat} {d : D} {v : V} (S1 : Sim Z c s m σ H) (r : Rp Z c.G c.as d v) (hi : i < s.length) : Sim Z (c.rel i) (s.set i (.val d)) m (σ.set i (some v)) H := by
  refine ⟨S1.exG, S1.exF, S1.gf, by rw [List.length_set, List.length_set]; exact S1.ls, by show (c.os.set i none).length = _; rw [List.length_set, List.length_set]; exact S1.lo, S1.la, fun j x h => ?_, fun k cl a h1 h2 => S1.cell k cl a h1 h2, fun a ha => S1.gn a (ha.imp id mem_set_none), nd_sub S1.nd (set_none_sub _ _)⟩
  show SlotOk Z (c.rel i) H (σ.set i (some v))[j]? (c.os.set i none)[j]? x
  by_cases q : i = j
  · subst q
    rw [List.getElem?_set_self hi] at h
    cases h
    rw [List.getElem?_set_self (by rw [S1.ls]; exact hi), List.getElem?_set_self (by rw [S1.lo]; exact hi)]
    exact ⟨rfl, v, rfl, r⟩
  · rw [List.getElem?_set_ne q] at h ⊢
    rw [List.getElem?_set_ne q]
    exact S1.slot j x h
theorem Cfg.leS_rel {i : Nat} : c.leS (c.rel i) := ⟨Ex.rfl', rfl, List.prefix_refl _⟩
/-- an object guarded -/
def Cfg.gd (c : Cfg) (p : Addr) (o : HO) : Cfg := { c with F := upd c.F p o }
theorem Sim.gd {p : Addr} {o : HO} (S1 : Sim Z c s m σ H) (h : H p = some o) (hg : c.G p = none) (ht : ¬ Trk c p) : Sim Z (c.gd p o) s m σ H := by
  refine ⟨S1.exG, fun a u e => ?_, fun a e => ?_, S1.ls, S1.lo, S1.la, S1.slot, S1.cell, fun a ha => ⟨(S1.gn a ha).1, ?_⟩, S1.nd⟩
  · by_cases q : a = p
    · subst q
      have e : (upd c.F a o) a = some u := e
      rw [upd_same] at e; cases e; exact h
    · have e : (upd c.F p o) a = some u := e
      rw [upd_ne q] at e; exact S1.exF a u e
  · by_cases q : a = p
    · subst q; exact hg
    · have e : (upd c.F p o) a ≠ none := e
      rw [upd_ne q] at e; exact S1.gf a e
  · have q : a ≠ p := fun z => ht (by rw [← z]; exact ha)
    show (upd c.F p o) a = none
    rw [upd_ne q]; exact (S1.gn a ha).2
def Cfg.un (c' c : Cfg) : Cfg := { c' with F := c.F }
theorem Sim.ungd {p : Addr} {o : HO} {s' : List S} {m' : Mu} {σ' : L2.St} (hf : c.F p = none) (hF : c'.F = (c.gd p o).F) (S1 : Sim Z c' s' m' σ' H') : Sim Z (c'.un c) s' m' σ' H' ∧ H' p = some o ∧ c'.G p = none ∧ ¬ Trk c' p := by
  have e : c'.F p = some o := by rw [hF]; exact upd_same
  have hp := S1.exF p o e
  have hg := S1.gf p (by rw [e]; exact fun z => nomatch z)
  have ht : ¬ Trk c' p := fun t => by
    have := (S1.gn p t).2
    rw [e] at this; cases this
  have sub : ∀ a u, c.F a = some u → c'.F a = some u := fun a u q => by
    have n : a ≠ p := fun z => by rw [z, hf] at q; cases q
    rw [hF]
    show (upd c.F p o) a = some u
    rw [upd_ne n]; exact q
  refine ⟨⟨S1.exG, fun a u q => S1.exF a u (sub a u q), fun a q => ?_, S1.ls, S1.lo, S1.la, S1.slot, S1.cell, fun a ha => ⟨(S1.gn a ha).1, ?_⟩, S1.nd⟩, hp, hg, ht⟩
  · cases w : c.F a with
    | none => exact absurd w q
    | some u => exact S1.gf a (by rw [sub a u w]; exact fun z => nomatch z)
  · show c.F a = none
    cases w : c.F a with
    | none => rfl
    | some u =>
      have := (S1.gn a ha).2
      rw [sub a u w] at this; cases this
end
section
variable {Z : Ze} {C : CF} {k : Nat} {N : List Str} {X : Cx} {sc : Scope} {W : WX}
/-! ### targets -/
/-- what stands outside of these slots stays -/
def OutOf (is : List Nat) (σ σ' : L2.St) (c c' : Cfg) : Prop := (∀ i, i ∉ is → σ'[i]? = σ[i]? ∧ c'.os[i]? = c.os[i]?)
theorem OutOf.trans {is js : List Nat} {σ σ1 σ2 : L2.St} {c c1 c2 : Cfg} (h : OutOf is σ σ1 c c1) (h' : OutOf js σ1 σ2 c1 c2) : OutOf (is ++ js) σ σ2 c c2 := fun i hi => by
  have h1 := h i fun q => hi (List.mem_append_left _ q)
  have h2 := h' i fun q => hi (List.mem_append_right _ q)
  exact ⟨h2.1.trans h1.1, h2.2.trans h1.2⟩
def tG (Z : Ze) (t : Tg) : TG := fun v σ H Q => ∃ c s m d s', Sim Z.toZt c s m σ H ∧ Rp Z.toZt c.G c.as d v ∧ setT t d s = some s' ∧ ∀ c' σ', c.leS c' → c'.as = c.as → OutOf (tgIx t) σ σ' c c' → Sim Z.toZt c' s' m σ' H → Q σ' H
def tGs (Z : Ze) (ts : List Tg) : TGs := fun vs σ H Q => ∃ c s m ds s', Sim Z.toZt c s m σ H ∧ Rps Z.toZt c.G c.as ds vs ∧ setTs ts ds s = some s' ∧ ∀ c' σ', c.leS c' → c'.as = c.as → OutOf (tgIx.ixs ts) σ σ' c c' → Sim Z.toZt c' s' m σ' H → Q σ' H
theorem PG.of {X : Cx} {e : Expr} {t t' : TG} (h : PG X e t) (k : ∀ v σ H Q, t' v σ H Q → t v σ H Q) : PG X e t' := ⟨fun pins s σ H v u Q I r q => h.run pins s σ H v u Q I r (k v σ H Q q)⟩
theorem PGs.of {X : Cx} {e : List Expr} {t t' : TGs} (h : PGs X e t) (k : ∀ v σ H Q, t' v σ H Q → t v σ H Q) : PGs X e t' := ⟨fun pins s σ H v u Q I r q => h.run pins s σ H v u Q I r (k v σ H Q q)⟩
theorem chkT_star {t : Tg} {x : Expr} {p : Pos} : chkT N sc t (.Starred x p) = false := by cases t <;> rfl
theorem asg_one {e : Expr} {es : List Expr} {env : Env} (h : ∀ x p, e ≠ .Starred x p) : assignEach (e :: es) env = (false, assign e env) :: assignEach es env := by
  cases e <;> first | rfl | exact absurd rfl (h _ _)
theorem chkTs_len : ∀ {ts : List Tg} {es : List Expr}, chkTs N sc ts es = true → ts.length = es.length ∧ ∀ env, (assignEach es env).length = es.length ∧ (assignEach es env).findIdx? (·.1) = none
  | [], es, h => by unfold chkTs at h; rw [List.isEmpty_iff] at h; subst h; exact ⟨rfl, fun env => ⟨rfl, rfl⟩⟩
  | t :: ts, es, h => by
    unfold chkTs at h
    split at h
    · rename_i e r
      rw [Bool.and_eq_true] at h
      obtain ⟨h1, h2⟩ := chkTs_len h.2
      refine ⟨by rw [List.length_cons, List.length_cons, h1], fun env => ?_⟩
      obtain ⟨k1, k2⟩ := h2 env
      have ne : ∀ x p, e ≠ .Starred x p := fun x p q => by subst q; rw [chkT_star] at h; cases h.1
      rw [asg_one ne, List.length_cons, List.length_cons, k1, List.findIdx?_cons, k2]
      exact ⟨rfl, rfl⟩
    · cases h
theorem setTs_len : ∀ {ts : List Tg} {ds : List D} {s s' : List S}, setTs ts ds s = some s' → ts.length = ds.length
  | [], [], _, _, _ => rfl
  | [], _ :: _, _, _, h => by unfold setTs at h; cases h
  | _ :: _, [], _, _, h => by unfold setTs at h; cases h
  | t :: ts, d :: ds, s, s', h => by
    unfold setTs at h
    obtain ⟨s1, _, h2⟩ := Option.bind_eq_some_iff.mp h
    rw [List.length_cons, List.length_cons, setTs_len h2]
/-- the names that may be bound here -/
structure Bnd (X : Cx) (sc : Scope) : Prop where
  loc : ∀ x, sc.names.lookup x = some .local → X.env.scope.names.lookup x = some .local
  cel : ∀ x, sc.names.lookup x = some .cell → X.env.scope.names.lookup x = some .cell ∧ X.fn x = true
mutual
theorem sndT (eN : X.N = N) (nd : N.Nodup) (calm : X.calm = true) (eK : X.K = Z.K) (b : Bnd X sc) : ∀ (t : Tg) (e : Expr), chkT N sc t e = true → PG X e (tG Z t)
  | .nam i, e, h => by
    unfold chkT at h
    split at h
    · rename_i x p
      simp only [Bool.and_eq_true, decide_eq_true_eq] at h
      have hl := loc_of h.2
      have hf : X.fn x = true ∨ X.env.scope.names.lookup x = some .local := by
        rcases hl with q | q
        · exact .inr (b.loc x q)
        · exact .inl (b.cel x q).2
      refine PG.of (pg_name (i := i) (by rw [eN]; exact nd) (by rw [eN]; exact h.1) (hl.imp (b.loc x) fun q => (b.cel x q).1) hf) fun v σ H Q q => ?_
      obtain ⟨cf, s, m, d, s', S1, r, e, q⟩ := q
      unfold setT at e
      split at e
      · cases e
      · rename_i hb
        cases e
        have hi : i < s.length := by omega
        refine q (cf.rel i) _ Cfg.leS_rel rfl (fun j hj => ?_) (S1.store r hi)
        have ne : i ≠ j := fun z => hj (by rw [z]; exact List.mem_cons_self)
        exact ⟨List.getElem?_set_ne ne, List.getElem?_set_ne ne⟩
    · cases h
  | .tup ts, e, h => by
    unfold chkT at h
    split at h
    · rename_i es q p
      obtain ⟨h1, h2⟩ := chkTs_len h
      obtain ⟨k1, k2⟩ := h2 X.env
      refine PG.of (pg_tup (n := es.length) calm (sndTs eN nd calm eK b ts es h) k1 k2) fun v σ H Q q => ?_
      obtain ⟨cf, s, m, d, s', S1, r, e, q⟩ := q
      cases d with
      | tup xs =>
        unfold setT at e
        unfold Rp at r
        obtain ⟨a, vs, rfl, r1, r2⟩ := r
        refine ⟨a, vs, rfl, by rw [eK]; exact S1.exG.sqT r1.1, by rw [← r2.length, ← setTs_len e, h1], cf, s, m, xs, s', S1, r2, e, q⟩
      | _ => unfold setT at e; cases e
    · cases h
theorem sndTs (eN : X.N = N) (nd : N.Nodup) (calm : X.calm = true) (eK : X.K = Z.K) (b : Bnd X sc) : ∀ (ts : List Tg) (es : List Expr), chkTs N sc ts es = true → PGs X es (tGs Z ts)
  | [], es, h => by
    unfold chkTs at h
    rw [List.isEmpty_iff] at h
    subst h
    refine PGs.of pgs_nil fun vs σ H Q q => ?_
    obtain ⟨cf, s, m, ds, s', S1, r, e, q⟩ := q
    cases ds with
    | nil =>
      unfold setTs at e
      cases e
      exact ⟨r.nil_inv, q cf σ Cfg.leS.rfl' rfl (fun _ _ => ⟨rfl, rfl⟩) S1⟩
    | cons _ _ => unfold setTs at e; cases e
  | t :: ts, es, h => by
    unfold chkTs at h
    split at h
    · rename_i e es
      rw [Bool.and_eq_true] at h
      have ne : ∀ x p, e ≠ .Starred x p := fun x p q => by subst q; rw [chkT_star] at h; cases h.1
      refine PGs.of (pgs_cons (sndT eN nd calm eK b t e h.1) (sndTs eN nd calm eK b ts es h.2) (by rw [asg_one ne]; rfl)) fun vs σ H Q q => ?_
      obtain ⟨cf, s, m, ds, s', S1, r, e, q⟩ := q
      cases ds with
      | nil => unfold setTs at e; cases e
      | cons d ds =>
        unfold setTs at e
        obtain ⟨s1, e1, e2⟩ := Option.bind_eq_some_iff.mp e
        obtain ⟨v, t', rfl, r1, r2⟩ := r.cons_inv
        refine ⟨v, t', rfl, cf, s, m, d, s1, S1, r1, e1, fun c1 σ1 l1 a1 o1 S2 => ?_⟩
        refine ⟨c1, s1, m, ds, s', S2, r2.mono l1.g l1.a, e2, fun c2 σ2 l2 a2 o2 S3 => ?_⟩
        exact q c2 σ2 (l1.trans l2) (a2.trans a1) (o1.trans o2) S3
    · cases h
end
/-! ### what is walked -/
structure Cfg.leG (c c' : Cfg) : Prop where
  g : Ex c.G c'.G
  a : c.as <+: c'.as
structure JOk (Z : Ze) (c0 : Cfg) (KP : Cfg → List S → Mu → Prop) (xs : List D) (J : L2.It) : Prop where
  go : ∀ (i : Nat) c' s' m' σ' H', c0.leG c' → KP c' s' m' → Sim Z.toZt c' s' m' σ' H' → i < xs.length → J.go i H'
  stop : ∀ (i : Nat) c' s' m' σ' H', c0.leG c' → KP c' s' m' → Sim Z.toZt c' s' m' σ' H' → xs.length ≤ i → J.stop i H'
  yld : ∀ (i : Nat) c' s' m' σ' H' v H2, c0.leG c' → KP c' s' m' → Sim Z.toZt c' s' m' σ' H' → J.yld i H' v H2 → i < xs.length → ∃ c2 d, c'.le c2 ∧ Sim Z.toZt c2 s' m' σ' H2 ∧ xs[i]? = some d ∧ Rp Z.toZt c2.G c2.as d v
/-- the list of items stands while a slot that owns it is not touched (bor), or its cell -/
def RelI (Z : Ze) (c : Cfg) (s : List S) (xb : List D × Kd) (J : L2.It) (_ : Hp) : Prop := ∃ KP : Cfg → List S → Mu → Prop, JOk Z c KP xb.1 J ∧ (∀ c' s' m', c'.os = c.os → (∀ (j : Nat) (x : List D), s[j]? = some (S.own x) → s'[j]? = some (S.own x)) → xb.2.ok xb.1 m' → KP c' s' m') ∧ (xb.2.isSl = false → ∀ c' s' m', xb.2.ok xb.1 m' → KP c' s' m')
def tI (Z : Ze) (W : WX) (f : List S → Mu → R (List D × Kd)) : TI := fun σ H R => ∃ c s m, Sim Z.toZt c s m σ H ∧ Out Z W (RelI Z) c s σ (f s m) R
def SI (Z : Ze) (C : CF) (k : Nat) (it : It) : Prop := ∀ {N : List Str} {X : Cx} {sc : Scope} {W : WX}, Cok Z C k N X sc W → ∀ tg e, chkI Z N it sc e = true → itT it tg = true → PI X tg e (tI Z W (evI Z.T C it))
theorem PI.of {X : Cx} {tg e : Expr} {t t' : TI} (h : PI X tg e t) (k : ∀ σ H Q, t' σ H Q → t σ H Q) : PI X tg e t' := ⟨fun pins s σ H R I q => h.run pins s σ H R I (k σ H R q)⟩
theorem Rps.at {G : Hp} {as : List Addr} {xs : List D} {vs : List V} {i : Nat} (r : Rps Z.toZt G as xs vs) (h : i < xs.length) : ∃ v, vs[i]? = some v := by
  obtain ⟨v, e, _⟩ := r.get (List.getElem?_eq_getElem h)
  exact ⟨v, e⟩
/-- a list at a that holds xs wherever KP does -/
theorem jok_list (eK : X.K = Z.K) {c0 : Cfg} {KP : Cfg → List S → Mu → Prop} {a : Addr} {xs : List D} (h : ∀ c' s' m' σ' H', c0.leG c' → KP c' s' m' → Sim Z.toZt c' s' m' σ' H' → ∃ vs, SqL Z.K H' a vs ∧ Rps Z.toZt c'.G c'.as xs vs) : JOk Z c0 KP xs (Itl X.K a) := by
  rw [eK]
  refine ⟨fun i c' s' m' σ' H' l kp S1 hi => ?_, fun i c' s' m' σ' H' l kp S1 hi => ?_, fun i c' s' m' σ' H' v H2 l kp S1 y hi => ?_⟩
  · obtain ⟨vs, h1, h2⟩ := h c' s' m' σ' H' l kp S1
    obtain ⟨v, e⟩ := Rps.at h2 hi
    exact ⟨vs, v, h1, e⟩
  · obtain ⟨vs, h1, h2⟩ := h c' s' m' σ' H' l kp S1
    exact ⟨vs, h1, by rw [← h2.length]; exact hi⟩
  · obtain ⟨vs, h1, h2⟩ := h c' s' m' σ' H' l kp S1
    obtain ⟨rfl, y⟩ := y
    obtain ⟨d, e, r⟩ := h2.get' (y vs h1)
    exact ⟨c', d, Cfg.le.rfl', S1, e, r⟩
theorem jok_tup (eK : X.K = Z.K) {c0 : Cfg} {KP : Cfg → List S → Mu → Prop} {a : Addr} {xs : List D} (h : ∀ c' s' m' σ' H', c0.leG c' → KP c' s' m' → Sim Z.toZt c' s' m' σ' H' → ∃ vs, SqT Z.K H' a vs ∧ Rps Z.toZt c'.G c'.as xs vs) : JOk Z c0 KP xs (Itt X.K a) := by
  rw [eK]
  refine ⟨fun i c' s' m' σ' H' l kp S1 hi => ?_, fun i c' s' m' σ' H' l kp S1 hi => ?_, fun i c' s' m' σ' H' v H2 l kp S1 y hi => ?_⟩
  · obtain ⟨vs, h1, h2⟩ := h c' s' m' σ' H' l kp S1
    obtain ⟨v, e⟩ := Rps.at h2 hi
    exact ⟨vs, v, h1, e⟩
  · obtain ⟨vs, h1, h2⟩ := h c' s' m' σ' H' l kp S1
    exact ⟨vs, h1, by rw [← h2.length]; exact hi⟩
  · obtain ⟨vs, h1, h2⟩ := h c' s' m' σ' H' l kp S1
    obtain ⟨rfl, y⟩ := y
    obtain ⟨d, e, r⟩ := h2.get' (y vs h1)
    exact ⟨c', d, Cfg.le.rfl', S1, e, r⟩
theorem case_iexp {a : IE} (ha : SE Z C k a) : SI Z C k (.exp a) := by
  intro N X sc W c tg e h ht
  have h' : chkE Z N a sc e = true := h
  refine ⟨fun pins sh σ H RR I q => ?_⟩
  obtain ⟨cf, s, m, S1, q⟩ := q
  simp only [evI] at q
  cases w : ev Z.T C a s m with
  | bad => rw [w] at q; exact q.elim
  | exc x p m1 =>
    rw [w] at q
    exact (pi_list (ha c e h').1).run pins sh σ H RR I ⟨cf, s, m, S1, by rw [w]; exact q⟩
  | ok x m1 =>
    rw [w] at q
    simp only [R.bind_ok] at q
    cases x with
    | lst xs =>
      refine (pi_list (ha c e h').1).run pins sh σ H RR I ⟨cf, s, m, S1, ?_⟩
      rw [w]
      intro c1 v H1 l S2 r
      obtain ⟨a1, vs, rfl, g1, g2⟩ := rep_lst.mp r
      refine ⟨a1, rfl, ⟨vs, SqL.of (S2.exG _ _ g1)⟩, ?_⟩
      refine Out.to (show Out Z W (RelI Z) cf s σ (.ok (xs, .fr) m1) RR from q) l S2 ⟨fun _ _ _ => True, jok_list c.eK fun c' s' m' σ' H' l' _ S3 => ⟨vs, SqL.of (S3.exG _ _ (l'.g _ _ g1)), g2.mono l'.g l'.a⟩, fun _ _ _ _ _ _ => trivial, fun _ _ _ _ _ => trivial⟩
    | scr xs =>
      refine (pi_list (ha c e h').1).run pins sh σ H RR I ⟨cf, s, m, S1, ?_⟩
      rw [w]
      intro c1 v H1 l S2 r
      have r' := r
      unfold RelD Rep at r'
      dsimp only at r'
      unfold Rp at r'
      obtain ⟨a1, vs, rfl, g1, g2⟩ := r'
      refine ⟨a1, rfl, ⟨vs, by rw [c.eK]; exact S2.exG.sqL g1⟩, ?_⟩
      refine Out.to (show Out Z W (RelI Z) cf s σ (.ok (xs, .fr) m1) RR from q) l S2 ⟨fun _ _ _ => True, jok_list c.eK fun c' s' m' σ' H' l' _ S3 => ⟨vs, S3.exG.sqL (l'.g.sqL g1), g2.mono l'.g l'.a⟩, fun _ _ _ _ _ _ => trivial, fun _ _ _ _ _ => trivial⟩
    | tup xs =>
      refine (pi_tup (ha c e h').1).run pins sh σ H RR I ⟨cf, s, m, S1, ?_⟩
      rw [w]
      intro c1 v H1 l S2 r
      obtain ⟨a1, vs, rfl, g1, g2⟩ := rep_tup.mp r
      refine ⟨a1, rfl, ⟨vs, by rw [c.eK]; exact S2.exG.sqT g1⟩, ?_⟩
      refine Out.to (show Out Z W (RelI Z) cf s σ (.ok (xs, .fr) m1) RR from q) l S2 ⟨fun _ _ _ => True, jok_tup c.eK fun c' s' m' σ' H' l' _ S3 => ⟨vs, S3.exG.sqT (l'.g.sqT g1), g2.mono l'.g l'.a⟩, fun _ _ _ _ _ _ => trivial, fun _ _ _ _ _ => trivial⟩
    | bor xs =>
      refine (pi_list (ha c e h').1).run pins sh σ H RR I ⟨cf, s, m, S1, ?_⟩
      rw [w]
      intro c1 v H1 l S2 r
      obtain ⟨i, a1, g1, g2, rfl⟩ := (show ∃ (i : Nat) (a : Addr), s[i]? = some (S.own xs) ∧ c1.os[i]? = some (some a) ∧ v = .ref a from r)
      have q0 := S2.slot i _ g1
      rw [g2] at q0
      obtain ⟨b, q1, _, vs, q3, q4⟩ := q0
      cases q1
      refine ⟨a1, rfl, ⟨vs, SqL.of q3⟩, ?_⟩
      refine Out.to (show Out Z W (RelI Z) cf s σ (.ok (xs, .sl) m1) RR from q) l S2 ⟨fun c' s' _ => s'[i]? = some (S.own xs) ∧ c'.os[i]? = some (some a1), jok_list c.eK fun c' s' m' σ' H' l' kp S3 => ?_, fun c' s' m' e1 e2 _ => ⟨e2 i xs g1, by rw [e1]; exact g2⟩, fun z => nomatch z⟩
      have q0 := S3.slot i _ kp.1
      rw [kp.2] at q0
      obtain ⟨b, q1, _, vs', q3, q4⟩ := q0
      cases q1
      exact ⟨vs', SqL.of q3, q4⟩
    | ref kk =>
      have q : Out Z W (RelI Z) cf s σ (match m1[kk]? with
        | some (.lst xs) => .ok (xs, .ce kk) m1
        | _ => .bad) RR := q
      split at q
      · rename_i xs em
        refine (pi_list (ha c e h').1).run pins sh σ H RR I ⟨cf, s, m, S1, ?_⟩
        rw [w]
        intro c1 v H1 l S2 r
        have r' : Rp Z.toZt c1.G c1.as (.ref kk) v := r
        unfold Rp at r'
        obtain ⟨a1, ea, rfl⟩ := r'
        obtain ⟨vs, g1, g2⟩ := S2.cell kk _ a1 em ea
        refine ⟨a1, rfl, ⟨vs, SqL.of g1⟩, ?_⟩
        refine Out.to (show Out Z W (RelI Z) cf s σ (.ok (xs, .ce kk) m1) RR from q) l S2 ⟨fun _ _ m' => m'[kk]? = some (.lst xs), jok_list c.eK fun c' s' m' σ' H' l' kp S3 => ?_, fun _ _ _ _ _ z => z, fun _ _ _ _ z => z⟩
        obtain ⟨us, f1, f2⟩ := S3.cell kk _ a1 kp (pre_get l'.a ea)
        exact ⟨us, SqL.of f1, f2⟩
      · exact q.elim
    | _ => exact q.elim
theorem rng_get {lo : Int} {n i : Nat} (h : i < n) : (rngD lo n)[i]? = some (.int (lo + i)) := by
  unfold rngD
  rw [List.getElem?_map, List.getElem?_range h]
  rfl
theorem rng_len {lo : Int} {n : Nat} : (rngD lo n).length = n := by unfold rngD; simp
theorem jok_rng {c0 : Cfg} {lo : Int} {n : Nat} : JOk Z c0 (fun _ _ _ => True) (rngD lo n) (Itr lo n) := by
  refine ⟨fun i c' s' m' σ' H' l kp S1 hi => by rw [rng_len] at hi; exact hi, fun i c' s' m' σ' H' l kp S1 hi => by rw [rng_len] at hi; exact hi, fun i c' s' m' σ' H' v H2 l kp S1 y hi => ?_⟩
  obtain ⟨rfl, rfl⟩ := y
  rw [rng_len] at hi
  exact ⟨c', .int (lo + i), Cfg.le.rfl', S1, rng_get hi, by unfold Rp; rfl⟩
theorem case_irng {a : IE} (ha : SE Z C k a) : SI Z C k (.rng a) := by
  intro N X sc W c tg e h ht
  unfold chkI at h
  split at h
  · rename_i x p o pos
    simp only [Bool.and_eq_true, decide_eq_true_eq] at h
    obtain ⟨⟨rfl, h2⟩, h3⟩ := h
    obtain ⟨g1, g2, g3⟩ := c.gl h2
    refine PI.of (pi_range1 g1 (c.txt.blt _ (by decide +kernel)) (pa_cons (ha c o h3).1 pa_nil (star_one (noStar h3))) (star_one (noStar h3))) fun σ H R q => ?_
    obtain ⟨cf, s, m, S1, q⟩ := q
    simp only [evI] at q
    refine ⟨cf, s, m, S1, q.bind fun x m1 c1 vx H1 l S2 rx q2 => ?_⟩
    split at q2
    · rename_i j
      have e := rep_int.mp rx
      subst e
      split at q2
      · rename_i hb
        exact ⟨j, rfl, hb.1, hb.2, q2.done S2 ⟨fun _ _ _ => True, jok_rng, fun _ _ _ _ _ _ => trivial, fun _ _ _ _ _ => trivial⟩⟩
      · exact q2.elim
    · exact q2.elim
  · cases h
theorem case_irng2 {a b : IE} (ha : SE Z C k a) (hb : SE Z C k b) : SI Z C k (.rng2 a b) := by
  intro N X sc W c tg e h ht
  unfold chkI at h
  split at h
  · rename_i x p o o2 pos
    simp only [Bool.and_eq_true, decide_eq_true_eq] at h
    obtain ⟨⟨rfl, h2⟩, h3, h4⟩ := h
    obtain ⟨g1, g2, g3⟩ := c.gl h2
    have st1 : ∀ es, starEach (o :: es) X.env = (false, eval o X.env) :: starEach es X.env := fun es => star_one (noStar h3)
    have st2 : ∀ es, starEach (o2 :: es) X.env = (false, eval o2 X.env) :: starEach es X.env := fun es => star_one (noStar h4)
    refine PI.of (pi_range2 g1 (c.txt.blt _ (by decide +kernel)) (pa_cons (ha c o h3).1 (pa_cons (hb c o2 h4).1 pa_nil (st2 _)) (st1 _)) (by rw [st1, st2]; rfl) (by rw [st2]; rfl)) fun σ H R q => ?_
    obtain ⟨cf, s, m, S1, q⟩ := q
    simp only [evI] at q
    refine ⟨cf, s, m, S1, q.bind fun x m1 c1 vx H1 l S2 rx q2 => ⟨c1, s, m1, S2, q2.bind fun y m2 c2 vy H2 l2 S3 ry q3 => ?_⟩⟩
    split at q3
    · rename_i i j
      have e := rep_int.mp rx
      subst e
      have e := rep_int.mp ry
      subst e
      split at q3
      · rename_i hb
        exact ⟨i, j, rfl, hb, q3.done S3 ⟨fun _ _ _ => True, jok_rng, fun _ _ _ _ _ _ => trivial, fun _ _ _ _ _ => trivial⟩⟩
      · exact q3.elim
    · exact q3.elim
  · cases h
theorem zip_get : ∀ {xs ys : List D} {i : Nat} {d : D}, (zipD xs ys)[i]? = some d ↔ ∃ x y, xs[i]? = some x ∧ ys[i]? = some y ∧ d = .tup [x, y]
  | [], ys, i, d => by simp [zipD]
  | x :: xs, [], i, d => by simp [zipD]
  | x :: xs, y :: ys, 0, d => by simp [zipD, eq_comm]
  | x :: xs, y :: ys, i + 1, d => by
    simp only [zipD, List.getElem?_cons_succ]
    exact zip_get
theorem zip_len : ∀ {xs ys : List D}, (zipD xs ys).length = min xs.length ys.length
  | [], ys => by simp [zipD]
  | x :: xs, [] => by simp [zipD]
  | x :: xs, y :: ys => by simp [zipD, zip_len, Nat.succ_min_succ]
theorem pair_rp {c' : Cfg} {s' : List S} {m' : Mu} {σ' : L2.St} {H' : Hp} {T : Addr} {x y : D} {v w : V} (S1 : Sim Z.toZt c' s' m' σ' H') (hT : H' T = none) (rx : Rp Z.toZt c'.G c'.as x v) (ry : Rp Z.toZt c'.G c'.as y w) :
    ∃ c2, c'.le c2 ∧ Sim Z.toZt c2 s' m' σ' (upd H' T (.tup [v, w])) ∧ Rp Z.toZt c2.G c2.as (.tup [x, y]) (.ref T) := by
  obtain ⟨S2, l⟩ := S1.lay (o := .tup [v, w]) hT
  refine ⟨_, l, S2, ?_⟩
  unfold Rp
  exact ⟨T, [v, w], rfl, TupA.of upd_same, .cons (rx.mono l.g l.a) (.cons (ry.mono l.g l.a) .nil)⟩
theorem case_izip {a b : IE} (ha : SE Z C k a) (hb : SE Z C k b) : SI Z C k (.zip a b) := by
  intro N X sc W c tg e h ht
  unfold chkI at h
  split at h
  · rename_i x p o o2 pos
    simp only [Bool.and_eq_true, decide_eq_true_eq] at h
    obtain ⟨⟨rfl, h2⟩, h3, h4⟩ := h
    obtain ⟨g1, g2, g3⟩ := c.gl h2
    have st1 : ∀ es, starEach (o :: es) X.env = (false, eval o X.env) :: starEach es X.env := fun es => star_one (noStar h3)
    have st2 : ∀ es, starEach (o2 :: es) X.env = (false, eval o2 X.env) :: starEach es X.env := fun es => star_one (noStar h4)
    cases tg <;> first | (cases ht; done) | skip
    rename_i elts kk tpos
    refine PI.of (RZ.pi_zipA g1 (c.txt.blt _ (by decide +kernel)) (pa_cons (ha c o h3).1 (pa_cons (hb c o2 h4).1 pa_nil (st2 _)) (st1 _)) (st1 _) (by rw [st2]; rfl)) fun σ H R q => ?_
    obtain ⟨cf, s, m, S1, q⟩ := q
    simp only [evI] at q
    refine ⟨cf, s, m, S1, q.bind fun x m1 c1 vx H1 l S2 rx q2 => ⟨c1, s, m1, S2, q2.bind fun y m2 c2 vy H2 l2 S3 ry q3 => ?_⟩⟩
    have rx2 := rx.mono l2
    split at q3
    · rename_i xs ys
      obtain ⟨a1, vs, rfl, k1, k2⟩ := rep_lst.mp rx2
      obtain ⟨b1, us, rfl, k3, k4⟩ := rep_lst.mp ry
      refine ⟨a1, b1, vs, us, rfl, .inl ⟨SqL.of (S3.exG _ _ k1), SqL.of (S3.exG _ _ k3), q3.done S3 ⟨fun _ _ _ => True, ?_, fun _ _ _ _ _ _ => trivial, fun _ _ _ _ _ => trivial⟩⟩⟩
      refine ⟨fun i c' s' m' σ' H' l kp S1 hi => ?_, fun i c' s' m' σ' H' l kp S1 hi => ?_, fun i c' s' m' σ' H' v H2 l kp S1 y hi => ?_⟩
      · rw [zip_len] at hi
        obtain ⟨v, e⟩ := Rps.at k2 (show i < xs.length by omega)
        obtain ⟨w, e'⟩ := Rps.at k4 (show i < ys.length by omega)
        exact ⟨vs, us, v, w, SqL.of (S1.exG _ _ (l.g _ _ k1)), SqL.of (S1.exG _ _ (l.g _ _ k3)), e, e'⟩
      · rw [zip_len] at hi
        refine ⟨vs, us, SqL.of (S1.exG _ _ (l.g _ _ k1)), SqL.of (S1.exG _ _ (l.g _ _ k3)), ?_⟩
        rw [← k2.length, ← k4.length]
        omega
      · obtain ⟨T, v1, w1, rfl, hT, rfl, y1, y2⟩ := y
        obtain ⟨d1, e1, r1⟩ := k2.get' (y1 vs (SqL.of (S1.exG _ _ (l.g _ _ k1))))
        obtain ⟨d2, e2, r2⟩ := k4.get' (y2 us (SqL.of (S1.exG _ _ (l.g _ _ k3))))
        obtain ⟨c3, l3, S4, r3⟩ := pair_rp S1 hT (r1.mono l.g l.a) (r2.mono l.g l.a)
        exact ⟨c3, _, l3, S4, zip_get.mpr ⟨d1, d2, e1, e2, rfl⟩, r3⟩
    · rename_i xs ys
      obtain ⟨a1, vs, rfl, k1, k2⟩ := rep_tup.mp rx2
      obtain ⟨b1, us, rfl, k3, k4⟩ := rep_tup.mp ry
      refine ⟨a1, b1, vs, us, rfl, .inr ⟨by rw [c.eK]; exact S3.exG.sqT k1, by rw [c.eK]; exact S3.exG.sqT k3, q3.done S3 ⟨fun _ _ _ => True, ?_, fun _ _ _ _ _ _ => trivial, fun _ _ _ _ _ => trivial⟩⟩⟩
      rw [c.eK]
      refine ⟨fun i c' s' m' σ' H' l kp S1 hi => ?_, fun i c' s' m' σ' H' l kp S1 hi => ?_, fun i c' s' m' σ' H' v H2 l kp S1 y hi => ?_⟩
      · rw [zip_len] at hi
        obtain ⟨v, e⟩ := Rps.at k2 (show i < xs.length by omega)
        obtain ⟨w, e'⟩ := Rps.at k4 (show i < ys.length by omega)
        exact ⟨vs, us, v, w, S1.exG.sqT (l.g.sqT k1), S1.exG.sqT (l.g.sqT k3), e, e'⟩
      · rw [zip_len] at hi
        refine ⟨vs, us, S1.exG.sqT (l.g.sqT k1), S1.exG.sqT (l.g.sqT k3), ?_⟩
        rw [← k2.length, ← k4.length]
        omega
      · obtain ⟨T, v1, w1, rfl, hT, rfl, y1, y2⟩ := y
        obtain ⟨d1, e1, r1⟩ := k2.get' (y1 vs (S1.exG.sqT (l.g.sqT k1)))
        obtain ⟨d2, e2, r2⟩ := k4.get' (y2 us (S1.exG.sqT (l.g.sqT k3)))
        obtain ⟨c3, l3, S4, r3⟩ := pair_rp S1 hT (r1.mono l.g l.a) (r2.mono l.g l.a)
        exact ⟨c3, _, l3, S4, zip_get.mpr ⟨d1, d2, e1, e2, rfl⟩, r3⟩
    · exact q3.elim
  · cases h
theorem enu_get : ∀ {xs : List D} {n i : Nat} {d : D}, (enuD n xs)[i]? = some d ↔ ∃ x, xs[i]? = some x ∧ d = .tup [.int ((n + i : Nat) : Int), x]
  | [], n, i, d => by simp [enuD]
  | x :: xs, n, 0, d => by simp [enuD, eq_comm]
  | x :: xs, n, i + 1, d => by
    simp only [enuD, List.getElem?_cons_succ]
    rw [enu_get, show n + 1 + i = n + (i + 1) by omega]
theorem enu_len : ∀ {xs : List D} {n : Nat}, (enuD n xs).length = xs.length
  | [], n => rfl
  | x :: xs, n => by simp [enuD, enu_len]
theorem case_ienu {a : IE} (ha : SE Z C k a) : SI Z C k (.enu a) := by
  intro N X sc W c tg e h ht
  unfold chkI at h
  split at h
  · rename_i x p o pos
    simp only [Bool.and_eq_true, decide_eq_true_eq] at h
    obtain ⟨⟨rfl, h2⟩, h3⟩ := h
    obtain ⟨g1, g2, g3⟩ := c.gl h2
    cases tg <;> first | (cases ht; done) | skip
    rename_i elts kk tpos
    refine PI.of (pi_enum g1 (c.txt.blt _ (by decide +kernel)) (pa_cons (ha c o h3).1 pa_nil (star_one (noStar h3))) (star_one (noStar h3))) fun σ H R q => ?_
    obtain ⟨cf, s, m, S1, q⟩ := q
    simp only [evI] at q
    refine ⟨cf, s, m, S1, q.bind fun x m1 c1 vx H1 l S2 rx q2 => ?_⟩
    split at q2
    · rename_i xs
      obtain ⟨a1, vs, rfl, k1, k2⟩ := rep_lst.mp rx
      refine ⟨a1, vs, rfl, SqL.of (S2.exG _ _ k1), q2.done S2 ⟨fun _ _ _ => True, ?_, fun _ _ _ _ _ _ => trivial, fun _ _ _ _ _ => trivial⟩⟩
      refine ⟨fun i c' s' m' σ' H' l kp S1 hi => ?_, fun i c' s' m' σ' H' l kp S1 hi => ?_, fun i c' s' m' σ' H' v H2 l kp S1 y hi => ?_⟩
      · rw [enu_len] at hi
        obtain ⟨v, e⟩ := Rps.at k2 hi
        exact ⟨vs, v, SqL.of (S1.exG _ _ (l.g _ _ k1)), e⟩
      · rw [enu_len] at hi
        exact ⟨vs, SqL.of (S1.exG _ _ (l.g _ _ k1)), by rw [← k2.length]; exact hi⟩
      · obtain ⟨T, v1, rfl, hT, rfl, y1⟩ := y
        obtain ⟨d1, e1, r1⟩ := k2.get' (y1 vs (SqL.of (S1.exG _ _ (l.g _ _ k1))))
        obtain ⟨c3, l3, S4, r3⟩ := pair_rp (x := .int (i : Nat)) (v := .int (i : Nat)) S1 hT (by unfold Rp; rfl) (r1.mono l.g l.a)
        exact ⟨c3, _, l3, S4, enu_get.mpr ⟨d1, e1, by rw [Nat.zero_add]⟩, r3⟩
    · rename_i kk
      split at q2
      · rename_i xs em
        have r' : Rp Z.toZt c1.G c1.as (.ref kk) vx := rx
        unfold Rp at r'
        obtain ⟨a1, ea, rfl⟩ := r'
        obtain ⟨vs, k1, k2⟩ := S2.cell kk _ a1 em ea
        refine ⟨a1, vs, rfl, SqL.of k1, q2.done S2 ⟨fun _ _ m' => m'[kk]? = some (.lst xs), ?_, fun _ _ _ _ _ z => z, fun _ _ _ _ z => z⟩⟩
        have cl : ∀ c' s' m' σ' H', c1.leG c' → m'[kk]? = some (.lst xs) → Sim Z.toZt c' s' m' σ' H' → ∃ us, SqL X.K H' a1 us ∧ Rps Z.toZt c'.G c'.as xs us := fun c' s' m' σ' H' l' kp S3 => by
          obtain ⟨us, f1, f2⟩ := S3.cell kk _ a1 kp (pre_get l'.a ea)
          exact ⟨us, SqL.of f1, f2⟩
        refine ⟨fun i c' s' m' σ' H' l kp S1 hi => ?_, fun i c' s' m' σ' H' l kp S1 hi => ?_, fun i c' s' m' σ' H' v H2 l kp S1 y hi => ?_⟩
        · rw [enu_len] at hi
          obtain ⟨us, f1, f2⟩ := cl c' s' m' σ' H' l kp S1
          obtain ⟨v, e⟩ := Rps.at f2 hi
          exact ⟨us, v, f1, e⟩
        · rw [enu_len] at hi
          obtain ⟨us, f1, f2⟩ := cl c' s' m' σ' H' l kp S1
          exact ⟨us, f1, by rw [← f2.length]; exact hi⟩
        · obtain ⟨T, v1, rfl, hT, rfl, y1⟩ := y
          obtain ⟨us, f1, f2⟩ := cl c' s' m' σ' H' l kp S1
          obtain ⟨d1, e1, r1⟩ := f2.get' (y1 us f1)
          obtain ⟨c3, l3, S4, r3⟩ := pair_rp (x := .int (i : Nat)) (v := .int (i : Nat)) S1 hT (by unfold Rp; rfl) r1
          exact ⟨c3, _, l3, S4, enu_get.mpr ⟨d1, e1, by rw [Nat.zero_add]⟩, r3⟩
      · exact q2.elim
    · exact q2.elim
  · cases h
end
end Pm
end
end
section
set_option Elab.async false
set_option linter.all false
set_option maxRecDepth 100000
set_option maxHeartbeats 4000000
/-! Pm18: list comprehensions. -/
noncomputable section
namespace Pm
open PySem PySem.Spec L2
theorem wipeS_len {s : List S} : ∀ vs : List Nat, (wipeS s vs).length = s.length
  | [] => rfl
  | v :: vs => by unfold wipeS; rw [List.length_set, wipeS_len vs]
theorem wipeS_get {s : List S} {j : Nat} : ∀ vs : List Nat, (wipeS s vs)[j]? = if j ∈ vs then (if j < s.length then some S.emp else none) else s[j]?
  | [] => by simp [wipeS]
  | v :: vs => by
    unfold wipeS
    by_cases q : v = j
    · subst q
      rw [if_pos List.mem_cons_self]
      by_cases h : v < s.length
      · rw [if_pos h, List.getElem?_set_self (by rw [wipeS_len]; exact h)]
      · rw [if_neg h, List.getElem?_eq_none (by rw [List.length_set, wipeS_len]; omega)]
    · rw [List.getElem?_set_ne q, wipeS_get vs]
      by_cases h : j ∈ vs
      · rw [if_pos h, if_pos (List.mem_cons_of_mem _ h)]
      · rw [if_neg h, if_neg (fun z => (List.mem_cons.mp z).elim (fun e => q e.symm) h)]
theorem wipe_get {σ : L2.St} {j : Nat} : ∀ vs : List Nat, (L2.wipe σ vs)[j]? = if j ∈ vs then (if j < σ.length then some none else none) else σ[j]?
  | [] => by simp [L2.wipe]
  | v :: vs => by
    unfold L2.wipe
    by_cases q : v = j
    · subst q
      rw [if_pos List.mem_cons_self]
      by_cases h : v < σ.length
      · rw [if_pos h, List.getElem?_set_self (by rw [L2.wipe_length]; exact h)]
      · rw [if_neg h, List.getElem?_eq_none (by rw [List.length_set, L2.wipe_length]; omega)]
    · rw [List.getElem?_set_ne q, wipe_get vs]
      by_cases h : j ∈ vs
      · rw [if_pos h, if_pos (List.mem_cons_of_mem _ h)]
      · rw [if_neg h, if_neg (fun z => (List.mem_cons.mp z).elim (fun e => q e.symm) h)]
mutual
theorem setT_facts : ∀ {t : Tg} {d : D} {s s' : List S}, setT t d s = some s' → s'.length = s.length ∧ (∀ j : Nat, j ∉ tgIx t → s'[j]? = s[j]?) ∧ (∀ (j : Nat) (x : List D), s'[j]? = some (S.own x) → s[j]? = some (S.own x))
  | .nam i, d, s, s', h => by
    unfold setT at h
    split at h
    · cases h
    · cases h
      refine ⟨List.length_set .., fun j hj => List.getElem?_set_ne (fun e => hj (by rw [e]; exact List.mem_cons_self)), fun j x e => ?_⟩
      by_cases q : i = j
      · subst q
        by_cases hl : i < s.length
        · rw [List.getElem?_set_self hl] at e; cases e
        · rw [List.getElem?_eq_none (by rw [List.length_set]; omega)] at e; cases e
      · rw [List.getElem?_set_ne q] at e; exact e
  | .tup ts, d, s, s', h => by
    cases d with
    | tup xs => unfold setT at h; exact setTs_facts h
    | _ => unfold setT at h; cases h
theorem setTs_facts : ∀ {ts : List Tg} {ds : List D} {s s' : List S}, setTs ts ds s = some s' → s'.length = s.length ∧ (∀ j : Nat, j ∉ tgIx.ixs ts → s'[j]? = s[j]?) ∧ (∀ (j : Nat) (x : List D), s'[j]? = some (S.own x) → s[j]? = some (S.own x))
  | [], [], s, s', h => by unfold setTs at h; cases h; exact ⟨rfl, fun _ _ => rfl, fun _ _ e => e⟩
  | [], _ :: _, _, _, h => by unfold setTs at h; cases h
  | _ :: _, [], _, _, h => by unfold setTs at h; cases h
  | t :: ts, d :: ds, s, s', h => by
    unfold setTs at h
    obtain ⟨s1, e1, e2⟩ := Option.bind_eq_some_iff.mp h
    obtain ⟨a1, a2, a3⟩ := setT_facts e1
    obtain ⟨b1, b2, b3⟩ := setTs_facts e2
    refine ⟨b1.trans a1, fun j hj => ?_, fun j x e => a3 j x (b3 j x e)⟩
    have hj : j ∉ tgIx t ++ tgIx.ixs ts := hj
    rw [List.mem_append, not_or] at hj
    exact (b2 j hj.2).trans (a2 j hj.1)
end
theorem free_get {s : List S} {own : List Nat} (h : freeS s own = true) {j : Nat} (hj : j ∈ own) : j < s.length ∧ ∀ x, s[j]? ≠ some (S.own x) := by
  unfold freeS at h
  rw [List.all_eq_true] at h
  have q := h j hj
  split at q
  · cases q
  · rename_i y ne e
    have hl := (List.getElem?_eq_some_iff.mp e).1
    exact ⟨hl, fun x z => by rw [e] at z; cases z; exact ne _ rfl⟩
  · cases q
section
variable {Z : Zt} {c c' : Cfg} {s s1 : List S} {m m1 : Mu} {σ σ1 : L2.St} {H H1 : Hp} {own : List Nat}
theorem Sim.free_os (S1 : Sim Z c s m σ H) (hf : freeS s own = true) {j : Nat} (hj : j ∈ own) : c.os[j]? = some none := by
  obtain ⟨hl, hx⟩ := free_get hf hj
  have q := S1.slot j _ (List.getElem?_eq_getElem hl)
  have hx := fun x => hx x
  rw [List.getElem?_eq_getElem hl] at hx
  cases w : s[j] with
  | emp => rw [w] at q; exact q
  | val d => rw [w] at q; exact q.1
  | own xs => rw [w] at hx; exact absurd rfl (hx xs)
theorem Sim.wiped (S1 : Sim Z c s m σ H) (hf : freeS s own = true) : Sim Z c (wipeS s own) m (L2.wipe σ own) H := by
  refine ⟨S1.exG, S1.exF, S1.gf, by rw [L2.wipe_length, wipeS_len]; exact S1.ls, by rw [wipeS_len]; exact S1.lo, S1.la, fun j x h => ?_, S1.cell, S1.gn, S1.nd⟩
  rw [wipeS_get] at h
  by_cases q : j ∈ own
  · rw [if_pos q, if_pos (free_get hf q).1] at h
    cases h
    exact S1.free_os hf q
  · rw [if_neg q] at h
    rw [wipe_get, if_neg q]
    exact S1.slot j x h
theorem Sim.unwipe {m' : Mu} {H' : Hp} (S0 : Sim Z c s m σ H) (S1 : Sim Z c' (wipeS s own) m' (L2.wipe σ own) H') (l : c.le c') (hf : freeS s own = true) : Sim Z c' s m' σ H' := by
  refine ⟨S1.exG, S1.exF, S1.gf, S0.ls, by rw [l.o]; exact S0.lo, S1.la, fun j x h => ?_, S1.cell, S1.gn, S1.nd⟩
  by_cases q : j ∈ own
  · have z := S0.slot j x h
    have n := S0.free_os hf q
    rw [l.o]
    refine z.mono l.g l.a fun a e => ?_
    rw [n] at e; cases e
  · have z := S1.slot j x (by rw [wipeS_get, if_neg q]; exact h)
    rw [wipe_get, if_neg q] at z
    exact z
theorem Sim.poke {p : Addr} {o : HO} (S1 : Sim Z c s m σ H) (hg : c.G p = none) (hf : c.F p = none) (ht : ¬ Trk c p) : Sim Z c s m σ (upd H p o) := by
  have ne : ∀ a, Trk c a → (upd H p o) a = H a := fun a ha => upd_ne fun e => ht (by rw [← e]; exact ha)
  refine ⟨fun a u e => ?_, fun a u e => ?_, S1.gf, S1.ls, S1.lo, S1.la, fun i x h => (S1.slot i x h).mono Ex.rfl' (List.prefix_refl _) fun a e => ne a (.inr (mem_os e)), fun k cl a h1 h2 => (S1.cell k cl a h1 h2).mono Ex.rfl' (List.prefix_refl _) (ne a (.inl (List.mem_of_getElem? h2))), S1.gn, S1.nd⟩
  · rw [upd_ne (fun q => by rw [q, hg] at e; cases e)]; exact S1.exG a u e
  · rw [upd_ne (fun q => by rw [q, hf] at e; cases e)]; exact S1.exF a u e
/-- behind a turn: the block's own slots forgotten again -/
theorem Sim.back (S0 : Sim Z c (wipeS s own) m (L2.wipe σ own) H) (hw : ∀ j ∈ own, j < s.length) (S1 : Sim Z c' s1 m1 σ1 H1) (ho : ∀ j : Nat, j ∉ own → σ1[j]? = (L2.wipe σ own)[j]? ∧ c'.os[j]? = c.os[j]?) (hl : s1.length = s.length)
    (hs : ∀ j : Nat, j ∉ own → s1[j]? = (wipeS s own)[j]?) (hx : ∀ (j : Nat) (x : List D), s1[j]? = some (S.own x) → (wipeS s own)[j]? = some (S.own x)) :
    c'.os = c.os ∧ L2.wipe σ1 own = L2.wipe σ own ∧ Sim Z c' (wipeS s own) m1 (L2.wipe σ own) H1 := by
  have e0 : ∀ j ∈ own, c.os[j]? = some none := fun j hj => S0.slot j .emp (by rw [wipeS_get, if_pos hj, if_pos (hw j hj)])
  have e1 : c'.os = c.os := by
    refine List.ext_getElem? fun j => ?_
    by_cases q : j ∈ own
    · rw [e0 j q]
      have hj : j < s1.length := by rw [hl]; exact hw j q
      have z := S1.slot j _ (List.getElem?_eq_getElem hj)
      cases w : s1[j] with
      | emp => rw [w] at z; exact z
      | val d => rw [w] at z; exact z.1
      | own xs =>
        have := hx j xs (by rw [List.getElem?_eq_getElem hj, w])
        rw [wipeS_get, if_pos q, if_pos (hw j q)] at this
        cases this
    · exact (ho j q).2
  have ll : σ1.length = σ.length := by rw [S1.ls, hl, ← wipeS_len (s := s) own, ← S0.ls, L2.wipe_length]
  refine ⟨e1, List.ext_getElem? fun j => ?_, ⟨S1.exG, S1.exF, S1.gf, S0.ls, by rw [e1]; exact S0.lo, S1.la, fun j x h => ?_, S1.cell, S1.gn, S1.nd⟩⟩
  · rw [wipe_get, wipe_get]
    by_cases q : j ∈ own
    · rw [if_pos q, if_pos q, ll]
    · rw [if_neg q, if_neg q, (ho j q).1, wipe_get, if_neg q]
  · by_cases q : j ∈ own
    · rw [wipeS_get, if_pos q, if_pos (hw j q)] at h
      cases h
      rw [e1]
      exact e0 j q
    · have z := S1.slot j x (by rw [hs j q]; exact h)
      rw [(ho j q).1] at z
      exact z
end
section
variable {Z : Ze} {C : CF} {k : Nat} {N : List Str} {X : Cx} {sc : Scope} {W : WX}
theorem PTs.of {X : Cx} {e : List Expr} {t t' : TT} (h : PTs X e t) (k : ∀ σ H Q, t' σ H Q → t σ H Q) : PTs X e t' := ⟨fun pins s σ H Q I q => h.run pins s σ H Q I (k σ H Q q)⟩
def STs (Z : Ze) (C : CF) (k : Nat) (cs : IEs) : Prop := ∀ {N : List Str} {X : Cx} {sc : Scope} {W : WX}, Cok Z C k N X sc W → ∀ es, chkEs Z N cs sc es = true → es.length ≤ 1 → PTs X es (tT Z W (evc Z.T C cs))
theorem sts_nil : STs Z C k .nil := by
  intro N X sc W c es h hl
  unfold chkEs at h
  rw [List.isEmpty_iff] at h
  subst h
  refine PTs.of pts_nil fun σ H Q q => ?_
  obtain ⟨cf, s, m, S1, o⟩ := q
  exact Out.done (show Out Z W (RelB Z) cf s σ (.ok true m) Q from o) S1 rfl
theorem sts_cons {a : IE} {r : IEs} (ha : SE Z C k a) : STs Z C k (.cons a r) := by
  intro N X sc W c es h hl
  unfold chkEs at h
  split at h
  · rename_i e es
    cases es with
    | cons _ _ => simp at hl
    | nil =>
      rw [Bool.and_eq_true] at h
      have hr : r = .nil := by
        cases r with
        | nil => rfl
        | cons _ _ => have := h.2; unfold chkEs at this; cases this
      subst hr
      refine PTs.of (pts_one (ha c e h.1).2) fun σ H Q q => ?_
      obtain ⟨cf, s, m, S1, o⟩ := q
      refine ⟨cf, s, m, S1, ?_⟩
      have e0 : evc Z.T C (.cons a .nil) s m = tru Z.T C a s m := by
        unfold evc tru
        congr 1
        funext x m1
        cases truth m1 x with
        | none => rfl
        | some b => cases b <;> rfl
      rw [← e0]
      exact o
  · cases h
theorem Cok.blk (c : Cok Z C k N X sc W) {scope : Scope} (sh : Shared) (H : Hp) (a : Addr) (cl : List (Str × Addr)) (fp : List Addr) : Cok Z C k N (X.blk sh H scope (compEnvC scope cl a X.env) fp) (relS scope sc) (fun _ _ _ _ => False) :=
  ⟨c.eK, c.eN, c.nd, by show relS scope X.env.scope = _; rw [c.esc], c.calm, takes0, c.room, c.clen, c.txt, c.fns⟩
theorem bnd_blk {scope : Scope} (sh : Shared) (H : Hp) (a : Addr) (cl : List (Str × Addr)) (fp : List Addr) : Bnd (X.blk sh H scope (compEnvC scope cl a X.env) fp) scope :=
  ⟨fun x h => lookup_relS_keep (sc := X.env.scope) (k := NameKind.local) (by decide) h, fun x h => ⟨lookup_relS_keep (sc := X.env.scope) (k := NameKind.cell) (by decide) h, by show (scope.names.lookup x == some .cell) = true; rw [h]; rfl⟩⟩
/-- a turn of a comprehension -/
def turnL (T : Tab) (C : CF) (own : List Nat) (tg : Tg) (cs : IEs) (e : IE) (s : List S) : D → Mu → R (Option D) := fun x m2 => match setT tg x (wipeS s own) with
  | none => .bad
  | some s1 => (evc T C cs s1 m2).bind fun b m3 => if b = true then (ev T C e s1 m3).bind fun y m4 => if y.isBor then .bad else .ok (some y) m4 else .ok none m3
def LcW (Z : Ze) (W : WX) (ck : Mu → Prop) (f : D → Mu → R (Option D)) (own : List Nat) (s : List S) (σ : L2.St) (p : Addr) (xs : List D) (c1 : Cfg) (Q : VK) (i n : Nat) (H : Hp) : Prop :=
  n = xs.length - i ∧ i ≤ xs.length ∧ ∃ c' mu acc accv, c1.le c' ∧ Sim Z.toZt c' (wipeS s own) mu (L2.wipe σ own) H ∧ H p = some (.lst accv) ∧ Rps Z.toZt c'.G c'.as acc accv ∧ (c'.G p = none ∧ c'.F p = none ∧ ¬ Trk c' p) ∧ acc.length ≤ i ∧
    Out Z W (RelF Z) c' s σ (((loopL ck f (xs.drop i) mu).bind fun ys m2 => .ok (acc ++ ys) m2).noex) Q
theorem lc_imp {own : List Nat} {tg : Tg} {it : It} {cs : IEs} {x : IE} (hown : ((tgIx tg).all fun i => own.contains i) = true) {σ : L2.St} {H : Hp} {Q : VK} (q : tF Z W (evF Z.T C (.lc own tg it cs x)) σ H Q) :
    tLc (tI Z W (evI Z.T C it)) (tG Z tg) (tT Z (fun _ _ _ _ => False) (evc Z.T C cs)) (tE Z (fun _ _ _ _ => False) (ev Z.T C x)) own σ H Q := by
  obtain ⟨cf, s, m, S1, q⟩ := q
  rw [evF] at q
  refine ⟨cf, s, m, S1, q.bind fun xb m1 c1 J H1 l S2 rJ q2 => ?_⟩
  split at q2
  · rename_i hh
    obtain ⟨hfree, hlim⟩ := hh
    have q2 : Out Z W (RelF Z) c1 s σ ((loopL (xb.2.ok xb.1) (turnL Z.T C own tg cs x s) xb.1 m1).noex) Q := q2
    obtain ⟨KP, jok, kp1, kp2⟩ := rJ
    have kp : ∀ c' m', c1.le c' → xb.2.ok xb.1 m' → KP c' (wipeS s own) m' := fun c' m' l hk => kp1 c' _ m' l.o (fun j x e => by
      rw [wipeS_get, if_neg fun z => (free_get hfree z).2 x e]; exact e) hk
    intro p hp
    obtain ⟨p1, p2, p3⟩ := S2.fresh hp
    refine ⟨LcW Z W (xb.2.ok xb.1) (turnL Z.T C own tg cs x s) own s σ p xb.1 c1 Q, ⟨xb.1.length, rfl, Nat.zero_le _, c1, m1, [], [], Cfg.le.rfl', (S2.new hp).wiped hfree, upd_same, Rps.nil, ⟨p1, p2, p3⟩, Nat.le_refl _, ?_⟩, ?_⟩
    · have e0 : ((loopL (xb.2.ok xb.1) (turnL Z.T C own tg cs x s) (xb.1.drop 0) m1).bind fun ys m2 => .ok ([] ++ ys) m2).noex = (loopL (xb.2.ok xb.1) (turnL Z.T C own tg cs x s) xb.1 m1).noex := by
        rw [List.drop_zero]
        cases loopL (xb.2.ok xb.1) (turnL Z.T C own tg cs x s) xb.1 m1 <;> rfl
      rw [e0]; exact q2
    · rintro i n Hc ⟨rfl, hil, c', mu, acc, accv, l', S3, hpc, rA, g, hal, o⟩
      by_cases hck : xb.2.ok xb.1 mu
      rotate_left
      · exfalso
        have e9 : loopL (xb.2.ok xb.1) (turnL Z.T C own tg cs x s) (xb.1.drop i) mu = .bad := by
          cases xb.1.drop i <;> (rw [loopL, if_neg hck])
        rw [e9] at o
        exact o
      by_cases hlt : i < xb.1.length
      · refine .inr ⟨jok.go i c' _ _ _ _ ⟨l'.g, l'.a⟩ (kp c' mu l' hck) S3 hlt, LcW Z W (xb.2.ok xb.1) (turnL Z.T C own tg cs x s) own s σ p xb.1 c1 Q (i + 1) (xb.1.length - (i + 1)), fun H' w => ⟨_, by omega, w⟩, fun v H' y => ?_⟩
        have S4 := S3.gd hpc g.1 g.2.2
        obtain ⟨c2, d, l2, S5, ed, rd⟩ := jok.yld i (c'.gd p (.lst accv)) _ _ _ _ v H' ⟨l'.g, l'.a⟩ (kp1 _ _ mu l'.o (fun j x e => by
          rw [wipeS_get, if_neg fun z => (free_get hfree z).2 x e]; exact e) hck) S4 y hlt
        have edr : xb.1.drop i = d :: xb.1.drop (i + 1) := by
          rw [List.drop_eq_getElem_cons hlt]
          rw [List.getElem?_eq_getElem hlt] at ed
          cases ed; rfl
        rw [edr] at o
        rw [loopL, if_pos hck] at o
        cases w1 : setT tg d (wipeS s own) with
        | none =>
          have e1 : turnL Z.T C own tg cs x s d mu = .bad := by unfold turnL; rw [w1]
          rw [e1] at o
          exact o.elim
        | some s1 =>
          have e1 : turnL Z.T C own tg cs x s d mu = ((evc Z.T C cs s1 mu).bind fun b m3 => if b = true then (ev Z.T C x s1 m3).bind fun y m4 => if y.isBor then .bad else .ok (some y) m4 else .ok none m3) := by unfold turnL; rw [w1]
          rw [e1] at o
          refine ⟨c2, wipeS s own, mu, d, s1, S5, rd, w1, fun c3 σ3 l3 a3 o3 S6 => ?_⟩
          obtain ⟨f1, f2, f3⟩ := setT_facts w1
          rw [wipeS_len] at f1
          have hin : ∀ j, j ∉ own → j ∉ tgIx tg := fun j hj z => hj (by
            rw [List.all_eq_true] at hown
            have := hown j z
            simpa using this)
          have hos : c2.os = c'.os := l2.o
          have bk := Sim.back S3 (fun j hj => (free_get hfree hj).1) S6 (fun j hj => by
            obtain ⟨u1, u2⟩ := o3 j (hin j hj)
            exact ⟨u1, by rw [u2, hos]⟩) f1 (fun j hj => f2 j (hin j hj)) f3
          -- back to the loop's state
          have fin : ∀ {c4 : Cfg} {m4 : Mu} {H4 : Hp}, c3.le c4 → Sim Z.toZt c4 s1 m4 σ3 H4 → (c'.le (c4.un c') ∧ Sim Z.toZt (c4.un c') (wipeS s own) m4 (L2.wipe σ own) H4 ∧ H4 p = some (.lst accv) ∧ c4.G p = none ∧ ¬ Trk c4 p ∧ Rps Z.toZt c4.G c4.as acc accv) := fun {c4 m4 H4} l4 S7 => by
            have bk4 := Sim.back S3 (fun j hj => (free_get hfree hj).1) S7 (fun j hj => by
              obtain ⟨u1, u2⟩ := o3 j (hin j hj)
              exact ⟨u1, by rw [l4.o, u2, hos]⟩) f1 (fun j hj => f2 j (hin j hj)) f3
            obtain ⟨b1, _, S8⟩ := bk4
            have hF : c4.F = (c'.gd p (.lst accv)).F := by rw [l4.f, l3.f, l2.f]
            obtain ⟨S9, h1, h2, h3⟩ := S8.ungd (p := p) (o := .lst accv) g.2.1 hF
            have gg : Ex c'.G c4.G := (show Ex c'.G c2.G from l2.g).trans (l3.g.trans l4.g)
            have aa : c'.as <+: c4.as := (show c'.as <+: c2.as from l2.a).trans (l3.a.trans l4.a)
            exact ⟨⟨gg, rfl, aa, b1⟩, S9, h1, h2, h3, rA.mono gg aa⟩
          refine ⟨bk.2.1, c3, s1, mu, S6, ?_⟩
          cases w2 : evc Z.T C cs s1 mu with
          | bad => rw [w2] at o; exact o.elim
          | exc x1 p1 m3 => rw [w2] at o; exact o.elim
          | ok b m3 =>
            rw [w2] at o
            rw [R.bind_ok] at o
            intro c4 b' H4 l4 S7 hb'
            have hb' : b' = b := hb'
            subst hb'
            cases b' with
            | false =>
              rw [if_neg (by simp)] at o ⊢
              obtain ⟨k1, k2, k3, k4, k5, k6⟩ := fin l4 S7
              refine ⟨rfl, hlt, c4.un c', m3, acc, accv, l'.trans k1, k2, k3, k6, ⟨k4, g.2.1, k5⟩, Nat.le_succ_of_le hal, ?_⟩
              have e3 : (((R.ok none m3).bind fun y m1 => (loopL (xb.2.ok xb.1) (turnL Z.T C own tg cs x s) (xb.1.drop (i + 1)) m1).bind fun ys m2 => .ok (y.toList ++ ys) m2).bind fun ys m2 => .ok (acc ++ ys) m2).noex = ((loopL (xb.2.ok xb.1) (turnL Z.T C own tg cs x s) (xb.1.drop (i + 1)) m3).bind fun ys m2 => .ok (acc ++ ys) m2).noex := by
                rw [R.bind_ok]
                cases loopL (xb.2.ok xb.1) (turnL Z.T C own tg cs x s) (xb.1.drop (i + 1)) m3 <;> rfl
              rw [e3] at o
              exact o.mono k1
            | true =>
              rw [if_pos rfl] at o ⊢
              refine ⟨c4, s1, m3, S7, ?_⟩
              cases w3 : ev Z.T C x s1 m3 with
              | bad => rw [w3] at o; exact o.elim
              | exc x1 p1 m4 => rw [w3] at o; exact o.elim
              | ok yy m4 =>
                rw [w3] at o
                rw [R.bind_ok] at o
                intro c5 vy H5 l5 S8 ry
                obtain ⟨k1, k2, k3, k4, k5, k6⟩ := fin (l4.trans l5) S8
                by_cases hbo : yy.isBor = true
                · rw [if_pos hbo] at o; exact o.elim
                · rw [if_neg hbo, R.bind_ok] at o
                  have ry' : Rp Z.toZt c5.G c5.as yy vy := Rep.rp ry (by simpa using hbo)
                  have ll : accv.length ≤ 100000 := by
                    rw [← rA.length]
                    have : lim = 100000 := rfl
                    omega
                  refine ⟨accv, k3, ?_, rfl, hlt, c5.un c', m4, acc ++ [yy], accv ++ [vy], l'.trans k1, k2.poke k4 g.2.1 k5, upd_same, k6.append (.cons ry' .nil), ⟨k4, g.2.1, k5⟩, by rw [List.length_append]; exact Nat.succ_le_succ hal, ?_⟩
                  · have : accv.length < 100000 := by
                      rw [← rA.length]
                      have : lim = 100000 := rfl
                      omega
                    exact Nat.lt_of_lt_of_le this line_lim
                  · have e3 : (((loopL (xb.2.ok xb.1) (turnL Z.T C own tg cs x s) (xb.1.drop (i + 1)) m4).bind fun ys m2 => .ok ((some yy).toList ++ ys) m2).bind fun ys m2 => .ok (acc ++ ys) m2).noex = ((loopL (xb.2.ok xb.1) (turnL Z.T C own tg cs x s) (xb.1.drop (i + 1)) m4).bind fun ys m2 => .ok (acc ++ [yy] ++ ys) m2).noex := by
                      cases loopL (xb.2.ok xb.1) (turnL Z.T C own tg cs x s) (xb.1.drop (i + 1)) m4 with
                      | ok ys m5 => simp
                      | exc _ _ _ => rfl
                      | bad => rfl
                    rw [e3] at o
                    exact o.mono k1
      · have hge : xb.1.length ≤ i := by omega
        refine .inl ⟨jok.stop i c' _ _ _ _ ⟨l'.g, l'.a⟩ (kp c' mu l' hck) S3 hge, ?_⟩
        rw [List.drop_eq_nil_of_le hge, loopL, if_pos hck, R.bind_ok, List.append_nil] at o
        have o : Out Z W (RelF Z) c' s σ (.ok acc mu) Q := o
        exact o.done (S2.unwipe S3 l' hfree) ⟨p, accv, rfl, hpc, rA, g.1, g.2.1, g.2.2⟩
  · exact q2.elim

theorem case_lc {own : List Nat} {tg : Tg} {it : It} {cs : IEs} {x : IE} (hi : SI Z C k it) (hc : STs Z C k cs) (hx : SE Z C k x) : SF Z C k (.lc own tg it cs x) := by
  intro N X sc W c e h
  unfold chkF at h
  split at h
  · rename_i elt t iter ifs scope pos
    simp only [Bool.and_eq_true, decide_eq_true_eq] at h
    obtain ⟨⟨hb, ⟨ht, hns⟩, hit, hown⟩, ⟨hI, hlen⟩, hcs, hxx⟩ := h
    have eo : (own.map fun i => (N.getD i Str.empty, i)).map (·.2) = own := by
      rw [List.map_map]
      exact (List.map_congr_left fun a _ => rfl).trans (List.map_id _)
    refine PE.of (pe_lc (own := own.map fun i => (N.getD i Str.empty, i)) c.calm (by rw [c.eN]; exact c.nd) (hi c t iter hI hit) (by rw [c.eN, c.esc]; exact blkOk_by hb) (fun sh H a cl fp => sndT (X := X.blk sh H scope (compEnvC scope cl a X.env) fp) c.eN c.nd c.calm c.eK (bnd_blk sh H a cl fp) tg t ht)
      (fun sh H a cl fp => hc (c.blk sh H a cl fp) ifs hcs hlen) (fun sh H a cl fp => (hx (c.blk sh H a cl fp) elt hxx).1) (by intro v; cases iter <;> first | rfl | cases hns)) fun σ H Q q => by rw [eo]; exact lc_imp hown q
  · cases h
/-- a turn of the inner loop, of the outer one -/
def turnM (T : Tab) (C : CF) (ow1 : List Nat) (tg1 : Tg) (e : IE) (s1 : List S) : D → Mu → R (Option D) := fun y m4 => match setT tg1 y (wipeS s1 ow1) with
  | none => .bad
  | some s2 => (ev T C e s2 m4).bind fun z m5 => if z.isBor then .bad else .ok (some z) m5
def turnA (T : Tab) (C : CF) (own : List Nat) (tg : Tg) (ow1 : List Nat) (tg1 : Tg) (it1 : It) (e : IE) (s : List S) : D → Mu → R (List D) := fun x m2 => match setT tg x (wipeS s own) with
  | none => .bad
  | some s1 => (evI T C it1 s1 m2).bind fun ys m3 => if freeS s1 ow1 = true ∧ ys.1.length ≤ 300 then loopL (ys.2.ok ys.1) (turnM T C ow1 tg1 e s1) ys.1 m3 else .bad
def Lc2W (Z : Ze) (W : WX) (ck : Mu → Prop) (f : D → Mu → R (List D)) (own : List Nat) (s : List S) (σ : L2.St) (p : Addr) (xs : List D) (c1 : Cfg) (Q : VK) (i n : Nat) (H : Hp) : Prop :=
  n = xs.length - i ∧ i ≤ xs.length ∧ ∃ c' mu acc accv, c1.le c' ∧ Sim Z.toZt c' (wipeS s own) mu (L2.wipe σ own) H ∧ H p = some (.lst accv) ∧ Rps Z.toZt c'.G c'.as acc accv ∧ (c'.G p = none ∧ c'.F p = none ∧ ¬ Trk c' p) ∧ acc.length ≤ i * 300 ∧
    Out Z W (RelF Z) c' s σ (((loopA ck f (xs.drop i) mu).bind fun ys m2 => .ok (acc ++ ys) m2).noex) Q
def InW (Z : Ze) (W : WX) (ck : Mu → Prop) (f : D → Mu → R (Option D)) (k : Mu → R (List D)) (ow1 : List Nat) (s1 s : List S) (σ1 σ : L2.St) (p : Addr) (ys : List D) (c0 c1 : Cfg) (Q : VK) (i j n : Nat) (H : Hp) : Prop :=
  n = ys.length - j ∧ j ≤ ys.length ∧ ∃ c' mu acc accv, c1.le c' ∧ Sim Z.toZt c' (wipeS s1 ow1) mu (L2.wipe σ1 ow1) H ∧ H p = some (.lst accv) ∧ Rps Z.toZt c'.G c'.as acc accv ∧ (c'.G p = none ∧ c'.F p = none ∧ ¬ Trk c' p) ∧ acc.length ≤ i * 300 + j ∧
    Out Z W (RelF Z) c0 s σ (((loopL ck f (ys.drop j) mu).bind fun zs m2 => (k m2).bind fun us m3 => .ok (acc ++ zs ++ us) m3).noex) Q
theorem evc_nilE (T : Tab) (C : CF) (s : List S) (m : Mu) : evc T C .nil s m = .ok true m := by unfold evc; rfl
theorem lc2_imp {own ow1 : List Nat} {tg tg1 : Tg} {it it1 : It} {x : IE} (hown : ((tgIx tg).all fun i => own.contains i) = true) (hown1 : ((tgIx tg1).all fun i => ow1.contains i) = true) (hsub : (ow1.all fun i => own.contains i) = true) {σ : L2.St} {H : Hp} {Q : VK} (q : tF Z W (evF Z.T C (.lc2 own tg it ow1 tg1 it1 x)) σ H Q) :
    tLc2 (tI Z W (evI Z.T C it)) (tG Z tg) (tT Z (fun _ _ _ _ => False) (evc Z.T C .nil)) (tI Z (fun _ _ _ _ => False) (evI Z.T C it1)) (tG Z tg1) (tT Z (fun _ _ _ _ => False) (evc Z.T C .nil)) (tE Z (fun _ _ _ _ => False) (ev Z.T C x)) own ow1 σ H Q := by
  obtain ⟨cf, s, m, S1, q⟩ := q
  rw [evF] at q
  refine ⟨cf, s, m, S1, q.bind fun xb m1 c1 J H1 l S2 rJ q2 => ?_⟩
  split at q2
  · rename_i hh
    obtain ⟨hfree, hlim⟩ := hh
    have q2 : Out Z W (RelF Z) c1 s σ ((loopA (xb.2.ok xb.1) (turnA Z.T C own tg ow1 tg1 it1 x s) xb.1 m1).noex) Q := q2
    generalize hf : turnA Z.T C own tg ow1 tg1 it1 x s = f at q2
    obtain ⟨KP, jok, kp1, kp2⟩ := rJ
    have kp : ∀ c' m', c'.os = c1.os → xb.2.ok xb.1 m' → KP c' (wipeS s own) m' := fun c' m' l hk => kp1 c' _ m' l (fun j x e => by
      rw [wipeS_get, if_neg fun z => (free_get hfree z).2 x e]; exact e) hk
    intro p hp
    obtain ⟨p1, p2, p3⟩ := S2.fresh hp
    refine ⟨Lc2W Z W (xb.2.ok xb.1) f own s σ p xb.1 c1 Q, ⟨xb.1.length, rfl, Nat.zero_le _, c1, m1, [], [], Cfg.le.rfl', (S2.new hp).wiped hfree, upd_same, Rps.nil, ⟨p1, p2, p3⟩, Nat.zero_le _, ?_⟩, ?_⟩
    · have e0 : ((loopA (xb.2.ok xb.1) f (xb.1.drop 0) m1).bind fun ys m2 => .ok ([] ++ ys) m2).noex = (loopA (xb.2.ok xb.1) f xb.1 m1).noex := by
        rw [List.drop_zero]
        cases loopA (xb.2.ok xb.1) f xb.1 m1 <;> rfl
      rw [e0]; exact q2
    · rintro i n Hc ⟨rfl, hil, c', mu, acc, accv, l', S3, hpc, rA, g, hal, o⟩
      by_cases hck : xb.2.ok xb.1 mu
      rotate_left
      · exfalso
        have e9 : loopA (xb.2.ok xb.1) f (xb.1.drop i) mu = .bad := by
          cases xb.1.drop i <;> (rw [loopA, if_neg hck])
        rw [e9] at o
        exact o
      by_cases hlt : i < xb.1.length
      · refine .inr ⟨jok.go i c' _ _ _ _ ⟨l'.g, l'.a⟩ (kp c' mu l'.o hck) S3 hlt, Lc2W Z W (xb.2.ok xb.1) f own s σ p xb.1 c1 Q (i + 1) (xb.1.length - (i + 1)), fun H' w => ⟨_, by omega, w⟩, fun v H' y => ?_⟩
        have S4 := S3.gd hpc g.1 g.2.2
        obtain ⟨c2, d, l2, S5, ed, rd⟩ := jok.yld i (c'.gd p (.lst accv)) _ _ _ _ v H' ⟨l'.g, l'.a⟩ (kp _ mu l'.o hck) S4 y hlt
        have edr : xb.1.drop i = d :: xb.1.drop (i + 1) := by
          rw [List.drop_eq_getElem_cons hlt]
          rw [List.getElem?_eq_getElem hlt] at ed
          cases ed; rfl
        rw [edr, loopA, if_pos hck] at o
        cases w1 : setT tg d (wipeS s own) with
        | none =>
          have e1 : f d mu = .bad := by rw [← hf]; unfold turnA; rw [w1]
          rw [e1] at o
          exact o.elim
        | some s1 =>
          have e1 : f d mu = ((evI Z.T C it1 s1 mu).bind fun ys m3 => if freeS s1 ow1 = true ∧ ys.1.length ≤ 300 then loopL (ys.2.ok ys.1) (turnM Z.T C ow1 tg1 x s1) ys.1 m3 else .bad) := by rw [← hf]; unfold turnA; rw [w1]
          rw [e1] at o
          refine ⟨c2, wipeS s own, mu, d, s1, S5, rd, w1, fun c3 σ3 l3 a3 o3 S6 => ?_⟩
          obtain ⟨f1, f2, f3⟩ := setT_facts w1
          rw [wipeS_len] at f1
          have hin : ∀ j, j ∉ own → j ∉ tgIx tg := fun j hj z => hj (by
            rw [List.all_eq_true] at hown
            have := hown j z
            simpa using this)
          have hos : c2.os = c'.os := l2.o
          have bk := Sim.back S3 (fun j hj => (free_get hfree hj).1) S6 (fun j hj => by
            obtain ⟨u1, u2⟩ := o3 j (hin j hj)
            exact ⟨u1, by rw [u2, hos]⟩) f1 (fun j hj => f2 j (hin j hj)) f3
          refine ⟨bk.2.1, c3, s1, mu, S6, ?_⟩
          rw [evc_nilE]
          intro c3' b' H4' l3' S6' hb'
          have hb' : b' = true := hb'
          subst hb'
          rw [if_pos rfl]
          refine ⟨c3', s1, mu, S6', ?_⟩
          cases w2 : evI Z.T C it1 s1 mu with
          | bad => rw [w2] at o; exact o.elim
          | exc x1 p1 m3 => rw [w2] at o; exact o.elim
          | ok yb m3 =>
            rw [w2, R.bind_ok] at o
            intro c4 J1 H4 l4 S7 rJ1
            by_cases hh1 : freeS s1 ow1 = true ∧ yb.1.length ≤ 300
            rotate_left
            · rw [if_neg hh1] at o; exact o.elim
            rw [if_pos hh1] at o
            obtain ⟨hfree1, hlim1⟩ := hh1
            obtain ⟨KP1, jok1, kp11, kp12⟩ := rJ1
            have kq : ∀ c5 m5, c5.os = c4.os → yb.2.ok yb.1 m5 → KP1 c5 (wipeS s1 ow1) m5 := fun c5 m5 l hk => kp11 c5 _ m5 l (fun j x e => by
              rw [wipeS_get, if_neg fun z => (free_get hfree1 z).2 x e]; exact e) hk
            have hF4 : c4.F = (c'.gd p (.lst accv)).F := by rw [l4.f, l3'.f, l3.f, l2.f]
            obtain ⟨S8, h1, h2, h3⟩ := S7.ungd (p := p) (o := .lst accv) g.2.1 hF4
            have gg : Ex c'.G c4.G := (show Ex c'.G c2.G from l2.g).trans (l3.g.trans (l3'.g.trans l4.g))
            have aa : c'.as <+: c4.as := (show c'.as <+: c2.as from l2.a).trans (l3.a.trans (l3'.a.trans l4.a))
            refine ⟨InW Z W (yb.2.ok yb.1) (turnM Z.T C ow1 tg1 x s1) (loopA (xb.2.ok xb.1) f (xb.1.drop (i + 1))) ow1 s1 s σ3 σ p yb.1 c' (c4.un c') Q i, ⟨yb.1.length, rfl, Nat.zero_le _, c4.un c', m3, acc, accv, Cfg.le.rfl', S8.wiped hfree1, h1, rA.mono gg aa, ⟨h2, g.2.1, h3⟩, by omega, ?_⟩, ?_⟩
            · have e3 : (((loopL (yb.2.ok yb.1) (turnM Z.T C ow1 tg1 x s1) yb.1 m3).bind fun ys m1 => (loopA (xb.2.ok xb.1) f (xb.1.drop (i + 1)) m1).bind fun zs m2 => .ok (ys ++ zs) m2).bind fun ys m2 => .ok (acc ++ ys) m2).noex = ((loopL (yb.2.ok yb.1) (turnM Z.T C ow1 tg1 x s1) (yb.1.drop 0) m3).bind fun zs m2 => (loopA (xb.2.ok xb.1) f (xb.1.drop (i + 1)) m2).bind fun us m3 => .ok (acc ++ zs ++ us) m3).noex := by
                rw [List.drop_zero]
                cases loopL (yb.2.ok yb.1) (turnM Z.T C ow1 tg1 x s1) yb.1 m3 with
                | bad => rfl
                | exc _ _ _ => rfl
                | ok zs m4 =>
                  rw [R.bind_ok, R.bind_ok]
                  cases loopA (xb.2.ok xb.1) f (xb.1.drop (i + 1)) m4 with
                  | bad => rfl
                  | exc _ _ _ => rfl
                  | ok us m5 => simp
              rw [e3] at o
              exact o
            · rintro j n Hd ⟨rfl, hjl, c5, mu5, acc5, accv5, l5, S9, hpc5, rA5, g5, hal5, o5⟩
              have hos5 : c5.os = c4.os := l5.o
              by_cases hck1 : yb.2.ok yb.1 mu5
              rotate_left
              · exfalso
                have e9 : loopL (yb.2.ok yb.1) (turnM Z.T C ow1 tg1 x s1) (yb.1.drop j) mu5 = .bad := by
                  cases yb.1.drop j <;> (rw [loopL, if_neg hck1])
                rw [e9] at o5
                exact o5
              by_cases hlt1 : j < yb.1.length
              · refine .inr ⟨jok1.go j c5 _ _ _ _ ⟨l5.g, l5.a⟩ (kq c5 mu5 hos5 hck1) S9 hlt1, InW Z W (yb.2.ok yb.1) (turnM Z.T C ow1 tg1 x s1) (loopA (xb.2.ok xb.1) f (xb.1.drop (i + 1))) ow1 s1 s σ3 σ p yb.1 c' (c4.un c') Q i (j + 1) (yb.1.length - (j + 1)), fun H' w => ⟨_, by omega, w⟩, fun v1 H5 y1 => ?_⟩
                have S10 := S9.gd hpc5 g5.1 g5.2.2
                obtain ⟨c6, d1, l6, S11, ed1, rd1⟩ := jok1.yld j (c5.gd p (.lst accv5)) _ _ _ _ v1 H5 ⟨l5.g, l5.a⟩ (kq _ mu5 hos5 hck1) S10 y1 hlt1
                have edr1 : yb.1.drop j = d1 :: yb.1.drop (j + 1) := by
                  rw [List.drop_eq_getElem_cons hlt1]
                  rw [List.getElem?_eq_getElem hlt1] at ed1
                  cases ed1; rfl
                rw [edr1, loopL, if_pos hck1] at o5
                cases w3 : setT tg1 d1 (wipeS s1 ow1) with
                | none =>
                  have e4 : turnM Z.T C ow1 tg1 x s1 d1 mu5 = .bad := by unfold turnM; rw [w3]
                  rw [e4] at o5
                  exact o5.elim
                | some s2 =>
                  have e4 : turnM Z.T C ow1 tg1 x s1 d1 mu5 = ((ev Z.T C x s2 mu5).bind fun z m5 => if z.isBor then .bad else .ok (some z) m5) := by unfold turnM; rw [w3]
                  rw [e4] at o5
                  refine ⟨c6, wipeS s1 ow1, mu5, d1, s2, S11, rd1, w3, fun c7 σ7 l7 a7 o7 S12 => ?_⟩
                  obtain ⟨f4, f5, f6⟩ := setT_facts w3
                  rw [wipeS_len] at f4
                  have hin1 : ∀ j, j ∉ ow1 → j ∉ tgIx tg1 := fun j hj z => hj (by
                    rw [List.all_eq_true] at hown1
                    have := hown1 j z
                    simpa using this)
                  have hos6 : c6.os = c5.os := l6.o
                  have fin : ∀ {c8 : Cfg} {m8 : Mu} {H8 : Hp}, c7.le c8 → Sim Z.toZt c8 s2 m8 σ7 H8 → (c5.le (c8.un c5) ∧ L2.wipe σ7 ow1 = L2.wipe σ3 ow1 ∧ Sim Z.toZt (c8.un c5) (wipeS s1 ow1) m8 (L2.wipe σ3 ow1) H8 ∧ H8 p = some (.lst accv5) ∧ c8.G p = none ∧ ¬ Trk c8 p ∧ Rps Z.toZt c8.G c8.as acc5 accv5) := fun {c8 m8 H8} l8 S13 => by
                    obtain ⟨b1, b2, S14⟩ := Sim.back S9 (fun j hj => (free_get hfree1 hj).1) S13 (fun j hj => by
                      obtain ⟨u1, u2⟩ := o7 j (hin1 j hj)
                      exact ⟨u1, by rw [l8.o, u2, hos6]⟩) f4 (fun j hj => f5 j (hin1 j hj)) f6
                    have hF : c8.F = (c5.gd p (.lst accv5)).F := by rw [l8.f, l7.f, l6.f]
                    obtain ⟨S15, k1, k2, k3⟩ := S14.ungd (p := p) (o := .lst accv5) g5.2.1 hF
                    have gg : Ex c5.G c8.G := (show Ex c5.G c6.G from l6.g).trans (l7.g.trans l8.g)
                    have aa : c5.as <+: c8.as := (show c5.as <+: c6.as from l6.a).trans (l7.a.trans l8.a)
                    exact ⟨⟨gg, rfl, aa, b1⟩, b2, S15, k1, k2, k3, rA5.mono gg aa⟩
                  refine ⟨(fin Cfg.le.rfl' S12).2.1, c7, s2, mu5, S12, ?_⟩
                  rw [evc_nilE]
                  intro c7' b7 H7 l7' S12' hb7
                  have hb7 : b7 = true := hb7
                  subst hb7
                  rw [if_pos rfl]
                  refine ⟨c7', s2, mu5, S12', ?_⟩
                  cases w4 : ev Z.T C x s2 mu5 with
                  | bad => rw [w4] at o5; exact o5.elim
                  | exc x1 p1 m4 => rw [w4] at o5; exact o5.elim
                  | ok yy m4 =>
                    rw [w4, R.bind_ok] at o5
                    intro c8 vy H8 l8 S13 ry
                    obtain ⟨k1, k1b, k2, k3, k4, k5, k6⟩ := fin (l7'.trans l8) S13
                    by_cases hbo : yy.isBor = true
                    · rw [if_pos hbo] at o5; exact o5.elim
                    · rw [if_neg hbo, R.bind_ok] at o5
                      have ry' : Rp Z.toZt c8.G c8.as yy vy := Rep.rp ry (by simpa using hbo)
                      have ll : accv5.length < 100000 := by
                        rw [← rA5.length]
                        omega
                      refine ⟨accv5, k3, Nat.lt_of_lt_of_le ll line_lim, rfl, hlt1, c8.un c5, m4, acc5 ++ [yy], accv5 ++ [vy], l5.trans k1, k2.poke k4 g5.2.1 k5, upd_same, k6.append (.cons ry' .nil), ⟨k4, g5.2.1, k5⟩, by rw [List.length_append]; simp; omega, ?_⟩
                      have e5 : (((loopL (yb.2.ok yb.1) (turnM Z.T C ow1 tg1 x s1) (yb.1.drop (j + 1)) m4).bind fun ys m2 => .ok ((some yy).toList ++ ys) m2).bind fun zs m2 => (loopA (xb.2.ok xb.1) f (xb.1.drop (i + 1)) m2).bind fun us m3 => .ok (acc5 ++ zs ++ us) m3).noex = ((loopL (yb.2.ok yb.1) (turnM Z.T C ow1 tg1 x s1) (yb.1.drop (j + 1)) m4).bind fun zs m2 => (loopA (xb.2.ok xb.1) f (xb.1.drop (i + 1)) m2).bind fun us m3 => .ok (acc5 ++ [yy] ++ zs ++ us) m3).noex := by
                        cases loopL (yb.2.ok yb.1) (turnM Z.T C ow1 tg1 x s1) (yb.1.drop (j + 1)) m4 with
                        | bad => rfl
                        | exc _ _ _ => rfl
                        | ok zs m5 =>
                          rw [R.bind_ok, R.bind_ok, R.bind_ok]
                          cases loopA (xb.2.ok xb.1) f (xb.1.drop (i + 1)) m5 with
                          | bad => rfl
                          | exc _ _ _ => rfl
                          | ok us m6 => simp
                      rw [e5] at o5
                      exact o5
              · have hge : yb.1.length ≤ j := by omega
                have S10 := S8.unwipe S9 l5 hfree1
                obtain ⟨b1, b2, S11⟩ := Sim.back S3 (fun j hj => (free_get hfree hj).1) S10 (fun j hj => by
                  obtain ⟨u1, u2⟩ := o3 j (hin j hj)
                  exact ⟨u1, by rw [hos5, l4.o, l3'.o, u2, hos]⟩) f1 (fun j hj => f2 j (hin j hj)) f3
                have lc : c'.le c5 := ⟨gg.trans l5.g, l5.f, aa.trans l5.a, b1⟩
                refine .inl ⟨jok1.stop j c5 _ _ _ _ ⟨l5.g, l5.a⟩ (kq c5 mu5 hos5 hck1) S9 hge, rfl, hlt, c5, mu5, acc5, accv5, l'.trans lc, S11, hpc5, rA5, g5, by omega, ?_⟩
                rw [List.drop_eq_nil_of_le hge, loopL, if_pos hck1, R.bind_ok, List.append_nil] at o5
                exact o5.mono lc
      · have hge : xb.1.length ≤ i := by omega
        refine .inl ⟨jok.stop i c' _ _ _ _ ⟨l'.g, l'.a⟩ (kp c' mu l'.o hck) S3 hge, ?_⟩
        rw [List.drop_eq_nil_of_le hge, loopA, if_pos hck, R.bind_ok, List.append_nil] at o
        have o : Out Z W (RelF Z) c' s σ (.ok acc mu) Q := o
        exact o.done (S2.unwipe S3 l' hfree) ⟨p, accv, rfl, hpc, rA, g.1, g.2.1, g.2.2⟩
  · exact q2.elim
theorem case_lc2 {own ow1 : List Nat} {tg tg1 : Tg} {it it1 : It} {x : IE} (hi : SI Z C k it) (hi1 : SI Z C k it1) (hx : SE Z C k x) : SF Z C k (.lc2 own tg it ow1 tg1 it1 x) := by
  intro N X sc W c e h
  unfold chkF at h
  split at h
  · rename_i elt t iter ifs t1 iter1 ifs1 scope pos
    simp only [Bool.and_eq_true, List.isEmpty_iff] at h
    obtain ⟨⟨hb, ⟨ht, hns⟩, hit, hown⟩, ⟨⟨hI, rfl⟩, ⟨ht1, hns1⟩, ⟨hit1, hown1⟩, hsub⟩, ⟨hI1, rfl⟩, hxx⟩ := h
    have eo : (own.map fun i => (N.getD i Str.empty, i)).map (·.2) = own := by
      rw [List.map_map]
      exact (List.map_congr_left fun a _ => rfl).trans (List.map_id _)
    refine PE.of (pe_lc2 (own := own.map fun i => (N.getD i Str.empty, i)) (vs1 := ow1) c.calm (by rw [c.eN]; exact c.nd) (hi c t iter hI hit) (by rw [c.eN, c.esc]; exact blkOk_by hb) (by
        rw [eo]
        intro i hi
        rw [List.all_eq_true] at hsub
        simpa using hsub i hi)
      (fun sh H a cl fp => sndT (X := X.blk sh H scope (compEnvC scope cl a X.env) fp) c.eN c.nd c.calm c.eK (bnd_blk sh H a cl fp) tg t ht)
      (fun sh H a cl fp => sts_nil (c.blk sh H a cl fp) [] (by unfold chkEs; rfl) (Nat.zero_le _))
      (fun sh H a cl fp => hi1 (c.blk sh H a cl fp) t1 iter1 hI1 hit1)
      (fun sh H a cl fp => sndT (X := X.blk sh H scope (compEnvC scope cl a X.env) fp) c.eN c.nd c.calm c.eK (bnd_blk sh H a cl fp) tg1 t1 ht1)
      (fun sh H a cl fp => sts_nil (c.blk sh H a cl fp) [] (by unfold chkEs; rfl) (Nat.zero_le _))
      (fun sh H a cl fp => (hx (c.blk sh H a cl fp) elt hxx).1) (by intro v; cases iter <;> first | rfl | cases hns) (by intro en v; cases iter1 <;> first | rfl | cases hns1)) fun σ H Q q => by rw [eo]; exact lc2_imp hown hown1 hsub q
  · cases h
end
end Pm
end
end
section
set_option Elab.async false
set_option linter.all false
set_option maxRecDepth 100000
set_option maxHeartbeats 4000000
/-! Pm19: == of data, own == within. -/
noncomputable section
namespace GQB
open PySem PySem.SeqAt
open AutoSeq1 (wpAny_loadPart')
open MeetsSeq MeetsSeq2 MeetsSeq3 SeqRoads2
section
variable {prog : Program} {w : World} {A : Around} {R : Result → Shared → Prop}
/-- at each turn the two lists are read anew -/
def ListB (prog : Program) (w : World) (A : Around) (E : Value → Shared → Prop) (l b : Addr) (N : Nat) (bs : Nat → Bool) (I : Shared → Prop) : Prop :=
  ∀ s, I s → ∃ (items items2 : Array Value) (n n2 : Nat) (dd dd2 : Option Addr) (sl sl2 : Array (Option Value)), s.heap.get? l = some { cls := .type "list", dict := dd, data := .seq items n, slots := sl } ∧ s.heap.get? b = some { cls := .type "list", dict := dd2, data := .seq items2 n2, slots := sl2 } ∧ items.size = N ∧ items2.size = N ∧
    ∀ (i : Nat) (h1 : i < items.size) (h2 : i < items2.size), (∀ j, j < i → bs j = true) → wpAny (model prog w) A.in1 (eqBool items[i] items2[i]) (fun r s' => r = bs i ∧ I s') E s
theorem eq_loopB (l b : Addr) (N : Nat) (bs : Nat → Bool) (I : Shared → Prop) (hl : ListB prog w A (fun e s' => R (.error e) s') l b N bs I)
    (fin : ∀ s, I s → R (.ok (.ret (.bool ((List.range N).all bs)))) s) (k : Nat) :
    ∀ i : Nat, N - i = k → i ≤ N → (∀ j, j < i → bs j = true) → ∀ s, I s →
      wpAny (model prog w) A.in1 (Builtin.«list.__eq__.loop» ⟨[.ref l, .ref b, rawInt i, rawInt 2], []⟩) (GQ.FinOf prog w A R) (fun e s' => R (.error e) s') s := by
  induction k with
  | zero =>
    intro i hk hi hbs s h
    obtain ⟨items, items2, n, n2, dd, dd2, sl, sl2, hl1, hb1, hs1, hs2, _⟩ := hl _ h
    have hi' : i = N := by omega
    have hR : R (.ok (.ret (.bool true))) s := by
      have := fin s h
      rwa [show (List.range N).all bs = true from List.all_eq_true.mpr fun j hj => hbs j (by rw [hi']; exact List.mem_range.mp hj)] at this
    obtain ⟨hp, g, d, tk, os⟩ := s
    wp_walk using wpAny_loadPart' hl1, wpAny_loadPart' hb1
    have hi1 : items[((i : Nat) : Int).toNat]? = none := by simp; omega
    have hi2 : items2[((i : Nat) : Int).toNat]? = none := by simp; omega
    rw [hi1, hi2]
    wp_walk using wpAny_loadPart' hl1, wpAny_loadPart' hb1
    show R (.ok (.ret (.bool (items.size == items2.size)))) _
    rw [hs1, hs2]
    simpa using hR
  | succ k ih =>
    intro i hk hi hbs s h
    obtain ⟨items, items2, n, n2, dd, dd2, sl, sl2, hl1, hb1, hs1, hs2, turn⟩ := hl _ h
    have hlt : i < items.size := by omega
    have hlt2 : i < items2.size := by omega
    have ht := turn i hlt hlt2 hbs
    obtain ⟨hp, g, d, tk, os⟩ := s
    wp_walk using wpAny_loadPart' hl1, wpAny_loadPart' hb1
    have hi1 : items[((i : Nat) : Int).toNat]? = some items[i] := by simp [hlt]
    have hi2 : items2[((i : Nat) : Int).toNat]? = some items2[i] := by simp [hlt2]
    have hc : ((i : Int) + 1) = ((i + 1 : Nat) : Int) := by omega
    rw [hi1, hi2]
    refine wpAny_bind (wpAny_mono ht (fun r s2 h2 => ?_) fun _ _ x => x)
    obtain ⟨hr, h2⟩ := h2
    cases hb : bs i with
    | true =>
      rw [hb] at hr
      subst hr
      have hrec := ih (i + 1) (by omega) (by omega) (fun j hj => by
        by_cases q : j = i
        · rw [q]; exact hb
        · exact hbs j (by omega)) s2 h2
      obtain ⟨hp2, g2, d2, tk2, os2⟩ := s2
      wp_walk
      rw [hc]
      exact ⟨plainId_quiet plain_eq_loop _, codeAny_builtin entry_eq_loop (by
        rw [Around.under_plainId plain_eq_loop _]
        exact hrec)⟩
    | false =>
      rw [hb] at hr
      subst hr
      obtain ⟨it3, it4, n3, n4, dd3, dd4, sl3, sl4, hl3, hb3, hs3, hs4, _⟩ := hl _ h2
      have hR : R (.ok (.ret (.bool false))) s2 := by
        have := fin s2 h2
        rwa [show (List.range N).all bs = false from by
          rw [List.all_eq_false]
          exact ⟨i, List.mem_range.mpr (by omega), by rw [hb]; simp⟩] at this
      have hlt3 : i < it3.size := by omega
      have hlt4 : i < it4.size := by omega
      have hi3 : it3[((i : Nat) : Int).toNat]? = some it3[i] := by simp [hlt3]
      have hi4 : it4[((i : Nat) : Int).toNat]? = some it4[i] := by simp [hlt4]
      obtain ⟨hp2, g2, d2, tk2, os2⟩ := s2
      wp_walk using wpAny_loadPart' hl3, wpAny_loadPart' hb3
      rw [hi3, hi4]
      wp_walk
      exact hR
theorem list_eqB (l b : Addr) (N : Nat) (bs : Nat → Bool) (I : Shared → Prop) (hl : ListB prog w A (fun e s' => R (.error e) s') l b N bs I)
    (fin : ∀ s, I s → R (.ok (.ret (.bool ((List.range N).all bs)))) s) {s : Shared} (h : I s) :
    wpAny (model prog w) A.in1 (Builtin.«list.__eq__» ⟨[.ref l, .ref b], []⟩) (GQ.FinOf prog w A R) (fun e s' => R (.error e) s') s := by
  obtain ⟨items, items2, n, n2, dd, dd2, sl, sl2, hl1, hb1, hs1, hs2, _⟩ := hl _ h
  have hrec := eq_loopB (A := A) (R := R) l b N bs I hl fin _ 0 rfl (Nat.zero_le _) (fun j hj => absurd hj (Nat.not_lt_zero _)) s h
  obtain ⟨hp, g, d, tk, os⟩ := s
  have f3 := AutoSeq1.sub_list_list
  have hne : ¬ (items.size != items2.size) = true := by simp [hs1, hs2]
  wp_walk using wpAny_loadPart' hl1, wpAny_loadPart' hb1
  exact ⟨plainId_quiet plain_eq_loop _, codeAny_builtin entry_eq_loop (by
    rw [Around.under_plainId plain_eq_loop _]
    exact hrec)⟩
/-- lists of different lengths -/
theorem list_neB (l b : Addr) {items items2 : Array Value} {n n2 : Nat} {dd dd2 : Option Addr} {sl sl2 : Array (Option Value)} {s : Shared} (hl1 : s.heap.get? l = some { cls := .type "list", dict := dd, data := .seq items n, slots := sl }) (hb1 : s.heap.get? b = some { cls := .type "list", dict := dd2, data := .seq items2 n2, slots := sl2 }) (hne : items.size ≠ items2.size)
    (fin : ∀ t, R (.ok (.ret (.bool false))) { s with toks := t }) :
    wpAny (model prog w) A.in1 (Builtin.«list.__eq__» ⟨[.ref l, .ref b], []⟩) (GQ.FinOf prog w A R) (fun e s' => R (.error e) s') s := by
  obtain ⟨hp, g, d, tk, os⟩ := s
  have f3 := AutoSeq1.sub_list_list
  have hne : (items.size != items2.size) = true := by simp [hne]
  wp_walk using wpAny_loadPart' hl1, wpAny_loadPart' hb1
  exact fin _
theorem tuple_eqB (l b : Addr) (items items2 : Array Value) (n n2 : Nat) (dd dd2 : Option Addr) (sl sl2 : Array (Option Value)) (bs : Nat → Bool) (I : Shared → Prop)
    (turn : ∀ i (h1 : i < items.size) (h2 : i < items2.size) s, (∀ j, j < i → bs j = true) → I s → wpAny (model prog w) A.in1 (eqBool items[i] items2[i]) (fun r s' => r = bs i ∧ I s') (fun e s' => R (.error e) s') s)
    (fin : ∀ s, I s → R (.ok (.ret (.bool ((List.range (min items.size items2.size)).all bs && decide (items.size = items2.size))))) s) {s : Shared} (hl1 : s.heap.get? l = some { cls := .type "tuple", dict := dd, data := .seq items n, slots := sl }) (hb1 : s.heap.get? b = some { cls := .type "tuple", dict := dd2, data := .seq items2 n2, slots := sl2 }) (h : I s) :
    wpAny (model prog w) A.in1 (Builtin.«tuple.__eq__» ⟨[.ref l, .ref b], []⟩) (GQ.FinOf prog w A R) (fun e s' => R (.error e) s') s := by
  have f2 := AutoSeq1.sub_tuple_tuple
  have hZ : (items.toList.zip items2.toList).length = min items.size items2.size := by simp
  have h0 := h
  obtain ⟨hp, g, d, tk, os⟩ := s
  wp_walk using wpAny_loadPart' hl1, wpAny_loadPart' hb1, wpAny_forIn_list _ (fun rest b s' => b.1 = none ∧ ∃ i, rest = (items.toList.zip items2.toList).drop i ∧ i ≤ min items.size items2.size ∧ (∀ j, j < i → bs j = true) ∧ I s') _
  case turn =>
    rintro ⟨y, x⟩ rest b s' ⟨hb', i, hz, hi, hbs, hI⟩
    have hlt : i < (items.toList.zip items2.toList).length := by
      rcases Nat.lt_or_ge i (items.toList.zip items2.toList).length with h' | h'
      · exact h'
      · rw [List.drop_of_length_le h'] at hz; cases hz
    have hm : i < min items.size items2.size := hZ ▸ hlt
    have h1 : i < items.size := by omega
    have h2 : i < items2.size := by omega
    rw [List.drop_eq_getElem_cons hlt] at hz
    injection hz with hyx hrest
    have hy : y = items[i] := by have := congrArg Prod.fst hyx; simpa using this
    have hx : x = items2[i] := by have := congrArg Prod.snd hyx; simpa using this
    subst hy hx
    refine wpAny_bind (wpAny_mono (turn i h1 h2 s' hbs hI) (fun r s2 q2 => ?_) fun _ _ x => x)
    obtain ⟨hr, q2⟩ := q2
    cases hb : bs i with
    | true =>
      rw [hb] at hr
      subst hr
      wp_walk
      exact ⟨rfl, i + 1, hrest, hm, fun j hj => by
        by_cases q : j = i
        · rw [q]; exact hb
        · exact hbs j (by omega), q2⟩
    | false =>
      rw [hb] at hr
      subst hr
      have hR : R (.ok (.ret (.bool false))) s2 := by
        have := fin s2 q2
        rwa [show (List.range (min items.size items2.size)).all bs = false from by
          rw [List.all_eq_false]
          exact ⟨i, List.mem_range.mpr hm, by rw [hb]; simp⟩, Bool.false_and] at this
      wp_walk
      exact hR
  case fin =>
    rintro ⟨b1, b2⟩ s' ⟨hb', i, hz, hi, hbs, hI⟩
    simp only at hb'
    subst hb'
    have hge : min items.size items2.size ≤ i := by
      rcases Nat.lt_or_ge i (items.toList.zip items2.toList).length with h' | h'
      · rw [List.drop_eq_getElem_cons h'] at hz; cases hz
      · exact hZ ▸ h'
    have hi' : i = min items.size items2.size := by omega
    have hR := fin s' hI
    rw [show (List.range (min items.size items2.size)).all bs = true from List.all_eq_true.mpr fun j hj => hbs j (by rw [hi']; exact List.mem_range.mp hj), Bool.true_and] at hR
    wp_walk
    have e : decide (items.size = items2.size) = (items.size == items2.size) := by by_cases q : items.size = items2.size <;> simp [q]
    rw [e] at hR
    exact hR
  case h =>
    exact ⟨rfl, 0, rfl, Nat.zero_le _, fun j hj => absurd hj (Nat.not_lt_zero _), h0⟩
end
section
variable {prog : Program} {w : World} {A : Around} {E : Value → Shared → Prop} {s : Shared}
theorem rc_listB {l b : Addr} {N : Nat} {bs : Nat → Bool} {Q : Value → Shared → Prop} (hu : A.units < cLine) (I : Shared → Prop) (hl : ListB prog w A E l b N bs I)
    (fin : ∀ s, I s → Q (.bool ((List.range N).all bs)) s) (h : I s) : wpAny (model prog w) A (richCompare .Eq (.ref l) (.ref b)) Q E s := by
  obtain ⟨items, items2, n, n2, dd, dd2, sl, sl2, hl1, hb1, _, _, _⟩ := hl _ h
  refine wpAny_richCompare_same_room (op := .Eq) ⟨_, hl1, rfl⟩ ⟨_, hb1, rfl⟩ F.slot_list_eq (GQ.call_here F.slot_list_eq ⟨_, hl1, rfl⟩ F.entry_list_eq (F.args_list_eq_2 _ _) ?_) hu
  exact list_eqB (R := wants (fun v s' => v ≠ .notImplemented ∧ Q v s') E) l b N bs I hl (fun s' q => ⟨(fun x => nomatch x), fin s' q⟩) h
theorem rc_listN {l b : Addr} {items items2 : Array Value} {n n2 : Nat} {dd dd2 : Option Addr} {sl sl2 : Array (Option Value)} {Q : Value → Shared → Prop} (hu : A.units < cLine) (hl1 : s.heap.get? l = some { cls := .type "list", dict := dd, data := .seq items n, slots := sl }) (hb1 : s.heap.get? b = some { cls := .type "list", dict := dd2, data := .seq items2 n2, slots := sl2 }) (hne : items.size ≠ items2.size)
    (fin : ∀ t, Q (.bool false) { s with toks := t }) : wpAny (model prog w) A (richCompare .Eq (.ref l) (.ref b)) Q E s := by
  refine wpAny_richCompare_same_room (op := .Eq) ⟨_, hl1, rfl⟩ ⟨_, hb1, rfl⟩ F.slot_list_eq (GQ.call_here F.slot_list_eq ⟨_, hl1, rfl⟩ F.entry_list_eq (F.args_list_eq_2 _ _) ?_) hu
  exact list_neB (R := wants (fun v s' => v ≠ .notImplemented ∧ Q v s') E) l b hl1 hb1 hne (fun t => ⟨(fun x => nomatch x), fin t⟩)
theorem rc_tupB {l b : Addr} {items items2 : Array Value} {bs : Nat → Bool} {Q : Value → Shared → Prop} (hu : A.units < cLine) (I : Shared → Prop)
    (hl : s.heap.IsTuple l items) (hb : s.heap.IsTuple b items2)
    (turn : ∀ i (h1 : i < items.size) (h2 : i < items2.size) s, (∀ j, j < i → bs j = true) → I s → wpAny (model prog w) A.in1 (eqBool items[i] items2[i]) (fun r s' => r = bs i ∧ I s') E s)
    (fin : ∀ s, I s → Q (.bool ((List.range (min items.size items2.size)).all bs && decide (items.size = items2.size))) s) (h : I s) : wpAny (model prog w) A (richCompare .Eq (.ref l) (.ref b)) Q E s := by
  obtain ⟨⟨cls, dd, data, sl⟩, ho, hc, n, hd⟩ := id hl
  obtain ⟨⟨cls2, dd2, data2, sl2⟩, ho2, hc2, n2, hd2⟩ := id hb
  simp only at hc hd hc2 hd2
  subst hc hd hc2 hd2
  refine wpAny_richCompare_same_room (op := .Eq) ⟨_, ho, rfl⟩ ⟨_, ho2, rfl⟩ F.slot_tuple_eq (GQ.call_here F.slot_tuple_eq ⟨_, ho, rfl⟩ F.entry_tuple_eq (F.args_tuple_eq_2 _ _) ?_) hu
  exact tuple_eqB (R := wants (fun v s' => v ≠ .notImplemented ∧ Q v s') E) l b items items2 n n2 dd dd2 sl sl2 bs I turn (fun s' q => ⟨(fun x => nomatch x), fin s' q⟩) ho ho2 h
end
end GQB
end
end
section
set_option Elab.async false
set_option linter.all false
set_option maxRecDepth 100000
set_option maxHeartbeats 4000000
/-! Pm20: ==, != and in: the promise. -/
noncomputable section
namespace Pm
open PySem PySem.Spec L2
section
variable {Z : Zt} {G H : Hp} {as : List Addr}
mutual
theorem dp_of (e : Ex G H) : ∀ {d : D} {v : V}, flt d = true → Rp Z G as d v → Dp Z.K H v (pd d)
  | .non, v, h, r => by unfold Rp at r; subst r; exact .non
  | .int i, v, h, r => by unfold Rp at r; subst r; exact .int i
  | .str x, v, h, r => by unfold Rp at r; subst r; exact .str x
  | .tup xs, v, h, r => by
    unfold flt at h
    unfold Rp at r
    obtain ⟨a, vs, rfl, h1, h2⟩ := r
    exact .tup (e.sqT h1.1) (dps_of e h h2)
  | .lst xs, v, h, r => by
    unfold flt at h
    unfold Rp at r
    obtain ⟨a, vs, rfl, h1, h2⟩ := r
    exact .lst (SqL.of (e _ _ h1)) (dps_of e h h2)
  | .bl _, _, h, _ => by cases h
  | .obj _ _, _, h, _ => by cases h
  | .ref _, _, h, _ => by cases h
  | .bor _, _, h, _ => by cases h
  | .scr _, _, h, _ => by cases h
theorem dps_of (e : Ex G H) : ∀ {ds : List D} {vs : List V}, flts ds = true → Rps Z G as ds vs → DpAll Z.K H vs (pds ds)
  | [], _, _, r => by rw [r.nil_inv]; exact .nil
  | x :: xs, _, h, r => by
    unfold flts at h
    rw [Bool.and_eq_true] at h
    obtain ⟨v, t, rfl, h1, h2⟩ := r.cons_inv
    exact .cons (dp_of e h.1 h1) (dps_of e h.2 h2)
end
end
mutual
theorem pd_lay : ∀ {d : D}, flt d = true → (pd d).canLay0 = true
  | .non, _ => by simp [pd, PyData.canLay0]
  | .int i, _ => by simp [pd, PyData.canLay0]
  | .str x, h => by unfold flt at h; simp [pd, PyData.canLay0, h]
  | .tup xs, h => by unfold flt at h; simp [pd, PyData.canLay0, pds_lay h]
  | .lst xs, h => by unfold flt at h; simp [pd, PyData.canLay0, pds_lay h]
  | .bl _, h => by cases h
  | .obj _ _, h => by cases h
  | .ref _, h => by cases h
  | .bor _, h => by cases h
  | .scr _, h => by cases h
theorem pds_lay : ∀ {ds : List D}, flts ds = true → PyData.canLayAll0 (pds ds) = true
  | [], _ => by simp [pds, PyData.canLayAll0]
  | x :: xs, h => by
    unfold flts at h
    rw [Bool.and_eq_true] at h
    simp [pds, PyData.canLayAll0, pd_lay h.1, pds_lay h.2]
end
mutual
theorem pd_dep : ∀ {d : D}, (pd d).depth = dep d
  | .non => by simp [pd, PyData.depth, dep]
  | .int i => by simp [pd, PyData.depth, dep]
  | .str x => by simp [pd, PyData.depth, dep]
  | .tup xs => by
    unfold pd PyData.depth dep
    rw [pds_dep]; omega
  | .lst xs => by
    unfold pd PyData.depth dep
    rw [pds_dep]; omega
  | .bl _ => by simp [pd, PyData.depth, dep]
  | .obj _ _ => by simp [pd, PyData.depth, dep]
  | .ref _ => by simp [pd, PyData.depth, dep]
  | .bor _ => by simp [pd, PyData.depth, dep]
  | .scr _ => by simp [pd, PyData.depth, dep]
theorem pds_dep : ∀ {ds : List D}, PyData.depthAll (pds ds) = deps ds
  | [] => by simp [pds, PyData.depthAll, deps]
  | x :: xs => by
    unfold pds PyData.depthAll deps
    rw [pd_dep, pds_dep]
end
mutual
theorem pd_eqv : ∀ {x y : D}, flt x = true → flt y = true → (PyData.eqv (pd x) (pd y) = true ↔ x = y)
  | .non, y, _, h => by cases y <;> first | (cases h; done) | simp [pd, PyData.eqv]
  | .int i, y, _, h => by cases y <;> first | (cases h; done) | simp [pd, PyData.eqv]
  | .str i, y, _, h => by cases y <;> first | (cases h; done) | simp [pd, PyData.eqv]
  | .tup xs, y, h', h => by
    cases y <;> first | (cases h; done) | skip
    case tup ys =>
      unfold flt at h h'
      have := pds_eqv h' h
      simp [pd, PyData.eqv, this]
    all_goals simp [pd, PyData.eqv]
  | .lst xs, y, h', h => by
    cases y <;> first | (cases h; done) | skip
    case lst ys =>
      unfold flt at h h'
      have := pds_eqv h' h
      simp [pd, PyData.eqv, this]
    all_goals simp [pd, PyData.eqv]
  | .bl _, _, h, _ => by cases h
  | .obj _ _, _, h, _ => by cases h
  | .ref _, _, h, _ => by cases h
  | .bor _, _, h, _ => by cases h
  | .scr _, _, h, _ => by cases h
theorem pds_eqv : ∀ {xs ys : List D}, flts xs = true → flts ys = true → (PyData.eqvAll (pds xs) (pds ys) = true ↔ xs = ys)
  | [], [], _, _ => by simp [pds, PyData.eqvAll]
  | [], y :: ys, _, _ => by simp [pds, PyData.eqvAll]
  | x :: xs, [], _, _ => by simp [pds, PyData.eqvAll]
  | x :: xs, y :: ys, h', h => by
    unfold flts at h h'
    rw [Bool.and_eq_true] at h h'
    have e1 := pd_eqv h'.1 h.1
    have e2 := pds_eqv h'.2 h.2
    simp [pds, PyData.eqvAll, e1, e2]
end
theorem eqv_eqd {x y : D} (hx : flt x = true) (hy : flt y = true) : PyData.eqv (pd x) (pd y) = eqd x y := by
  rw [Bool.eq_iff_iff, pd_eqv hx hy, eqd_iff]
theorem flp_shaped {x : D} (h : flp x = true) : SeqAt.shaped (pd x) = true := by
  unfold flp at h
  simp only [Bool.and_eq_true, decide_eq_true_eq] at h
  unfold SeqAt.shaped
  rw [pd_lay h.1, pd_dep, Bool.true_and, decide_eq_true_eq]
  omega
theorem flp_flt {x : D} (h : flp x = true) : flt x = true := by
  unfold flp at h
  rw [Bool.and_eq_true] at h
  exact h.1
mutual
theorem plk_flt {T : Tab} : ∀ {d : D}, flt d = true → plk T d = true
  | .non, _ => rfl
  | .int i, _ => rfl
  | .str x, _ => rfl
  | .tup xs, h => by unfold flt at h; unfold plk; exact plks_flt h
  | .lst xs, h => by unfold flt at h; unfold plk; exact plks_flt h
  | .bl _, h => by cases h
  | .obj _ _, h => by cases h
  | .ref _, h => by cases h
  | .bor _, h => by cases h
  | .scr _, h => by cases h
theorem plks_flt {T : Tab} : ∀ {ds : List D}, flts ds = true → plks T ds = true
  | [], _ => rfl
  | x :: xs, h => by
    unfold flts at h
    rw [Bool.and_eq_true] at h
    unfold plks
    rw [plk_flt h.1, plks_flt h.2]; rfl
end
section
variable {Z : Ze} {C : CF} {k : Nat} {N : List Str} {X : Cx} {sc : Scope} {W : WX}
variable {pins : List (Addr × Obj)} {σ τ : L2.St} {H : Hp} {sh : Shared} {cf : Cfg} {s : List S} {m : Mu}
theorem zip_inj {ns : List Str} : ∀ {vs us : List V}, ns.length = vs.length → ns.length = us.length → ns.zip vs = ns.zip us → vs = us := by
  induction ns with
  | nil => intro vs us h1 h2 _; rw [List.length_nil] at h1 h2; rw [List.eq_nil_of_length_eq_zero h1.symm, List.eq_nil_of_length_eq_zero h2.symm]
  | cons n ns ih =>
    intro vs us h1 h2 e
    cases vs with
    | nil => cases h1
    | cons v vs =>
      cases us with
      | nil => cases h2
      | cons u us =>
        rw [List.zip_cons_cons, List.zip_cons_cons] at e
        injection e with e1 e2
        injection e1 with _ e3
        rw [e3, ih (by simpa using h1) (by simpa using h2) e2]
/-- how an object is told by its class -/
theorem at_tup (c : Cok Z C k N X sc W) (I : Inv X pins σ H sh) (S1 : Sim Z.toZt cf s m τ H) {a : Addr} {vs : List V} (h : SqT Z.K cf.G a vs) : ∃ o, sh.heap.get? a = some o ∧ o.cls = .type "tuple" := by
  obtain ⟨its, _, ⟨o, e, hc, _⟩, _⟩ := I.tuple (by rw [c.eK]; exact S1.exG.sqT h)
  exact ⟨o, e, hc⟩
theorem at_lst (c : Cok Z C k N X sc W) (I : Inv X pins σ H sh) (S1 : Sim Z.toZt cf s m τ H) {a : Addr} {vs : List V} (h : cf.G a = some (.lst vs)) : ∃ o, sh.heap.get? a = some o ∧ o.cls = .type "list" := by
  obtain ⟨its, _, ⟨o, n, e, hc, _⟩, _⟩ := I.list (SqL.of (S1.exG _ _ h))
  exact ⟨o, e, hc⟩
theorem at_obj (I : Inv X pins σ H sh) (S1 : Sim Z.toZt cf s m τ H) {a b dx : Addr} {vs : List (Str × V)} (h : cf.G a = some (.ins b dx vs)) : ∃ o, sh.heap.get? a = some o ∧ o.cls = .ref b := by
  obtain ⟨mA, J, _⟩ := ins_get I.hok (S1.exG _ _ h)
  obtain ⟨od, J, _⟩ := J.look
  exact ⟨_, J.at_, J.cls⟩
mutual
theorem rp_det (c : Cok Z C k N X sc W) (I : Inv X pins σ H sh) (S1 : Sim Z.toZt cf s m τ H) : ∀ {x y : D} {v : V}, plk Z.T x = true → plk Z.T y = true → Rp Z.toZt cf.G cf.as x v → Rp Z.toZt cf.G cf.as y v → x = y
  | .non, y, v, _, hy, r, r' => by
    unfold Rp at r
    subst r
    cases y <;> first | (cases hy; done) | rfl | (unfold Rp at r'; first | (cases r'; done) | (obtain ⟨_, _, e, _⟩ := r'; cases e; done) | (obtain ⟨_, _, _, e, _⟩ := r'; cases e; done))
  | .int i, y, v, _, hy, r, r' => by
    unfold Rp at r
    subst r
    cases y <;> first | (cases hy; done) | (unfold Rp at r'; first | (cases r'; rfl) | (cases r'; done) | (obtain ⟨_, _, e, _⟩ := r'; cases e; done) | (obtain ⟨_, _, _, e, _⟩ := r'; cases e; done))
  | .str i, y, v, _, hy, r, r' => by
    unfold Rp at r
    subst r
    cases y <;> first | (cases hy; done) | (unfold Rp at r'; first | (cases r'; rfl) | (cases r'; done) | (obtain ⟨_, _, e, _⟩ := r'; cases e; done) | (obtain ⟨_, _, _, e, _⟩ := r'; cases e; done))
  | .tup xs, y, v, hx, hy, r, r' => by
    unfold Rp at r
    obtain ⟨a, vs, rfl, h1, h2⟩ := r
    obtain ⟨o, e1, e2⟩ := at_tup c I S1 h1.1
    cases y with
    | tup ys =>
      unfold Rp at r'
      obtain ⟨b, us, e, k1, k2⟩ := r'
      cases e
      have e3 := I.tuple_inj (by rw [c.eK]; exact S1.exG.sqT h1.1) (by rw [c.eK]; exact S1.exG.sqT k1.1)
      subst e3
      unfold plk at hx hy
      rw [rps_det c I S1 hx hy h2 k2]
    | lst ys =>
      unfold Rp at r'
      obtain ⟨b, us, e, k1, k2⟩ := r'
      cases e
      obtain ⟨o', e1', e2'⟩ := at_lst c I S1 k1
      rw [e1] at e1'; cases e1'; rw [e2] at e2'; injection e2' with q; exact absurd q (by decide)
    | obj cl ys =>
      unfold Rp at r'
      obtain ⟨b, dx, us, e, k1, _⟩ := r'
      cases e
      obtain ⟨o', e1', e2'⟩ := at_obj I S1 k1
      rw [e1] at e1'; cases e1'; rw [e2] at e2'; cases e2'
    | _ => first | (cases hy; done) | (unfold Rp at r'; cases r'; done)
  | .lst xs, y, v, hx, hy, r, r' => by
    unfold Rp at r
    obtain ⟨a, vs, rfl, h1, h2⟩ := r
    obtain ⟨o, e1, e2⟩ := at_lst c I S1 h1
    cases y with
    | lst ys =>
      unfold Rp at r'
      obtain ⟨b, us, e, k1, k2⟩ := r'
      cases e
      rw [h1] at k1
      cases k1
      unfold plk at hx hy
      rw [rps_det c I S1 hx hy h2 k2]
    | tup ys =>
      unfold Rp at r'
      obtain ⟨b, us, e, k1, k2⟩ := r'
      cases e
      obtain ⟨o', e1', e2'⟩ := at_tup c I S1 k1.1
      rw [e1] at e1'; cases e1'; rw [e2] at e2'; injection e2' with q; exact absurd q (by decide)
    | obj cl ys =>
      unfold Rp at r'
      obtain ⟨b, dx, us, e, k1, _⟩ := r'
      cases e
      obtain ⟨o', e1', e2'⟩ := at_obj I S1 k1
      rw [e1] at e1'; cases e1'; rw [e2] at e2'; cases e2'
    | _ => first | (cases hy; done) | (unfold Rp at r'; cases r'; done)
  | .obj cl xs, y, v, hx, hy, r, r' => by
    unfold Rp at r
    obtain ⟨a, dx, vs, rfl, h1, hl, h2⟩ := r
    obtain ⟨o, e1, e2⟩ := at_obj I S1 h1
    cases y with
    | obj cl' ys =>
      unfold Rp at r'
      obtain ⟨b, dx', us, e, k1, kl, k2⟩ := r'
      cases e
      unfold plk at hx hy
      rw [Bool.and_eq_true] at hx hy
      rw [h1] at k1
      injection k1 with k1
      injection k1 with q1 q2 q3
      have e3 := c.txt.cinj _ _ hx.1 hy.1 q1
      subst e3
      have l1 : ((Z.T.fld cl).map Z.fnm).length = vs.length := by rw [List.length_map, hl, h2.length]
      have l2 : ((Z.T.fld cl).map Z.fnm).length = us.length := by rw [List.length_map, kl, k2.length]
      have e4 := zip_inj l1 l2 q3
      subst e4
      rw [rps_det c I S1 hx.2 hy.2 h2 k2]
    | tup ys =>
      unfold Rp at r'
      obtain ⟨b, us, e, k1, k2⟩ := r'
      cases e
      obtain ⟨o', e1', e2'⟩ := at_tup c I S1 k1.1
      rw [e1] at e1'; cases e1'; rw [e2] at e2'; cases e2'
    | lst ys =>
      unfold Rp at r'
      obtain ⟨b, us, e, k1, k2⟩ := r'
      cases e
      obtain ⟨o', e1', e2'⟩ := at_lst c I S1 k1
      rw [e1] at e1'; cases e1'; rw [e2] at e2'; cases e2'
    | _ => first | (cases hy; done) | (unfold Rp at r'; cases r'; done)
  | .bl _, _, _, h, _, _, _ => by cases h
  | .ref _, _, _, h, _, _, _ => by cases h
  | .bor _, _, _, h, _, _, _ => by cases h
  | .scr _, _, _, h, _, _, _ => by cases h
theorem rps_det (c : Cok Z C k N X sc W) (I : Inv X pins σ H sh) (S1 : Sim Z.toZt cf s m τ H) : ∀ {xs ys : List D} {vs : List V}, plks Z.T xs = true → plks Z.T ys = true → Rps Z.toZt cf.G cf.as xs vs → Rps Z.toZt cf.G cf.as ys vs → xs = ys
  | [], ys, vs, _, _, r, r' => by
    have e := r.nil_inv
    subst e
    cases ys with
    | nil => rfl
    | cons y ys => obtain ⟨_, _, e, _⟩ := r'.cons_inv; cases e
  | x :: xs, ys, vs, hx, hy, r, r' => by
    obtain ⟨v, t, rfl, h1, h2⟩ := r.cons_inv
    cases ys with
    | nil => cases r'.nil_inv
    | cons y ys =>
      obtain ⟨u, t', e, k1, k2⟩ := r'.cons_inv
      cases e
      unfold plks at hx hy
      rw [Bool.and_eq_true] at hx hy
      rw [rp_det c I S1 hx.1 hy.1 h1 k1, rps_det c I S1 hx.2 hy.2 h2 k2]
end
mutual
/-- one object that is asked for == with itself -/
theorem eqc_det (c : Cok Z C k N X sc W) (I : Inv X pins σ H sh) (S1 : Sim Z.toZt cf s m τ H) : ∀ {x y : D} {v : V}, eqc Z.T C m x y → Rp Z.toZt cf.G cf.as x v → Rp Z.toZt cf.G cf.as y v → x = y
  | .tup xs, y, v, h, r, r' => by
    cases y with
    | tup ys =>
      unfold eqc at h
      unfold Rp at r r'
      obtain ⟨a, vs, rfl, h1, h2⟩ := r
      obtain ⟨b, us, e, k1, k2⟩ := r'
      cases e
      have e3 := I.tuple_inj (by rw [c.eK]; exact S1.exG.sqT h1.1) (by rw [c.eK]; exact S1.exG.sqT k1.1)
      subst e3
      rw [eqcs_det c I S1 h h2 k2]
    | _ => unfold eqc at h; exact rp_det c I S1 (plk_flt h.1) (plk_flt h.2.1) r r'
  | .lst xs, y, v, h, r, r' => by
    cases y with
    | lst ys =>
      unfold eqc at h
      unfold Rp at r r'
      obtain ⟨a, vs, rfl, h1, h2⟩ := r
      obtain ⟨b, us, e, k1, k2⟩ := r'
      cases e
      rw [h1] at k1
      cases k1
      rw [eqcs_det c I S1 (h (h2.length.trans k2.length.symm)) h2 k2]
    | _ => unfold eqc at h; exact rp_det c I S1 (plk_flt h.1) (plk_flt h.2.1) r r'
  | .obj cl xs, y, v, h, r, r' => by
    cases y with
    | obj cl' ys =>
      unfold eqc at h
      obtain ⟨rfl, h1, h2, f, h3, _⟩ := h
      refine rp_det c I S1 ?_ ?_ r r' <;> (unfold plk; rw [h3]; simp [h1, h2])
    | _ => unfold eqc at h; exact rp_det c I S1 (plk_flt h.1) (plk_flt h.2.1) r r'
  | .non, y, v, h, r, r' => by cases y <;> (unfold eqc at h; exact rp_det c I S1 (plk_flt h.1) (plk_flt h.2.1) r r')
  | .int _, y, v, h, r, r' => by cases y <;> (unfold eqc at h; exact rp_det c I S1 (plk_flt h.1) (plk_flt h.2.1) r r')
  | .str _, y, v, h, r, r' => by cases y <;> (unfold eqc at h; exact rp_det c I S1 (plk_flt h.1) (plk_flt h.2.1) r r')
  | .bl _, y, v, h, r, r' => by cases y <;> (unfold eqc at h; exact rp_det c I S1 (plk_flt h.1) (plk_flt h.2.1) r r')
  | .ref _, y, v, h, r, r' => by cases y <;> (unfold eqc at h; exact rp_det c I S1 (plk_flt h.1) (plk_flt h.2.1) r r')
  | .bor _, y, v, h, r, r' => by cases y <;> (unfold eqc at h; exact rp_det c I S1 (plk_flt h.1) (plk_flt h.2.1) r r')
  | .scr _, y, v, h, r, r' => by cases y <;> (unfold eqc at h; exact rp_det c I S1 (plk_flt h.1) (plk_flt h.2.1) r r')
theorem eqcs_det (c : Cok Z C k N X sc W) (I : Inv X pins σ H sh) (S1 : Sim Z.toZt cf s m τ H) : ∀ {xs ys : List D} {vs : List V}, eqcs Z.T C m xs ys → Rps Z.toZt cf.G cf.as xs vs → Rps Z.toZt cf.G cf.as ys vs → xs = ys
  | [], ys, vs, _, r, r' => by
    have e := r.nil_inv
    subst e
    cases ys with
    | nil => rfl
    | cons y ys => obtain ⟨_, _, e, _⟩ := r'.cons_inv; cases e
  | x :: xs, ys, vs, h, r, r' => by
    obtain ⟨v, t, rfl, h1, h2⟩ := r.cons_inv
    cases ys with
    | nil => cases r'.nil_inv
    | cons y ys =>
      obtain ⟨u, t', e, k1, k2⟩ := r'.cons_inv
      cases e
      unfold eqcs at h
      have e1 := eqc_det c I S1 h.1 h1 k1
      rw [e1, eqcs_det c I S1 (h.2 e1) h2 k2]
end
theorem eqcs_at : ∀ {xs ys : List D} {i : Nat} {x y : D}, eqcs Z.T C m xs ys → xs[i]? = some x → ys[i]? = some y → (∀ j, j < i → xs[j]? = ys[j]?) → eqc Z.T C m x y
  | [], _, i, x, y, _, h, _, _ => by simp at h
  | _ :: _, [], i, x, y, _, _, h, _ => by simp at h
  | a :: xs, b :: ys, 0, x, y, h, h1, h2, _ => by
    unfold eqcs at h
    simp at h1 h2
    subst h1 h2
    exact h.1
  | a :: xs, b :: ys, i + 1, x, y, h, h1, h2, h3 => by
    unfold eqcs at h
    have e := h3 0 (Nat.succ_pos _)
    simp at e
    exact eqcs_at (h.2 e) (by simpa using h1) (by simpa using h2) fun j hj => by
      have := h3 (j + 1) (by omega)
      simpa using this
/-- the i-th items are equal -/
def bsD (xs ys : List D) (i : Nat) : Bool := match xs[i]?, ys[i]? with
  | some x, some y => eqd x y
  | _, _ => false
theorem bsD_iff {xs ys : List D} {i : Nat} (h : i < xs.length) : bsD xs ys i = true ↔ xs[i]? = ys[i]? := by
  unfold bsD
  rw [List.getElem?_eq_getElem h]
  cases e : ys[i]? with
  | none => simp
  | some y => simp [eqd_iff]
theorem bs_fin {xs ys : List D} : ((List.range (min xs.length ys.length)).all (bsD xs ys) && decide (xs.length = ys.length)) = true ↔ xs = ys := by
  rw [Bool.and_eq_true, decide_eq_true_eq, List.all_eq_true]
  constructor
  · rintro ⟨h1, h2⟩
    refine List.ext_getElem? fun i => ?_
    by_cases hi : i < xs.length
    · exact (bsD_iff hi).mp (h1 i (List.mem_range.mpr (by omega)))
    · rw [List.getElem?_eq_none (by omega), List.getElem?_eq_none (by omega)]
  · rintro rfl
    exact ⟨fun i hi => (bsD_iff (by have := List.mem_range.mp hi; omega)).mpr rfl, rfl⟩
end
end Pm
end
end
section
set_option Elab.async false
set_option linter.all false
set_option maxRecDepth 100000
set_option maxHeartbeats 4000000
/-! Pm21: ==, != and in: the promise kept. -/
noncomputable section
namespace Pm
open PySem PySem.Spec L2
section
variable {Z : Ze} {C : CF} {k : Nat} {N : List Str} {X : Cx} {sc : Scope} {W : WX}
variable {pins : List (Addr × Obj)} {σ τ : L2.St} {H : Hp} {sh : Shared} {cf : Cfg} {s : List S} {m : Mu}
/-- what a comparison keeps -/
def Kp (Z : Ze) (X : Cx) (pins : List (Addr × Obj)) (σ τ : L2.St) (cf : Cfg) (s : List S) (m : Mu) (sh : Shared) : Prop := ∃ cf' H', cf.le cf' ∧ Inv X pins σ H' sh ∧ Sim Z.toZt cf' s m τ H'
theorem Kp.mono {cf' : Cfg} (l : cf.le cf') (h : Kp Z X pins σ τ cf' s m sh) : Kp Z X pins σ τ cf s m sh := by
  obtain ⟨c1, H1, l1, r⟩ := h
  exact ⟨c1, H1, l.trans l1, r⟩
/-- == inside a built-in -/
def EqEl (Z : Ze) (C : CF) (X : Cx) (n : Nat) (x y : D) : Prop := ∀ {A : Around} {pins : List (Addr × Obj)} {σ τ : L2.St} {H : Hp} {sh : Shared} {cf : Cfg} {s : List S} {m : Mu} {vx vy : V} {u v : Value}, Sub X n A → Inv X pins σ H sh → Sim Z.toZt cf s m τ H →
  Rp Z.toZt cf.G cf.as x vx → Rp Z.toZt cf.G cf.as y vy → RelV vx u → RelV vy v → eqc Z.T C m x y → wpAny (model X.prog X.w) A (eqBool u v) (fun r s' => r = eqd x y ∧ Kp Z X pins σ τ cf s m s') X.xe sh
theorem EqEl.mono {n n' : Nat} {x y : D} (h : EqEl Z C X n x y) (hn : n ≤ n') : EqEl Z C X n' x y := fun sb => h (sb.mono hn)
/-- the pairs of two sequences -/
theorem turn_el {n : Nat} {xs ys : List D} (ih : ∀ (i : Nat) x y, xs[i]? = some x → ys[i]? = some y → EqEl Z C X n x y) {A : Around} (sb : Sub X (n + 1) A) (h : eqcs Z.T C m xs ys) {H' : Hp} {sh' : Shared} {cf' : Cfg} (l : cf.le cf') (I : Inv X pins σ H' sh') (S1 : Sim Z.toZt cf' s m τ H')
    {vs us : List V} {its its2 : List Value} (rx : Rps Z.toZt cf'.G cf'.as xs vs) (ry : Rps Z.toZt cf'.G cf'.as ys us) (r : Vals vs its) (r2 : Vals us its2) (i : Nat) (h1 : i < its.toArray.size) (h2 : i < its2.toArray.size) (hb : ∀ j, j < i → bsD xs ys j = true) :
    wpAny (model X.prog X.w) A.in1 (eqBool its.toArray[i] its2.toArray[i]) (fun r s' => r = bsD xs ys i ∧ Kp Z X pins σ τ cf s m s') X.xe sh' := by
  have g1 : its[i]? = some its.toArray[i] := by
    have h1' : i < its.length := by simpa using h1
    rw [List.getElem?_eq_getElem h1'] <;> simp
  have g2 : its2[i]? = some its2.toArray[i] := by
    have h2' : i < its2.length := by simpa using h2
    rw [List.getElem?_eq_getElem h2'] <;> simp
  have k1 : i < xs.length := by rw [rx.length, r.length]; simpa using h1
  have k2 : i < ys.length := by rw [ry.length, r2.length]; simpa using h2
  have ex := List.getElem?_eq_getElem k1
  have ey := List.getElem?_eq_getElem k2
  obtain ⟨vx, ev, rv⟩ := rx.get ex
  obtain ⟨vy, ew, rw_⟩ := ry.get ey
  obtain ⟨u, hu, ru⟩ := r.get ev
  obtain ⟨v, hv, rv'⟩ := r2.get ew
  rw [g1] at hu
  rw [g2] at hv
  rw [Option.some.inj hu, Option.some.inj hv]
  have e0 : bsD xs ys i = eqd xs[i] ys[i] := by unfold bsD; rw [ex, ey]
  rw [e0]
  refine wpAny_mono (ih i _ _ ex ey sb.in1 I S1 rv rw_ ru rv' (eqcs_at h ex ey fun j hj => (bsD_iff (by omega)).mp (hb j hj))) (fun r s' q => ⟨q.1, q.2.mono l⟩) fun _ _ q => q
theorem rc_tup (c : Cok Z C k N X sc W) {n : Nat} {xs ys : List D} (ih : ∀ (i : Nat) x y, xs[i]? = some x → ys[i]? = some y → EqEl Z C X n x y) {A : Around} (sb : Sub X (n + 1) A) (h : eqcs Z.T C m xs ys) (I : Inv X pins σ H sh) (S1 : Sim Z.toZt cf s m τ H)
    {a b : Addr} {vs us : List V} (h1 : SqT Z.K cf.G a vs) (h2 : SqT Z.K cf.G b us) (rx : Rps Z.toZt cf.G cf.as xs vs) (ry : Rps Z.toZt cf.G cf.as ys us) :
    wpAny (model X.prog X.w) A (richCompare .Eq (.ref a) (.ref b)) (fun r s' => r = .bool (eqd (.tup xs) (.tup ys)) ∧ Kp Z X pins σ τ cf s m s') X.xe sh := by
  obtain ⟨its, r, e, z⟩ := I.tuple (by rw [c.eK]; exact S1.exG.sqT h1)
  obtain ⟨its2, r2, e2, z2⟩ := I.tuple (by rw [c.eK]; exact S1.exG.sqT h2)
  refine GQB.rc_tupB (bs := bsD xs ys) sb.room.units0 (fun s' => Kp Z X pins σ τ cf s m s') e e2 (fun i h1 h2 s' hb q => ?_) (fun s' q => ⟨?_, q⟩) ⟨cf, H, Cfg.le.rfl', I, S1⟩
  · obtain ⟨c1, H1, l1, I1, S2⟩ := q
    exact turn_el ih sb h l1 I1 S2 (rx.mono l1.g l1.a) (ry.mono l1.g l1.a) r r2 i h1 h2 hb
  · rw [show its.toArray.size = xs.length by rw [List.size_toArray, ← r.length, rx.length], show its2.toArray.size = ys.length by rw [List.size_toArray, ← r2.length, ry.length]]
    congr 1
    rw [Bool.eq_iff_iff, bs_fin, eqd_iff]
    simp
theorem rc_lst (c : Cok Z C k N X sc W) {n : Nat} {xs ys : List D} (ih : ∀ (i : Nat) x y, xs[i]? = some x → ys[i]? = some y → EqEl Z C X n x y) {A : Around} (sb : Sub X (n + 1) A) (h : xs.length = ys.length → eqcs Z.T C m xs ys) (I : Inv X pins σ H sh) (S1 : Sim Z.toZt cf s m τ H)
    {x0 y0 : D} {a b : Addr} (rx : Rep Z.toZt cf s x0 (.ref a)) (ry : Rep Z.toZt cf s y0 (.ref b)) (ex : lstOf m x0 = some xs) (ey : lstOf m y0 = some ys) :
    wpAny (model X.prog X.w) A (richCompare .Eq (.ref a) (.ref b)) (fun r s' => r = .bool (eqd (.lst xs) (.lst ys)) ∧ Kp Z X pins σ τ cf s m s') X.xe sh := by
  have read : ∀ {cf' : Cfg} {H' : Hp} {sh' : Shared}, cf.le cf' → Inv X pins σ H' sh' → Sim Z.toZt cf' s m τ H' → ∃ vs us its its2, Rps Z.toZt cf'.G cf'.as xs vs ∧ Rps Z.toZt cf'.G cf'.as ys us ∧ Vals vs its ∧ Vals us its2 ∧ PlainL sh'.heap a its.toArray ∧ PlainL sh'.heap b its2.toArray := fun {cf' H' sh'} l I' S' => by
    obtain ⟨a', vs, e, q1, q2⟩ := S'.lstOf (rx.mono l) ex
    cases e
    obtain ⟨b', us, e, q3, q4⟩ := S'.lstOf (ry.mono l) ey
    cases e
    obtain ⟨its, r, p, _⟩ := I'.list (by rw [c.eK]; exact q1)
    obtain ⟨its2, r2, p2, _⟩ := I'.list (by rw [c.eK]; exact q3)
    exact ⟨vs, us, its, its2, q2, q4, r, r2, p, p2⟩
  by_cases hl : xs.length = ys.length
  · refine wpAny_mono (GQB.rc_listB (N := xs.length) (bs := bsD xs ys) (Q := fun v s' => v = .bool (eqd (.lst xs) (.lst ys)) ∧ Kp Z X pins σ τ cf s m s') sb.room.units0 (fun s' => Kp Z X pins σ τ cf s m s') (fun s' q => ?_) (fun s' q => ⟨?_, q⟩) ⟨cf, H, Cfg.le.rfl', I, S1⟩) (fun _ _ q => q) fun _ _ q => q
    · obtain ⟨c1, H1, l1, I1, S2⟩ := q
      obtain ⟨vs, us, its, its2, q2, q4, r, r2, ⟨⟨cls, dd, data, sl⟩, n1, ho, hc, hdn, hdt⟩, ⟨⟨cls2, dd2, data2, sl2⟩, n2, ho2, hc2, hdn2, hdt2⟩⟩ := read l1 I1 S2
      simp only at hc hdt hc2 hdt2
      subst hc hdt hc2 hdt2
      exact ⟨its.toArray, its2.toArray, _, _, _, _, _, _, ho, ho2, by rw [List.size_toArray, ← r.length, q2.length], by rw [List.size_toArray, ← r2.length, ← q4.length, hl], fun i h1 h2 hb => turn_el ih sb (h hl) l1 I1 S2 q2 q4 r r2 i h1 h2 hb⟩
    · congr 1
      rw [Bool.eq_iff_iff, eqd_iff]
      have := bs_fin (xs := xs) (ys := ys)
      rw [← hl, Nat.min_self, decide_eq_true rfl, Bool.and_true] at this
      rw [this]
      simp
  · obtain ⟨vs, us, its, its2, q2, q4, r, r2, ⟨⟨cls, dd, data, sl⟩, n1, ho, hc, hdn, hdt⟩, ⟨⟨cls2, dd2, data2, sl2⟩, n2, ho2, hc2, hdn2, hdt2⟩⟩ := read Cfg.le.rfl' I S1
    simp only at hc hdt hc2 hdt2
    subst hc hdt hc2 hdt2
    refine GQB.rc_listN sb.room.units0 ho ho2 (fun e => hl ?_) fun t => ⟨?_, ⟨cf, H, Cfg.le.rfl', I.tok _, S1⟩⟩
    · rw [List.size_toArray, List.size_toArray] at e
      rw [q2.length, q4.length, r.length, r2.length, e]
    · congr 1
      symm
      rw [Bool.eq_false_iff]
      intro z
      rw [eqd_iff] at z
      injection z with z
      exact hl (by rw [z])
theorem rc_obj (c : Cok Z C k N X sc W) {A : Around} (sb : Sub X k A) {cl : Nat} {xs ys : List D} (h : eqc Z.T C m (.obj cl xs) (.obj cl ys)) (I : Inv X pins σ H sh) (S1 : Sim Z.toZt cf s m τ H) {vx vy : V} {u v : Value}
    (rx : Rp Z.toZt cf.G cf.as (.obj cl xs) vx) (ry : Rp Z.toZt cf.G cf.as (.obj cl ys) vy) (qx : RelV vx u) (qy : RelV vy v) :
    wpAny (model X.prog X.w) A (richCompare .Eq u v) (fun r s' => r = .bool (eqd (.obj cl xs) (.obj cl ys)) ∧ Kp Z X pins σ τ cf s m s') X.xe sh := by
  unfold eqc at h
  obtain ⟨_, _, _, f, hf, hC⟩ := h
  obtain ⟨t1, t2, t3, _⟩ := c.txt.eqm _ _ hf
  have rx' := rx
  have ry' := ry
  unfold Rp at rx' ry'
  obtain ⟨a, dx, vs, rfl, ha, _, _⟩ := rx'
  obtain ⟨b, dy, us, rfl, hb, _, _⟩ := ry'
  cases qx
  cases qy
  obtain ⟨mA, J, _⟩ := ins_get I.hok (S1.exG _ _ ha)
  obtain ⟨mB, J', _⟩ := ins_get I.hok (S1.exG _ _ hb)
  obtain ⟨od, J, _⟩ := J.look
  obtain ⟨od', J', _⟩ := J'.look
  obtain ⟨mm, hF⟩ := I.fr
  refine PySem.W.cmp_K (op := .Eq) (tb := .ref (Z.cad cl)) sb.room.units0 hF I.ok.mod.kin J J'.type (by simp [PySem.W.notFirst]) (by rw [c.eK]; exact t1) (by rw [c.eK]; exact t2) ?_
  have hlen : ([D.obj cl xs, D.obj cl ys] ++ [] ++ []).length = Z.pars f := by
    rcases c.clen f ([D.obj cl xs, D.obj cl ys] ++ [] ++ []) m with q | q
    · rw [show C f ([D.obj cl xs, D.obj cl ys] ++ [] ++ []) m = C f [D.obj cl xs, D.obj cl ys] m from rfl, hC] at q; cases q
    · exact q
  refine wpAny_mono (c.runA (ks := []) (ds := []) (Q := fun v H' => v = .bl (eqd (.obj cl xs) (.obj cl ys)) ∧ ∃ c', cf.le c' ∧ Sim Z.toZt c' s m τ H') sb.room sb.fr (c.fns f 2 [] [] t3) I S1 (us := [.ref a, .ref b]) (ws := []) (.cons (show RelV (V.ref a) (Value.ref a) from rfl) (.cons (show RelV (V.ref b) (Value.ref b) from rfl) .nil)) .nil (.cons rx (.cons ry .nil)) .nil rfl rfl ?_) (fun r s' q => ?_) fun _ _ q => q
  · show RunQ Z W cf s τ σ (Z.fsh f) _ (C f [D.obj cl xs, D.obj cl ys] m)
    rw [hC]
    intro c' v H' l S2 rr
    unfold RetRel at rr
    split at rr
    · obtain ⟨_, e, _⟩ := rr; cases e
    · unfold Rp at rr
      exact ⟨rr, c', l, S2⟩
  · obtain ⟨z, H', I', rz, ez, c', l, S2⟩ := q
    subst ez
    cases rz
    exact ⟨rfl, c', H', l, I', S2⟩
/-- != of instances -/
theorem ne_entry {M : Model} {prog : Program} {w : World} {A : Around} {E : Value → Shared → Prop} {s : Shared} {K : PySem.W.Frag} {x Cl f : Addr} {ox : Obj} {od : Option Obj} {b : Value} {Q : Fin → Shared → Prop} (hu : A.units < cLine) (X : K.In s.heap) (I : PySem.W.InstAt s.heap x ox Cl od)
    (hs : PySem.W.findIn K (.ref Cl) "__eq__" = some (some (.ref f))) (hf : PySem.W.isFn K (.ref f) = true) (h : wpAny (model prog w) A (call (.ref f) [.ref x, b]) (fun v s' => ∃ k, v = .bool k ∧ Q (.done (.ret (.bool (!k)))) s') E s) :
    wpAny (model prog w) A (Builtin.«object.__ne__» ⟨[.ref x, b], []⟩) Q E s := by
  unfold Builtin.«object.__ne__»
  repeat (first
    | with_reducible refine wpAny_cRoomFor hu ?_
    | (refine wpAny_bind (m := callSpecialIfBound? (.ref x) (Str.ofString "__eq__") [b])
        (PySem.W.ifBound_K X I hs hf (wpAny_mono h (fun r s' hr => by
          obtain ⟨k, rfl, hq⟩ := hr
          repeat (first | exact hq | exact wpAny_pure hq | exact wpAny_truthy_bool hq | (refine wpAny_bind (m := truthy (.bool _)) (wpAny_truthy_bool ?_)) | wp_step)) fun _ _ e => e)))
    | wp_step)
theorem ifBound_objNe {M : Model} {A : Around} {E : Value → Shared → Prop} {s : Shared} {K : PySem.W.Frag} {x Cl : Addr} {ox : Obj} {od : Option Obj} {args : List Value} {Q : Option Value → Shared → Prop} (X : K.In s.heap) (I : PySem.W.InstAt s.heap x ox Cl od) (hs : PySem.W.findIn K (.ref Cl) "__ne__" = some (some (.builtin "object.__ne__")))
    (h : wpAny M A (call (.builtin "object.__ne__") (.ref x :: args)) (fun v => Q (some v)) E s) : wpAny M A (callSpecialIfBound? (.ref x) "__ne__" args) Q E s := by
  simp only [callSpecialIfBound?, bindSpecialIfBound?]
  refine wpAny_holding (wpAny_bind (wpAny_bind (wpAny_bind (I.type.here ((PySem.W.looks_findIn X hs).here ?_)))))
  refine wpAny_bind (wpAny_askSetting (wpAny_ite ?_))
  have fin : wpAny M A (call (.builtin "object.__ne__") ([.ref x] ++ args) >>= fun v => pure (some v)) Q E s := wpAny_bind (wpAny_mono h (fun v s' h' => wpAny_pure h') fun _ _ h' => h')
  split
  · exact wpAny_bind (wpAny_of_eq (PySem.F.cmp_object.ne.bind _) (wpAny_pure (by exact fin)))
  · exact wpAny_tryCatch (wpAny_bind (wpAny_of_eq (PySem.F.cmp_object.ne.bind _) (wpAny_pure (by exact fin))))
theorem rich_ne {prog : Program} {w : World} {A : Around} {E : Value → Shared → Prop} {s : Shared} {K : PySem.W.Frag} {x y Cl f : Addr} {ox oy : Obj} {od od' : Option Obj} {Q : Value → Shared → Prop} (hu : A.units + 1 < cLine) (X : K.In s.heap) (I : PySem.W.InstAt s.heap x ox Cl od) (I' : PySem.W.InstAt s.heap y oy Cl od')
    (hs : PySem.W.findIn K (.ref Cl) "__eq__" = some (some (.ref f))) (hf : PySem.W.isFn K (.ref f) = true) (hn : PySem.W.findIn K (.ref Cl) "__ne__" = some (some (.builtin "object.__ne__"))) (hm : PySem.W.mroIn K Cl (.type "object") = some true)
    (h : wpAny (model prog w) A.in1 (call (.ref f) [.ref x, .ref y]) (fun v s' => ∃ k, v = .bool k ∧ Q (.bool (!k)) s') E s) : wpAny (model prog w) A (richCompare .NotEq (.ref x) (.ref y)) Q E s := by
  have one : wpAny (model prog w) A (tryCompare (.ref x) "__ne__" (.ref y)) (fun r s' => ∃ v, r = some v ∧ Q v s') E s := by
    unfold tryCompare
    refine wpAny_bind (ifBound_objNe X I hn (wpAny_call (codeAny_call_builtin PySem.F.cmp_object.ne.plain PySem.F.cmpEntry_ne (PySem.W.check_slot PySem.F.cmpKind_ne PySem.F.cmpSplit_ne (I.type.andThen (PySem.W.looks_mroIn X hm)) (PySem.F.cmpArgs_ne _ _)
      (ne_entry (M := model prog w) (A := A.in1) hu X I hs hf (wpAny_mono h (fun v s' hv => ?_) fun _ _ e => e))))))
    obtain ⟨k, rfl, hq⟩ := hv
    exact ⟨k, rfl, wpAny_pure ⟨_, rfl, hq⟩⟩
  unfold richCompare
  simp only [oneThing_ref]
  refine wpAny_holding (wpAny_bind (wpAny_cRoomFor (Nat.lt_of_succ_lt hu) ?_))
  rw [PySem.cmpInfo_NotEq]
  dsimp only
  refine wpAny_bind (I.type.here (wpAny_bind (I'.type.here ?_)))
  rw [show (Value.ref Cl != Value.ref Cl) = false from by simp]
  simp only [Bool.false_eq_true, if_false]
  refine wpAny_bind (wpAny_pure ?_)
  simp only [Bool.false_eq_true, if_false]
  refine wpAny_bind (wpAny_mono one (fun r s' z => ?_) fun _ _ e => e)
  obtain ⟨v, rfl, hq⟩ := z
  exact wpAny_pure hq
theorem rc_neO (c : Cok Z C k N X sc W) {A : Around} (sb : Sub X (k + 2) A) {cl cl' : Nat} {xs ys : List D} (h : eqc Z.T C m (.obj cl xs) (.obj cl' ys)) (I : Inv X pins σ H sh) (S1 : Sim Z.toZt cf s m τ H) {vx vy : V} {u v : Value}
    (rx : Rp Z.toZt cf.G cf.as (.obj cl xs) vx) (ry : Rp Z.toZt cf.G cf.as (.obj cl' ys) vy) (qx : RelV vx u) (qy : RelV vy v) :
    wpAny (model X.prog X.w) A (richCompare .NotEq u v) (fun r s' => r = .bool (!eqd (.obj cl xs) (.obj cl' ys)) ∧ Kp Z X pins σ τ cf s m s') X.xe sh := by
  unfold eqc at h
  obtain ⟨rfl, _, _, f, hf, hC⟩ := h
  obtain ⟨t1, t2, t3, t4, t5⟩ := c.txt.eqm _ _ hf
  have rx' := rx
  have ry' := ry
  unfold Rp at rx' ry'
  obtain ⟨a, dx, vs, rfl, ha, _, _⟩ := rx'
  obtain ⟨b, dy, us, rfl, hb, _, _⟩ := ry'
  cases qx
  cases qy
  obtain ⟨mA, J, _⟩ := ins_get I.hok (S1.exG _ _ ha)
  obtain ⟨mB, J', _⟩ := ins_get I.hok (S1.exG _ _ hb)
  obtain ⟨od, J, _⟩ := J.look
  obtain ⟨od', J', _⟩ := J'.look
  have sb1 : Sub X k A.in1 := ⟨sb.room.in1.mono (by omega), sb.fr⟩
  refine rich_ne (show A.units + 1 < cLine from sb.room.in1.units0) I.kIn J J' (by rw [c.eK]; exact t1) (by rw [c.eK]; exact t2) (by rw [c.eK]; exact t4) (by rw [c.eK]; exact t5) ?_
  refine wpAny_mono (c.runA (ks := []) (ds := []) (Q := fun v H' => v = .bl (eqd (.obj cl xs) (.obj cl ys)) ∧ ∃ c', cf.le c' ∧ Sim Z.toZt c' s m τ H') sb1.room sb1.fr (c.fns f 2 [] [] t3) I S1 (us := [.ref a, .ref b]) (ws := []) (.cons (show RelV (V.ref a) (Value.ref a) from rfl) (.cons (show RelV (V.ref b) (Value.ref b) from rfl) .nil)) .nil (.cons rx (.cons ry .nil)) .nil rfl rfl ?_) (fun r s' q => ?_) fun _ _ q => q
  · show RunQ Z W cf s τ σ (Z.fsh f) _ (C f [D.obj cl xs, D.obj cl ys] m)
    rw [hC]
    intro c' v H' l S2 rr
    unfold RetRel at rr
    split at rr
    · obtain ⟨_, e, _⟩ := rr; cases e
    · unfold Rp at rr
      exact ⟨rr, c', l, S2⟩
  · obtain ⟨z, H', I', rz, ez, c', l, S2⟩ := q
    subst ez
    cases rz
    exact ⟨_, rfl, rfl, c', H', l, I', S2⟩
theorem dep_mem : ∀ {xs : List D} {i : Nat} {x : D}, xs[i]? = some x → dep x ≤ deps xs
  | [], i, x, h => by simp at h
  | y :: ys, 0, x, h => by simp at h; subst h; unfold deps; omega
  | y :: ys, i + 1, x, h => by
    have := dep_mem (xs := ys) (i := i) (by simpa using h)
    unfold deps; omega
/-- from a rich comparison to == inside a built-in -/
theorem el_rc (c : Cok Z C k N X sc W) {A : Around} {x y : D} {a b : Addr} (I : Inv X pins σ H sh) (S1 : Sim Z.toZt cf s m τ H) (rx : Rp Z.toZt cf.G cf.as x (.ref a)) (ry : Rp Z.toZt cf.G cf.as y (.ref b)) (h : eqc Z.T C m x y)
    (q : wpAny (model X.prog X.w) A (richCompare .Eq (.ref a) (.ref b)) (fun r s' => r = .bool (eqd x y) ∧ Kp Z X pins σ τ cf s m s') X.xe sh) :
    wpAny (model X.prog X.w) A (eqBool (.ref a) (.ref b)) (fun r s' => r = eqd x y ∧ Kp Z X pins σ τ cf s m s') X.xe sh := by
  by_cases hab : a = b
  · subst hab
    have e := eqc_det c I S1 h rx ry
    subst e
    rw [eqd_self]
    exact SeqAt.EqAt.same (A := A) (s := sh) (.ref a) X.prog X.w X.xe _ ⟨rfl, cf, H, Cfg.le.rfl', I, S1⟩
  · exact GQ.eqBool_refG hab (wpAny_mono q (fun r s' z => ⟨_, z.1, rfl, z.2⟩) fun _ _ z => z)
theorem el_leaf (c : Cok Z C k N X sc W) {A : Around} {n : Nat} (sb : Sub X n A) {x y : D} (hx : flt x = true) (hy : flt y = true) (hs : (sca x || sca y) = true) {vx vy : V} {u v : Value} (I : Inv X pins σ H sh) (S1 : Sim Z.toZt cf s m τ H) (rx : Rp Z.toZt cf.G cf.as x vx) (ry : Rp Z.toZt cf.G cf.as y vy) (qx : RelV vx u) (qy : RelV vy v) :
    wpAny (model X.prog X.w) A (eqBool u v) (fun r s' => r = eqd x y ∧ Kp Z X pins σ τ cf s m s') X.xe sh := by
  obtain ⟨as, r1⟩ := Dp.reads I (pd x) vx u (by rw [c.eK]; exact dp_of S1.exG hx rx) qx
  obtain ⟨bs, r2⟩ := Dp.reads I (pd y) vy v (by rw [c.eK]; exact dp_of S1.exG hy ry) qy
  refine SeqAt.eqAt_reads (pd x) (pd y) A sh u v as bs r1 r2 (pd_lay hx) (pd_lay hy) ?_ X.prog X.w X.xe _ ⟨eqv_eqd hx hy, cf, H, Cfg.le.rfl', I, S1⟩
  rw [pd_dep, pd_dep]
  have e0 : min (dep x) (dep y) = 0 := by
    rw [Bool.or_eq_true] at hs
    rcases hs with hs | hs
    · cases x <;> first | (cases hs; done) | simp [dep]
    · cases y <;> first | (cases hs; done) | simp [dep]
  rw [e0]
  exact sb.room.units0
mutual
theorem eq_el (c : Cok Z C k N X sc W) : ∀ (x y : D), EqEl Z C X (k + dep x) x y
  | .tup xs, y => by
    intro sb I S1 rx ry qx qy h
    cases y with
    | tup ys =>
      have rx' := rx
      have ry' := ry
      unfold Rp at rx' ry'
      obtain ⟨a, vs, rfl, h1, h2⟩ := rx'
      obtain ⟨b, us, rfl, h3, h4⟩ := ry'
      cases qx
      cases qy
      have h' := h
      unfold eqc at h'
      exact el_rc c I S1 rx ry h (rc_tup c (eq_els c xs ys) (n := k + deps xs) (sb.mono (by unfold dep; omega)) h' I S1 h1.1 h3.1 h2 h4)
    | _ => unfold eqc at h; exact el_leaf c sb h.1 h.2.1 h.2.2 I S1 rx ry qx qy
  | .lst xs, y => by
    intro sb I S1 rx ry qx qy h
    cases y with
    | lst ys =>
      have rx' := rx
      have ry' := ry
      unfold Rp at rx' ry'
      obtain ⟨a, vs, rfl, h1, h2⟩ := rx'
      obtain ⟨b, us, rfl, h3, h4⟩ := ry'
      cases qx
      cases qy
      have h' := h
      unfold eqc at h'
      exact el_rc c I S1 rx ry h (rc_lst c (eq_els c xs ys) (n := k + deps xs) (sb.mono (by unfold dep; omega)) h' I S1 (x0 := .lst xs) (y0 := .lst ys) rx ry rfl rfl)
    | _ => unfold eqc at h; exact el_leaf c sb h.1 h.2.1 h.2.2 I S1 rx ry qx qy
  | .obj cl xs, y => by
    intro sb I S1 rx ry qx qy h
    cases y with
    | obj cl' ys =>
      have h' := h
      unfold eqc at h'
      obtain ⟨rfl, _⟩ := h'
      have rx' := rx
      have ry' := ry
      unfold Rp at rx' ry'
      obtain ⟨a, dx, vs, rfl, _⟩ := rx'
      obtain ⟨b, dy, us, rfl, _⟩ := ry'
      have q := rc_obj c (sb.mono (by omega)) h I S1 rx ry qx qy
      cases qx
      cases qy
      exact el_rc c I S1 rx ry h q
    | _ => unfold eqc at h; exact el_leaf c sb h.1 h.2.1 h.2.2 I S1 rx ry qx qy
  | .non, y => by intro sb I S1 rx ry qx qy h; cases y <;> (unfold eqc at h; exact el_leaf c sb h.1 h.2.1 h.2.2 I S1 rx ry qx qy)
  | .int _, y => by intro sb I S1 rx ry qx qy h; cases y <;> (unfold eqc at h; exact el_leaf c sb h.1 h.2.1 h.2.2 I S1 rx ry qx qy)
  | .str _, y => by intro sb I S1 rx ry qx qy h; cases y <;> (unfold eqc at h; exact el_leaf c sb h.1 h.2.1 h.2.2 I S1 rx ry qx qy)
  | .bl _, y => by intro sb I S1 rx ry qx qy h; cases y <;> (unfold eqc at h; exact el_leaf c sb h.1 h.2.1 h.2.2 I S1 rx ry qx qy)
  | .ref _, y => by intro sb I S1 rx ry qx qy h; cases y <;> (unfold eqc at h; exact el_leaf c sb h.1 h.2.1 h.2.2 I S1 rx ry qx qy)
  | .bor _, y => by intro sb I S1 rx ry qx qy h; cases y <;> (unfold eqc at h; exact el_leaf c sb h.1 h.2.1 h.2.2 I S1 rx ry qx qy)
  | .scr _, y => by intro sb I S1 rx ry qx qy h; cases y <;> (unfold eqc at h; exact el_leaf c sb h.1 h.2.1 h.2.2 I S1 rx ry qx qy)
theorem eq_els (c : Cok Z C k N X sc W) : ∀ (xs ys : List D) (i : Nat) x y, xs[i]? = some x → ys[i]? = some y → EqEl Z C X (k + deps xs) x y
  | [], ys, i, x, y, h, _ => by simp at h
  | x0 :: xs, ys, 0, x, y, h, h' => by
    simp at h
    subst h
    exact EqEl.mono (n := k + dep x0) (eq_el c x0 y) (by unfold deps; omega)
  | x0 :: xs, ys, i + 1, x, y, h, h' => by
    exact EqEl.mono (n := k + deps xs) (eq_els c xs (ys.drop 1) i x y (by simpa using h) (by rw [List.getElem?_drop, Nat.add_comm]; exact h')) (show _ ≤ k + max (dep x0) (deps xs) by omega)
end
theorem scal_of {x y : D} {vx vy : V} (h : ((isBl x && isBl y) || (sca x && sca y)) = true) (rx : Rep Z.toZt cf s x vx) (ry : Rep Z.toZt cf s y vy) : scal vx vy = true ∧ decide (vx = vy) = eqd x y := by
  have key : ∀ {p q : Prop} [Decidable p], (p ↔ q) → ∀ {x y : D}, (q ↔ x = y) → decide p = eqd x y := fun {p q} _ h {x y} h' => by
    rw [Bool.eq_iff_iff, decide_eq_true_eq, eqd_iff, h, h']
  cases x <;> cases y <;> first | (cases h; done) | skip
  all_goals first
    | (rw [rep_non] at rx ry; subst rx ry; exact ⟨rfl, key Iff.rfl (by simp)⟩)
    | (rw [rep_non] at rx; rw [rep_int] at ry; subst rx ry; exact ⟨rfl, key Iff.rfl (by simp)⟩)
    | (rw [rep_non] at rx; rw [rep_str] at ry; subst rx ry; exact ⟨rfl, key Iff.rfl (by simp)⟩)
    | (rw [rep_int] at rx; rw [rep_non] at ry; subst rx ry; exact ⟨rfl, key Iff.rfl (by simp)⟩)
    | (rw [rep_int] at rx ry; subst rx ry; exact ⟨rfl, key Iff.rfl (by simp)⟩)
    | (rw [rep_int] at rx; rw [rep_str] at ry; subst rx ry; exact ⟨rfl, key Iff.rfl (by simp)⟩)
    | (rw [rep_str] at rx; rw [rep_non] at ry; subst rx ry; exact ⟨rfl, key Iff.rfl (by simp)⟩)
    | (rw [rep_str] at rx; rw [rep_int] at ry; subst rx ry; exact ⟨rfl, key Iff.rfl (by simp)⟩)
    | (rw [rep_str] at rx ry; subst rx ry; exact ⟨rfl, key Iff.rfl (by simp)⟩)
    | (rw [rep_bl] at rx ry; subst rx ry; exact ⟨rfl, key Iff.rfl (by simp)⟩)
theorem dp_vw (S1 : Sim Z.toZt cf s m τ H) {x : D} {v : V} (h : flt (vw m x) = true) (r : Rep Z.toZt cf s x v) : Dp Z.K H v (pd (vw m x)) := by
  unfold vw at h ⊢
  cases e : lstOf m x with
  | some xs =>
    rw [e] at h
    obtain ⟨a, vs, rfl, h1, h2⟩ := S1.lstOf r e
    unfold flt at h
    exact .lst h1 (dps_of S1.exG h h2)
  | none =>
    rw [e] at h
    refine dp_of S1.exG h (r.rp ?_)
    cases x <;> first | rfl | cases e
/-- what is compared is what is read -/
theorem vw_lst {x : D} {xs : List D} (h : vw m x = .lst xs) : lstOf m x = some xs := by
  unfold vw at h
  cases e : lstOf m x with
  | some ys => rw [e] at h; cases h; rfl
  | none =>
    rw [e] at h
    subst h
    cases e
theorem vw_rp {x : D} {v : V} (h : ∀ xs, vw m x ≠ .lst xs) (r : Rep Z.toZt cf s x v) : Rp Z.toZt cf.G cf.as (vw m x) v := by
  unfold vw at h ⊢
  cases e : lstOf m x with
  | some ys => rw [e] at h; exact absurd rfl (h ys)
  | none =>
    refine r.rp ?_
    cases x <;> first | rfl | cases e
theorem eq_top (c : Cok Z C k N X sc W) {x y : D} {vx vy : V} {u v : Value} (I : Inv X pins σ H sh) (S1 : Sim Z.toZt cf s m τ H) (rx : Rep Z.toZt cf s x vx) (ry : Rep Z.toZt cf s y vy) (qx : RelV vx u) (qy : RelV vy v) (hd : dep (vw m x) ≤ 5) (h : eqc Z.T C m (vw m x) (vw m y)) :
    wpAny (model X.prog X.w) X.A (richCompare .Eq u v) (fun r s' => r = .bool (eqd (vw m x) (vw m y)) ∧ Kp Z X pins σ τ cf s m s') X.xe sh := by
  have sb : Sub X (k + 7) X.A := ⟨c.room, rfl⟩
  have leaf : flt (vw m x) = true → flt (vw m y) = true → (sca (vw m x) || sca (vw m y)) = true → wpAny (model X.prog X.w) X.A (richCompare .Eq u v) (fun r s' => r = .bool (eqd (vw m x) (vw m y)) ∧ Kp Z X pins σ τ cf s m s') X.xe sh := fun hx hy hs => by
    obtain ⟨as, r1⟩ := Dp.reads I (pd (vw m x)) vx u (by rw [c.eK]; exact dp_vw S1 hx rx) qx
    obtain ⟨bs, r2⟩ := Dp.reads I (pd (vw m y)) vy v (by rw [c.eK]; exact dp_vw S1 hy ry) qy
    refine SeqAt.compareEq_reads r1 r2 (pd_lay hx) (pd_lay hy) ?_ ⟨by rw [eqv_eqd hx hy], cf, H, Cfg.le.rfl', I, S1⟩
    rw [pd_dep, pd_dep]
    have := c.room.units
    omega
  cases ex : vw m x with
  | tup xs =>
    rw [ex] at h hd leaf
    cases ey : vw m y with
    | tup ys =>
      rw [ey] at h
      have rx' := vw_rp (m := m) (fun zs z => by rw [ex] at z; cases z) rx
      have ry' := vw_rp (m := m) (fun zs z => by rw [ey] at z; cases z) ry
      rw [ex] at rx'
      rw [ey] at ry'
      unfold Rp at rx' ry'
      obtain ⟨a, vs, rfl, h1, h2⟩ := rx'
      obtain ⟨b, us, rfl, h3, h4⟩ := ry'
      cases qx
      cases qy
      unfold eqc at h
      exact rc_tup c (eq_els c xs ys) (n := k + deps xs) (sb.mono (by unfold dep at hd; omega)) h I S1 h1.1 h3.1 h2 h4
    | _ => rw [ey] at h leaf; unfold eqc at h; exact leaf h.1 h.2.1 h.2.2
  | lst xs =>
    rw [ex] at h hd leaf
    cases ey : vw m y with
    | lst ys =>
      rw [ey] at h
      have e1 := vw_lst ex
      have e2 := vw_lst ey
      obtain ⟨a, vs, rfl, _⟩ := S1.lstOf rx e1
      obtain ⟨b, us, rfl, _⟩ := S1.lstOf ry e2
      cases qx
      cases qy
      unfold eqc at h
      exact rc_lst c (eq_els c xs ys) (n := k + deps xs) (sb.mono (by unfold dep at hd; omega)) h I S1 rx ry e1 e2
    | _ => rw [ey] at h leaf; unfold eqc at h; exact leaf h.1 h.2.1 h.2.2
  | obj cl xs =>
    rw [ex] at h hd leaf
    cases ey : vw m y with
    | obj cl' ys =>
      rw [ey] at h
      have h' := h
      unfold eqc at h'
      obtain ⟨rfl, _⟩ := h'
      have rx' := vw_rp (m := m) (fun zs z => by rw [ex] at z; cases z) rx
      have ry' := vw_rp (m := m) (fun zs z => by rw [ey] at z; cases z) ry
      rw [ex] at rx'
      rw [ey] at ry'
      exact rc_obj c (sb.mono (by omega)) h I S1 rx' ry' qx qy
    | _ => rw [ey] at h leaf; unfold eqc at h; exact leaf h.1 h.2.1 h.2.2
  | _ => rw [ex] at h leaf; cases ey : vw m y <;> (rw [ey] at h leaf; unfold eqc at h; exact leaf h.1 h.2.1 h.2.2)
theorem flat_vs {ys : List D} {us : List V} (h : ys.all sca = true) (r : Rps Z.toZt cf.G cf.as ys us) : us.all flatV = true ∧ ∀ {x : D} {vx : V}, sca x = true → Rp Z.toZt cf.G cf.as x vx → inV vx us = ys.any fun z => eqd z x := by
  induction ys generalizing us with
  | nil => rw [r.nil_inv]; exact ⟨rfl, fun _ _ => rfl⟩
  | cons y ys ih =>
    obtain ⟨v, t, rfl, h1, h2⟩ := r.cons_inv
    rw [List.all_cons, Bool.and_eq_true] at h
    obtain ⟨i1, i2⟩ := ih h.2 h2
    refine ⟨?_, fun {x vx} hx rx => ?_⟩
    · rw [List.all_cons, i1, Bool.and_true]
      cases y <;> first | (cases h.1; done) | (unfold Rp at h1; subst h1; rfl)
    · have e1 : eqV v vx = eqd y x := by
        obtain ⟨e1, e2⟩ := scal_of (Z := Z) (s := []) (cf := cf) (x := y) (y := x) (vx := v) (vy := vx) (by rw [h.1, hx]; simp) (Rep.of h1) (Rep.of rx)
        rw [← e2]
        cases y <;> first | (cases h.1; done) | skip
        all_goals (cases x <;> first | (cases hx; done) | skip)
        all_goals (unfold Rp at h1 rx; subst h1 rx)
        all_goals first | rfl | (simp [eqV]; done) | (rw [Bool.eq_iff_iff]; simp [eqV])
      show (eqV v vx || inV vx t) = (eqd y x || ys.any fun z => eqd z x)
      rw [e1, i2 hx rx]
theorem flat_vb {ys : List D} {us : List V} (h : ys.all isBl = true) (r : Rps Z.toZt cf.G cf.as ys us) : us.all flatV = true ∧ ∀ {x : D} {vx : V}, isBl x = true → Rp Z.toZt cf.G cf.as x vx → inV vx us = ys.any fun z => eqd z x := by
  induction ys generalizing us with
  | nil => rw [r.nil_inv]; exact ⟨rfl, fun _ _ => rfl⟩
  | cons y ys ih =>
    obtain ⟨v, t, rfl, h1, h2⟩ := r.cons_inv
    rw [List.all_cons, Bool.and_eq_true] at h
    obtain ⟨i1, i2⟩ := ih h.2 h2
    refine ⟨?_, fun {x vx} hx rx => ?_⟩
    · rw [List.all_cons, i1, Bool.and_true]
      cases y <;> first | (cases h.1; done) | (unfold Rp at h1; subst h1; rfl)
    · have e1 : eqV v vx = eqd y x := by
        cases y <;> first | (cases h.1; done) | skip
        cases x <;> first | (cases hx; done) | skip
        unfold Rp at h1 rx
        subst h1 rx
        rw [Bool.eq_iff_iff, eqd_iff]
        simp [eqV]
      show (eqV v vx || inV vx t) = (eqd y x || ys.any fun z => eqd z x)
      rw [e1, i2 hx rx]
theorem eq_all (Z : Ze) (C : CF) (k : Nat) : EqAll Z C k := by
  intro N X sc W c
  refine ⟨?_, ?_, ?_, ?_⟩
  · intro pins σ τ H sh cf s m x y vx vy v u b Q I S1 rx ry qx qy h q
    unfold eqD at h
    split at h
    · rename_i hb
      cases h
      obtain ⟨e1, e2⟩ := scal_of hb rx ry
      exact op_eq pins sh σ H _ _ v u Q I qx qy ⟨e1, by rw [e2]; exact q cf H Cfg.le.rfl' S1⟩
    · split at h
      · rename_i hb
        cases h
        rw [Bool.and_eq_true] at hb
        refine op_eqD c.room.units pins sh σ H _ _ v u Q I qx qy ⟨_, _, by rw [c.eK]; exact dp_vw S1 (flp_flt hb.1) rx, by rw [c.eK]; exact dp_vw S1 (flp_flt hb.2) ry, flp_shaped hb.1, flp_shaped hb.2, ?_⟩
        rw [eqv_eqd (flp_flt hb.1) (flp_flt hb.2)]
        exact q cf H Cfg.le.rfl' S1
      · split at h
        · rename_i hb
          cases h
          refine wpAny_mono (eq_top c I S1 rx ry qx qy hb.1 hb.2) (fun r s' z => ?_) fun _ _ z => z
          obtain ⟨rfl, cf', H', l, I', S2⟩ := z
          exact ⟨.bl _, H', I', rfl, q cf' H' l S2⟩
        · cases h
  · intro pins σ τ H sh cf s m x y vx vy v u b Q I S1 rx ry qx qy h q
    unfold neD at h
    split at h
    · rename_i hb
      cases h
      obtain ⟨e1, e2⟩ := scal_of hb rx ry
      exact op_ne pins sh σ H _ _ v u Q I qx qy ⟨e1, by rw [e2]; exact q cf H Cfg.le.rfl' S1⟩
    · split at h
      · rename_i hb
        cases h
        rw [Bool.and_eq_true] at hb
        refine op_neD c.room.units pins sh σ H _ _ v u Q I qx qy ⟨_, _, by rw [c.eK]; exact dp_vw S1 (flp_flt hb.1) rx, by rw [c.eK]; exact dp_vw S1 (flp_flt hb.2) ry, flp_shaped hb.1, flp_shaped hb.2, ?_⟩
        rw [eqv_eqd (flp_flt hb.1) (flp_flt hb.2)]
        exact q cf H Cfg.le.rfl' S1
      · unfold neT at h
        unfold neO at h
        dsimp only at h
        split at h
        · rename_i cl xs cl' ys
          split at h
          · rename_i he
            cases h
            have sb : Sub X (k + 2) X.A := ⟨c.room.mono (by omega), rfl⟩
            refine wpAny_mono (rc_neO c sb he I S1 (by exact rx.rp rfl) (by exact ry.rp rfl) qx qy) (fun r s' z => ?_) fun _ _ z => z
            obtain ⟨rfl, cf', H', l, I', S2⟩ := z
            exact ⟨.bl _, H', I', rfl, q cf' H' l S2⟩
          · cases h
        · cases h
  · intro pins σ τ H sh cf s m x y vx vy v u b neg Q I S1 rx ry qx qy hy h q
    have rpx : (∀ xs, lstOf m x ≠ some xs) ∨ True := .inr trivial
    have scx : sca x = true → Rp Z.toZt cf.G cf.as x vx := fun hx => rx.rp (by cases x <;> first | rfl | cases hx)
    have fx : sca x = true → flatV vx = true := fun hx => by
      have := scx hx
      cases x <;> first | (cases hx; done) | (unfold Rp at this; subst this; rfl)
    have flat : ∀ {ys : List D} {p : Addr} {us : List V}, vy = .ref p → (SqL Z.K H p us ∨ SqT Z.K H p us) → Rps Z.toZt cf.G cf.as ys us → sca x = true → ys.all sca = true → (ys.any fun z => eqd z x) = b → wpAny (model X.prog X.w) X.A (compareOp (if neg = true then .NotIn else .In) v u) (EP X pins σ Q) X.xe sh := fun {ys p us} e hq hr hx ha hb => by
      obtain ⟨g1, g2⟩ := flat_vs ha hr
      have g3 := g2 hx (scx hx)
      subst hb
      cases neg with
      | true => exact op_notIn_seq pins sh σ H _ _ v u Q I qx qy ⟨p, us, e, by rw [c.eK]; exact hq, fx hx, g1, by rw [g3]; simpa using q⟩
      | false => exact op_in_seq pins sh σ H _ _ v u Q I qx qy ⟨p, us, e, by rw [c.eK]; exact hq, fx hx, g1, by rw [g3]; simpa using q⟩
    have flab : ∀ {ys : List D} {p : Addr} {us : List V}, vy = .ref p → (SqL Z.K H p us ∨ SqT Z.K H p us) → Rps Z.toZt cf.G cf.as ys us → isBl x = true → ys.all isBl = true → (ys.any fun z => eqd z x) = b → wpAny (model X.prog X.w) X.A (compareOp (if neg = true then .NotIn else .In) v u) (EP X pins σ Q) X.xe sh := fun {ys p us} e hq hr hx ha hb => by
      obtain ⟨g1, g2⟩ := flat_vb ha hr
      have rp : Rp Z.toZt cf.G cf.as x vx := rx.rp (by cases x <;> first | rfl | cases hx)
      have fx : flatV vx = true := by
        have := rp
        cases x <;> first | (cases hx; done) | (unfold Rp at this; subst this; rfl)
      have g3 := g2 hx rp
      subst hb
      cases neg with
      | true => exact op_notIn_seq pins sh σ H _ _ v u Q I qx qy ⟨p, us, e, by rw [c.eK]; exact hq, fx, g1, by rw [g3]; simpa using q⟩
      | false => exact op_in_seq pins sh σ H _ _ v u Q I qx qy ⟨p, us, e, by rw [c.eK]; exact hq, fx, g1, by rw [g3]; simpa using q⟩
    have lst : (match lstOf m y with
        | some ys => if (sca x && ys.all sca) = true then some (ys.any fun z => eqd z x) else if (flp x && flp (.lst ys)) = true then some (ys.any fun z => eqd z x) else if (isBl x && ys.all isBl) = true then some (ys.any fun z => eqd z x) else none
        | none => none) = some b → wpAny (model X.prog X.w) X.A (compareOp (if neg = true then .NotIn else .In) v u) (EP X pins σ Q) X.xe sh := fun h => by
      split at h
      · rename_i ys ey
        obtain ⟨a, us, e, q1, q2⟩ := S1.lstOf ry ey
        split at h
        · rename_i hb
          rw [Bool.and_eq_true] at hb
          exact flat e (.inl q1) q2 hb.1 hb.2 (Option.some.inj h)
        · split at h
          · rename_i hb
            rw [Bool.and_eq_true] at hb
            have hx := flp_flt hb.1
            have hys := flp_flt hb.2
            have ex : lstOf m x = none ∨ ∃ xs, x = .lst xs := by cases x <;> first | (exact .inl rfl) | (exact .inr ⟨_, rfl⟩) | (cases hx; done)
            have dx : Dp Z.K H vx (pd x) := dp_of S1.exG hx (rx.rp (by cases x <;> first | rfl | cases hx))
            have dy : Dp Z.K H vy (.list (pds ys)) := by
              subst e
              unfold flt at hys
              exact .lst q1 (dps_of S1.exG hys q2)
            have any_ : ((pds ys).any fun z => PyData.eqv z (pd x)) = ys.any fun z => eqd z x := by
              unfold flt at hys
              clear h q2 dy hb ey flat
              rename_i hnn
              clear hnn
              induction ys with
              | nil => rfl
              | cons y ys ih =>
                unfold flts at hys
                rw [Bool.and_eq_true] at hys
                show (PyData.eqv (pd y) (pd x) || _) = _
                rw [eqv_eqd hys.1 hx, ih hys.2, List.any_cons]
            have hu : X.A.units + 65 < cLine := by have := c.room.un; omega
            have hh := Option.some.inj h
            subst hh
            cases neg with
            | true => exact op_notInD hu pins sh σ H _ _ v u Q I qx qy ⟨pd x, pds ys, by rw [c.eK]; exact dx, by rw [c.eK]; exact dy, flp_shaped hb.1, flp_shaped hb.2, by rw [any_]; simpa using q⟩
            | false => exact op_inD hu pins sh σ H _ _ v u Q I qx qy ⟨pd x, pds ys, by rw [c.eK]; exact dx, by rw [c.eK]; exact dy, flp_shaped hb.1, flp_shaped hb.2, by rw [any_]; simpa using q⟩
          · split at h
            · rename_i hb
              rw [Bool.and_eq_true] at hb
              exact flab e (.inl q1) q2 hb.1 hb.2 (Option.some.inj h)
            · cases h
      · cases h
    cases y with
    | str z => exact absurd rfl (hy z)
    | tup ys =>
      unfold inD at h
      dsimp only at h
      split at h
      · rename_i hb
        rw [Bool.and_eq_true] at hb
        obtain ⟨a, us, e, q1, q2⟩ := rep_tup.mp ry
        exact flat e (.inr (S1.exG.sqT q1)) q2 hb.1 hb.2 (Option.some.inj h)
      · split at h
        · rename_i hb
          rw [Bool.and_eq_true] at hb
          obtain ⟨a, us, e, q1, q2⟩ := rep_tup.mp ry
          exact flab e (.inr (S1.exG.sqT q1)) q2 hb.1 hb.2 (Option.some.inj h)
        · cases h
    | _ => exact lst h
  · intro pins σ τ H sh cf s m x y vx vy v u Q I S1 rx ry qx qy fx fy al hx q
    obtain ⟨xs, rfl⟩ := hx
    have hfy := flp_flt fy
    have dx : Dp X.K H vx (pd (.tup xs)) := by rw [c.eK]; exact dp_of S1.exG (flp_flt fx) (rx.rp rfl)
    have dy : Dp X.K H vy (pd y) := by rw [c.eK]; exact dp_of S1.exG hfy (ry.rp (by cases y <;> first | rfl | cases hfy))
    obtain ⟨as, ra⟩ := Dp.reads I (pd (.tup xs)) vx v dx qx
    obtain ⟨bs, rb⟩ := Dp.reads I (pd y) vy u dy qy
    have hd : (pd (.tup xs)).depth ≤ 60 := by
      unfold flp at fx
      simp only [Bool.and_eq_true, decide_eq_true_eq] at fx
      rw [pd_dep]
      exact fx.2
    refine PySem.W.lt_data ra rb al (by unfold pd; simp) ?_ ⟨.bl _, H, I, rfl, q⟩
    have := c.room.un
    omega
end
end Pm
end
end
section
set_option Elab.async false
set_option linter.all false
set_option maxRecDepth 100000
set_option maxHeartbeats 4000000
/-! Pm35: dict(xs), pairs whose keys are tuples. -/
noncomputable section
namespace Pm
open PySem PySem.Spec PyProof.Rows L2
def mergeT (kvs more : List (List Key × V)) : List (List Key × V) := more.foldl (fun acc kv => putK acc kv.1 kv.2) kvs
theorem length_mergeT : ∀ (more kvs : List (List Key × V)), (mergeT kvs more).length ≤ kvs.length + more.length
  | [], kvs => Nat.le_refl _
  | p :: more, kvs => by
    have h1 := length_mergeT more (putK kvs p.1 p.2)
    have h2 := length_putK kvs p.1 p.2
    show (mergeT (putK kvs p.1 p.2) more).length ≤ kvs.length + (more.length + 1)
    omega
theorem KT.merge {H : Hp} : ∀ {more : List (List Key × V)} {rs : List (List Key × Addr × Value)} {kvs : List (List Key × V)} {xs : List (List Key × Addr × Value)}, KT H more rs → KT H kvs xs → KT H (mergeT kvs more) (storedAllH xs rs)
  | _, _, _, _, .nil, h => h
  | _, _, _, _, .cons (a := p) (b := q) ⟨h1, h2, h3⟩ t, h => by
    obtain ⟨k, v⟩ := p
    obtain ⟨k', b, u⟩ := q
    have h1 : k = k' := h1
    subst h1
    show KT H (mergeT (putK _ k v) _) (storedAllH (storedH _ k b u) _)
    exact KT.merge t (h.put k h2 h3)
section
variable {X : Cx}
theorem pairs_ofT {pins : List (Addr × Obj)} {σ : L2.St} {H : Hp} {s : Shared} (I : Inv X pins σ H s) : ∀ {ps : List Addr} {kvs : List (List Key × V)}, Paired (fun p kv => ∃ b, SqT X.K H p [.ref b, kv.2] ∧ H b = some (.tup (kv.1.map kV))) ps kvs →
    ∃ prs : List (List Key × Addr × Value), KT H kvs prs ∧ prs.length = ps.length ∧ ∀ (j : Nat) (q : List Key × Addr × Value), prs[j]? = some q → ∃ p, ps[j]? = some p ∧ IsTup s.heap p #[.ref q.2.1, q.2.2]
  | _, _, .nil => ⟨[], .nil, rfl, fun j q e => by simp at e⟩
  | _, _, .cons (a := p) (b := kv) h t => by
    obtain ⟨prs, r, hl, hp⟩ := pairs_ofT I t
    obtain ⟨b, h, hb⟩ := h
    obtain ⟨its, rv, ht, _⟩ := I.tuple h
    obtain ⟨u, y, ei, ru, ry⟩ := vals2 rv
    subst ei
    cases (show u = Value.ref b from ru)
    refine ⟨(kv.1, b, y) :: prs, .cons ⟨rfl, hb, ry⟩ r, by rw [List.length_cons, List.length_cons, hl], fun j q e => ?_⟩
    cases j with
    | zero =>
      have e' : (kv.1, b, y) = q := Option.some.inj e
      subst e'
      exact ⟨p, rfl, ht⟩
    | succ j =>
      obtain ⟨p', e1, e2⟩ := hp j q (by simpa using e)
      exact ⟨p', by simpa using e1, e2⟩
/-- dict(xs) -/
theorem call_dictT (hcalm : X.calm = true) (hu : X.A.units + 2 < cLine) : CallR X (.type "dict") (fun xs H Q => ∃ (a : Addr) (ps : List Addr) (kvs : List (List Key × V)), xs = [.ref a] ∧ SqL X.K H a (ps.map V.ref) ∧ Paired (fun p kv => ∃ b, SqT X.K H p [.ref b, kv.2] ∧ H b = some (.tup (kv.1.map kV))) ps kvs ∧
    ∀ p, H p = none → Q (.ref p) (upd H p (.dT (mergeT [] kvs)))) := by
  intro pins s σ H xs us Q I r q
  obtain ⟨a, ps, kvs, ex, hq, hp, q⟩ := q
  subst ex
  obtain ⟨u, eu, rx⟩ := vals1 r
  subst eu
  cases rx
  obtain ⟨its, rv, pl, hz⟩ := I.list hq
  have ei := refs_at rv
  subst ei
  rw [List.length_map] at hz
  obtain ⟨prs, rel, hl, hpr⟩ := pairs_ofT I hp
  obtain ⟨o, n, ho, hc, hd, hdat⟩ := pl
  have PS : PlainSeq "list" s.heap a (ps.map Value.ref).toArray := ⟨o, n, ho, hc, hd, hdat⟩
  have PI : PairItems s.heap (ps.map Value.ref).toArray (fun j => ps.getD j 0) (prs.map fun q => (Value.ref q.2.1, q.2.2)) := by
    refine ⟨by simp [hl], fun j k v e => ?_⟩
    rw [List.getElem?_map] at e
    obtain ⟨q', e1, e2⟩ := Option.map_eq_some_iff.mp e
    cases e2
    obtain ⟨p, e3, e4⟩ := hpr j q' e1
    refine ⟨by simp [e3, List.getD_eq_getElem?_getD], .inl ?_⟩
    rw [show (fun j => ps.getD j 0) j = p by simp [e3, List.getD_eq_getElem?_getD]]
    exact e4
  have keyOk : ∀ x ∈ prs, (tupleKind (mixKind X.prog X.w)).is s.heap x.1 x.2.1 := fun x hx => by
    obtain ⟨i, hi, rfl⟩ := List.mem_iff_getElem.mp hx
    have : ∀ {kvs : List (List Key × V)} {prs : List (List Key × Addr × Value)}, KT H kvs prs → ∀ x ∈ prs, H x.2.1 = some (.tup (x.1.map kV)) := fun r => by
      induction r with
      | nil => intro x hx; cases hx
      | cons h t ih =>
        intro x hx
        rcases List.mem_cons.mp hx with q | q
        · subst q; rw [← h.1]; exact h.2.1
        · exact ih x q
    exact key_of I.hok (this rel _ hx)
  refine call_dict_pairsH (knd := tupleKind (mixKind X.prog X.w)) (ps := prs) (PairArg.list a _ _ _) (I.ok.hd hcalm) ?_ ⟨PS, PI⟩ ?_ ?_ ?_ fun h' tk hd' k => ?_
  · exact hu
  · refine ⟨by simp, fun i key v e => ?_⟩
    have e : (prs.map fun q => (Value.ref q.2.1, q.2.2))[i]? = some (key, v) := e
    rw [List.getElem?_map] at e
    obtain ⟨q', e1, e2⟩ := Option.map_eq_some_iff.mp e
    cases e2
    exact ⟨q'.1, q'.2.1, e1, rfl⟩
  · intro h' hk x hx
    have ne : x.2.1 ≠ s.heap.objs.size := by
      obtain ⟨o', _, _, h1, _⟩ := keyOk x hx
      exact Nat.ne_of_lt (Heap.lt_size h1)
    obtain ⟨o', its', n', h1, h2⟩ := keyOk x hx
    exact ⟨o', its', n', hk _ _ ne (by simp) h1, h2⟩
  · rw [List.length_map, hl]; exact hz
  · have hm : (s.heap.objs.size == sysModules) = false := beq_eq_false_iff_ne.mpr (Nat.ne_of_gt I.big)
    have hlen : (mergeT [] kvs).length ≤ sizeLine := by
      refine Nat.le_trans (length_mergeT kvs []) ?_
      rw [List.length_nil, Nat.zero_add, Paired.length rel, hl]
      exact hz
    have k' : ∀ b o, s.heap.get? b = some o → h'.get? b = some o := fun b o e => k b o (by simp) e
    refine ⟨.ref s.heap.objs.size, upd H s.heap.objs.size (.dT (mergeT [] kvs)), I.laid (t' := tk) k' (Nat.le_refl _) ?_, rfl, q _ (I.hok.fresh (Nat.le_refl _))⟩
    obtain ⟨o2, es, ep, g1, g2, g3, g4, _, g6⟩ := hd'
    refine ⟨hlen, hm, storedAllH [] prs, (KT.merge rel .nil).keeps fun c ys ec => ?_, o2, es, ep, g1, g2, g3, g4, g6⟩
    rw [upd_ne (fun z => by rw [z, I.hok.fresh (Nat.le_refl _)] at ec; cases ec)]
    exact ec
end
/-! ### dicts as they lie -/
section
variable {Z : Zt} {G : Hp} {as : List Addr}
theorem rp_kD {k : L2.Key} {v : V} : Rp Z G as (kD k) v ↔ v = kV k := by
  cases k with
  | inl i => show Rp Z G as (.int i) v ↔ v = .int i; unfold Rp; exact Iff.rfl
  | inr x => show Rp Z G as (.str x) v ↔ v = .str x; unfold Rp; exact Iff.rfl
theorem rps_kD : ∀ {ks : List L2.Key} {vs : List V}, Rps Z G as (ks.map kD) vs → vs = ks.map kV
  | [], vs, h => h.nil_inv
  | k :: ks, vs, h => by
    obtain ⟨v, r, rfl, h1, h2⟩ := h.cons_inv
    rw [rp_kD.mp h1, rps_kD h2]; rfl
theorem kD_inj {a b : L2.Key} (h : kD a = kD b) : a = b := by
  cases a <;> cases b <;> (unfold kD at h; first | (cases h; rfl) | cases h)
theorem kDs_inj : ∀ {a b : List L2.Key}, a.map kD = b.map kD → a = b
  | [], [], _ => rfl
  | [], _ :: _, h => by cases h
  | _ :: _, [], h => by cases h
  | x :: xs, y :: ys, h => by
    rw [List.map_cons, List.map_cons] at h
    injection h with h1 h2
    rw [kD_inj h1, kDs_inj h2]
theorem keyS_ex {y : D} (h : keyS y = true) : ∃ k, y = kD k := by
  cases y with
  | int i => exact ⟨.inl i, rfl⟩
  | str x => exact ⟨.inr x, rfl⟩
  | _ => cases h
theorem keySs_ex : ∀ {ys : List D}, ys.all keyS = true → ∃ ks : List L2.Key, ys = ks.map kD
  | [], _ => ⟨[], rfl⟩
  | y :: ys, h => by
    rw [List.all_cons, Bool.and_eq_true] at h
    obtain ⟨k, rfl⟩ := keyS_ex h.1
    obtain ⟨ks, rfl⟩ := keySs_ex h.2
    exact ⟨k :: ks, rfl⟩
theorem keyT_ex {y : D} (h : keyT y = true) : ∃ ks : List L2.Key, ks ≠ [] ∧ y = .tup (ks.map kD) := by
  cases y with
  | tup xs =>
    cases xs with
    | nil => cases h
    | cons x xs =>
      obtain ⟨ks, e⟩ := keySs_ex (show (x :: xs).all keyS = true from h)
      exact ⟨ks, ⟨fun z => (by subst z; cases e), by rw [e]⟩⟩
  | _ => cases h
/-- a tuple key's address -/
theorem key_addr {ks : List L2.Key} {v : V} (hn : ks ≠ []) (r : Rp Z G as (.tup (ks.map kD)) v) : ∃ b, v = .ref b ∧ G b = some (.tup (ks.map kV)) := by
  unfold Rp at r
  obtain ⟨a, vs, rfl, h1, h2⟩ := r
  have e := rps_kD h2
  subst e
  exact ⟨a, rfl, h1.2 fun z => hn (List.map_eq_nil_iff.mp z)⟩
def OptR (Z : Zt) (G : Hp) (as : List Addr) : Option D → Option V → Prop
  | some d, some v => Rp Z G as d v
  | none, none => True
  | _, _ => False
theorem kfind_rel {κ : Type} [DecidableEq κ] (f : κ → D) (inj : ∀ a b, f a = f b → a = b) (k : κ) : ∀ {ps : List (κ × V)} {kvs : List (D × D)}, kvs.map (·.1) = ps.map (fun p => f p.1) → Rps Z G as (kvs.map (·.2)) (ps.map (·.2)) → OptR Z G as (kfind kvs (f k)) (valV ps k)
  | [], [], _, _ => trivial
  | [], _ :: _, h, _ => by cases h
  | _ :: _, [], h, _ => by cases h
  | (a, v) :: ps, (x, d) :: kvs, h, r => by
    rw [List.map_cons, List.map_cons] at h r
    injection h with h1 h2
    obtain ⟨v', r', e, r1, r2⟩ := r.cons_inv
    injection e with e1 e2
    subst e1 e2
    have h1 : x = f a := h1
    subst h1
    have ih := kfind_rel f inj k h2 r2
    unfold kfind valV at ih ⊢
    rw [List.find?_cons, List.find?_cons]
    by_cases q : a = k
    · subst q
      rw [eqd_self]
      simp only [decide_true]
      exact r1
    · rw [show eqd (f a) (f k) = false from by
        rw [Bool.eq_false_iff]; intro z; exact q (inj _ _ (eqd_iff.mp z))]
      simp only [q, decide_false]
      exact ih
theorem DctR.get {t : Bool} {kvs : List (D × D)} {o : HO} {H : Hp} {a : Addr} {y : D} {vy : V} (h : DctR Z G as t kvs o) (ha : H a = some o) (e : Ex G H) (hy : keyOk t y = true) (ry : Rp Z G as y vy) : ∃ r, DGet H a vy r ∧ OptR Z G as (kfind kvs y) r := by
  cases o <;> first | exact h.elim | skip
  · rename_i ps
    obtain ⟨rfl, h1, h2⟩ := h
    obtain ⟨k, rfl⟩ := keyS_ex (show keyS y = true from hy)
    rw [rp_kD.mp ry]
    exact ⟨_, DGet.k ha, kfind_rel kD (fun a b => kD_inj) k h1 h2⟩
  · rename_i ps
    obtain ⟨rfl, h1, h2⟩ := h
    obtain ⟨ks, hn, rfl⟩ := keyT_ex (show keyT y = true from hy)
    obtain ⟨b, rfl, hb⟩ := key_addr hn ry
    exact ⟨_, DGet.t ha (e _ _ hb), kfind_rel (fun ks : List L2.Key => D.tup (ks.map kD)) (fun a b z => by injection z with z; exact kDs_inj z) ks h1 h2⟩
theorem kput_rel {κ : Type} [DecidableEq κ] (f : κ → D) (inj : ∀ a b, f a = f b → a = b) (k : κ) {d : D} {v : V} (rv : Rp Z G as d v) {ps : List (κ × V)} {kvs : List (D × D)} (h : kvs.map (·.1) = ps.map (fun p => f p.1)) (r : Rps Z G as (kvs.map (·.2)) (ps.map (·.2))) : (kput kvs (f k) d).map (·.1) = (putK ps k v).map (fun p => f p.1) ∧ Rps Z G as ((kput kvs (f k) d).map (·.2)) ((putK ps k v).map (·.2)) := by
  have ee : ∀ a, eqd (f a) (f k) = decide (a = k) := fun a => by
    by_cases q : a = k
    · subst q; rw [eqd_self]; simp
    · rw [show eqd (f a) (f k) = false from by rw [Bool.eq_false_iff]; intro z; exact q (inj _ _ (eqd_iff.mp z))]
      simp [q]
  have any : (kvs.any fun p => eqd p.1 (f k)) = (ps.any fun p => decide (p.1 = k)) := by
    have e1 : (kvs.any fun p => eqd p.1 (f k)) = (kvs.map (·.1)).any fun x => eqd x (f k) := by rw [List.any_map]; rfl
    rw [e1, h, List.any_map]
    congr 1
    funext p
    exact ee p.1
  unfold kput putK
  rw [any]
  by_cases q : (ps.any fun p => decide (p.1 = k)) = true
  · rw [if_pos q, if_pos q]
    clear q any
    induction ps generalizing kvs with
    | nil =>
      cases kvs with
      | nil => exact ⟨rfl, r⟩
      | cons _ _ => cases h
    | cons p ps ih =>
      cases kvs with
      | nil => cases h
      | cons x kvs =>
        obtain ⟨a, u⟩ := p
        obtain ⟨y, z⟩ := x
        rw [List.map_cons, List.map_cons] at h r
        injection h with h1 h2
        obtain ⟨v', r', e, r1, r2⟩ := r.cons_inv
        injection e with e1 e2
        subst e1 e2
        have h1 : y = f a := h1
        subst h1
        obtain ⟨i1, i2⟩ := ih h2 r2
        simp only [List.map_cons, ee]
        by_cases q : a = k
        · simp only [q, decide_true, if_pos]
          exact ⟨by rw [i1], .cons rv i2⟩
        · simp only [q, decide_false]
          exact ⟨by simpa using i1, .cons r1 (by simpa using i2)⟩
  · rw [if_neg q, if_neg q]
    rw [List.map_append, List.map_append, List.map_append, List.map_append, h]
    exact ⟨rfl, r.append (.cons rv .nil)⟩
theorem merge_rel : ∀ {more : List (List L2.Key × V)} {ps : List (D × D)} {kvs : List (D × D)} {qs : List (List L2.Key × V)}, ps.map (·.1) = more.map (fun p => D.tup (p.1.map kD)) → Rps Z G as (ps.map (·.2)) (more.map (·.2)) → kvs.map (·.1) = qs.map (fun p => D.tup (p.1.map kD)) → Rps Z G as (kvs.map (·.2)) (qs.map (·.2)) →
    (ps.foldl (fun acc p => kput acc p.1 p.2) kvs).map (·.1) = (mergeT qs more).map (fun p => D.tup (p.1.map kD)) ∧ Rps Z G as ((ps.foldl (fun acc p => kput acc p.1 p.2) kvs).map (·.2)) ((mergeT qs more).map (·.2))
  | [], [], kvs, qs, _, _, h, r => ⟨h, r⟩
  | [], _ :: _, _, _, h, _, _, _ => by cases h
  | _ :: _, [], _, _, h, _, _, _ => by cases h
  | (a, v) :: more, (x, d) :: ps, kvs, qs, h1, r1, h, r => by
    rw [List.map_cons, List.map_cons] at h1 r1
    injection h1 with e1 e2
    obtain ⟨v', r', e, k1, k2⟩ := r1.cons_inv
    injection e with e3 e4
    subst e3 e4
    have e1 : x = D.tup (a.map kD) := e1
    subst e1
    obtain ⟨i1, i2⟩ := kput_rel (fun ks : List L2.Key => D.tup (ks.map kD)) (fun a b z => by injection z with z; exact kDs_inj z) a k1 h r
    exact merge_rel (more := more) (ps := ps) e2 k2 i1 i2
end
section
variable {Z : Ze} {C : CF} {k : Nat} {N : List Str} {X : Cx} {sc : Scope} {W : WX}
/-- a new cell -/
theorem Sim.newCell {cf : Cfg} {s : List S} {m : Mu} {τ : L2.St} {H : Hp} {p : Addr} {o : HO} {cl : Cell} (S1 : Sim Z.toZt cf s m τ H) (hp : H p = none) (hc : CellOk Z.toZt cf (upd H p o) p cl) : Sim Z.toZt (cf.more p) s (m ++ [cl]) τ (upd H p o) ∧ Rp Z.toZt (cf.more p).G (cf.more p).as (.ref m.length) (.ref p) := by
  obtain ⟨h1, h2, h3⟩ := S1.fresh hp
  refine ⟨(S1.new (o := o) hp).push hc h1 h2 h3, ?_⟩
  unfold Rp
  refine ⟨p, ?_, rfl⟩
  show (cf.as ++ [p])[m.length]? = some p
  rw [← S1.la, List.getElem?_append_right (Nat.le_refl _)]
  simp
theorem noSl_get {i : Expr} (h : noSl i = true) : NoSl i := by
  intro ov iv
  cases i <;> first | rfl | cases h
/-- the dict that a value is -/
theorem dct_at {cf : Cfg} {s : List S} {m : Mu} {τ : L2.St} {H : Hp} (S1 : Sim Z.toZt cf s m τ H) {x : D} {vx : V} {t : Bool} {kvs : List (D × D)} (rx : Rep Z.toZt cf s x vx) (e : dctOf m x = some (t, kvs)) : ∃ a o, vx = .ref a ∧ H a = some o ∧ DctR Z.toZt cf.G cf.as t kvs o := by
  cases x with
  | ref j =>
    have e : (match m[j]? with
      | some (.dct t kvs) => some (t, kvs)
      | _ => none) = some (t, kvs) := e
    have r' : Rp Z.toZt cf.G cf.as (.ref j) vx := rx
    unfold Rp at r'
    obtain ⟨a, e0, rfl⟩ := r'
    cases w : m[j]? with
    | none => rw [w] at e; cases e
    | some cl =>
      rw [w] at e
      cases cl with
      | dct t' kvs' =>
        cases e
        obtain ⟨o, h1, h2⟩ := S1.cell j _ a w e0
        exact ⟨a, o, rfl, h1, h2⟩
      | _ => cases e
  | _ => cases e
theorem keyNb {t : Bool} {y : D} (h : keyOk t y = true) : y.isBor = false := by
  cases y <;> first | rfl | (cases t <;> cases h)
theorem case_dge {a i : IE} (ha : SE Z C k a) (hi : SE Z C k i) : SE Z C k (.dge a i) := by
  intro N X sc W c e h
  unfold chkE at h
  split at h
  · rename_i x y p
    simp only [Bool.and_eq_true] at h
    obtain ⟨h1, h2, h3⟩ := h
    have hp : PE X (.Subscript x y p) (tE Z W (ev Z.T C (.dge a i))) := by
      refine PE.of (pe_dget (by have := c.room.units; omega) (ha c x h1).1 (hi c y h2).1 (noSl_get h3)) fun σ H Q q => ?_
      obtain ⟨cf, s, m, S1, q⟩ := q
      simp only [ev] at q
      refine ⟨cf, s, m, S1, q.bind fun x m1 c1 vx H1 l1 S2 rx q2 => ⟨c1, s, m1, S2, q2.bind fun y m2 c2 vy H2 l2 S3 ry q3 => ?_⟩⟩
      cases w : dctOf m2 x with
      | none => rw [w] at q3; exact q3.elim
      | some tk =>
        obtain ⟨t, kvs⟩ := tk
        rw [w] at q3
        have q3 : Out Z W (RelD Z) c2 s σ (if keyOk t y = true then R.ofO (kfind kvs y) m2 else .bad) Q := q3
        split at q3
        · rename_i hk
          obtain ⟨b, o, rfl, g1, g2⟩ := dct_at S3 (rx.mono l2) w
          obtain ⟨r, d1, d2⟩ := g2.get g1 S3.exG hk (ry.rp (keyNb hk))
          cases w2 : kfind kvs y with
          | none => rw [w2] at q3; exact q3.elim
          | some d =>
            rw [w2] at q3 d2
            cases r with
            | none => exact d2.elim
            | some v => exact ⟨b, v, rfl, d1, q3.done S3 (Rep.of d2)⟩
        · exact q3.elim
    exact ⟨hp, test_of c hp fun _ => rfl⟩
  · cases h
theorem nomark_of' {N : List Str} {sc : Scope} {a : IE} {e : Expr} {op : CmpOp} (h : chkE Z N a sc e = true) : behindInMarks op e = false := nomark_of h
theorem case_din {n : Bool} {x a : IE} (hx : SE Z C k x) (ha : SE Z C k a) : SE Z C k (.din n x a) := by
  intro N X sc W c e h
  unfold chkE at h
  split at h
  · rename_i l op r p
    simp only [Bool.and_eq_true] at h
    obtain ⟨h1, h2, h3⟩ := h
    have hu : X.A.units + 1 < cLine := by have := c.room.units; omega
    have red : ∀ {σ : L2.St} {H : Hp} {Q : VK}, tE Z W (ev Z.T C (.din n x a)) σ H Q → tE Z W (ev Z.T C x) σ H fun y H1 => tE Z W (ev Z.T C a) σ H1 fun vx H2 => ∃ b o, vx = .ref b ∧ DGet H2 b y o ∧ Q (.bl (o.isSome != n)) H2 := fun {σ H Q} q => by
      obtain ⟨cf, s, m, S1, q⟩ := q
      simp only [ev] at q
      refine ⟨cf, s, m, S1, q.bind fun y m1 c1 vy H1 l1 S2 ry q2 => ⟨c1, s, m1, S2, q2.bind fun x m2 c2 vx H2 l2 S3 rx q3 => ?_⟩⟩
      cases w : dctOf m2 x with
      | none => rw [w] at q3; exact q3.elim
      | some tk =>
        obtain ⟨t, kvs⟩ := tk
        rw [w] at q3
        have q3 : Out Z W (RelD Z) c2 s σ (if keyOk t y = true then .ok (.bl ((kfind kvs y).isSome != n)) m2 else .bad) Q := q3
        split at q3
        · rename_i hk
          obtain ⟨b, o, rfl, g1, g2⟩ := dct_at S3 rx w
          obtain ⟨r, d1, d2⟩ := g2.get g1 S3.exG hk ((ry.mono l2).rp (keyNb hk))
          refine ⟨b, r, rfl, d1, ?_⟩
          have e : r.isSome = (kfind kvs y).isSome := by
            cases w2 : kfind kvs y <;> cases r <;> rw [w2] at d2 <;> first | rfl | exact d2.elim
          rw [e]
          exact q3.done S3 (rep_bl.mpr rfl)
        · exact q3.elim
    have tst : ∀ {σ : L2.St} {H : Hp} {Q : Bool → Hp → Prop}, tT Z W (tru Z.T C (.din n x a)) σ H Q → tE Z W (ev Z.T C (.din n x a)) σ H fun v H1 => ∃ k, v = .bl k ∧ Q k H1 := fun {σ H Q} q => by
      obtain ⟨cf, s, m, S1, q⟩ := q
      refine ⟨cf, s, m, S1, out_tru q fun d m' e => ?_⟩
      simp only [ev] at e
      obtain ⟨y, m1, _, e⟩ := bind_ok_inv e
      obtain ⟨z, m2, _, e⟩ := bind_ok_inv e
      split at e
      · split at e
        · cases e; exact ⟨_, rfl⟩
        · cases e
      · cases e
    have fin : ∀ {op : CmpOp} {n' : Bool} (tt : TE), n' = n → PC X op l r tt → (∀ σ H Q, (tE Z W (ev Z.T C x) σ H fun y H1 => tE Z W (ev Z.T C a) σ H1 fun vx H2 => ∃ b o, vx = .ref b ∧ DGet H2 b y o ∧ Q (.bl (o.isSome != n)) H2) → tt σ H Q) → PE X (.Compare l [op] [r] p) (tE Z W (ev Z.T C (.din n x a))) ∧ PT X (.Compare l [op] [r] p) (tT Z W (tru Z.T C (.din n x a))) := fun {op n'} tt _ pc hq =>
      ⟨PE.of (pe_cmp pc (nomark_of h3)) fun σ H Q q => hq _ _ _ (red q), PT.of (pt_cmp pc (nomark_of h3)) fun σ H Q q => hq _ _ _ (red (tst q))⟩
    cases n with
    | false =>
      cases op <;> first | (cases h1; done) | skip
      refine fin (n' := false) _ rfl (pc_din hu (hx c l h2).1 (ha c r h3).1) fun σ H Q q => ?_
      obtain ⟨cf, s, m, S1, q⟩ := q
      refine ⟨cf, s, m, S1, q.imp fun y H1 q2 => ?_⟩
      obtain ⟨cf, s, m, S1, q⟩ := q2
      refine ⟨cf, s, m, S1, q.imp fun vx H2 q3 => ?_⟩
      obtain ⟨b, o, h4, h5, h6⟩ := q3
      exact ⟨b, o, h4, h5, by simpa using h6⟩
    | true =>
      cases op <;> first | (cases h1; done) | skip
      refine fin (n' := true) _ rfl (pc_dnotin hu (hx c l h2).1 (ha c r h3).1) fun σ H Q q => ?_
      obtain ⟨cf, s, m, S1, q⟩ := q
      refine ⟨cf, s, m, S1, q.imp fun y H1 q2 => ?_⟩
      obtain ⟨cf, s, m, S1, q⟩ := q2
      refine ⟨cf, s, m, S1, q.imp fun vx H2 q3 => ?_⟩
      obtain ⟨b, o, h4, h5, h6⟩ := q3
      exact ⟨b, o, h4, h5, by simpa using h6⟩
  · cases h
/-- the pairs of a list -/
theorem pairs_rel {cf : Cfg} : ∀ {xs : List D} {vs : List V} {ps : List (D × D)}, pairsOf xs = some ps → Rps Z.toZt cf.G cf.as xs vs → ∃ (as : List Addr) (kvs : List (List L2.Key × V)), vs = as.map V.ref ∧ Paired (fun p (kv : List L2.Key × V) => ∃ b, SqT Z.K cf.G p [.ref b, kv.2] ∧ cf.G b = some (.tup (kv.1.map kV))) as kvs ∧
    ps.map (·.1) = kvs.map (fun p => D.tup (p.1.map kD)) ∧ Rps Z.toZt cf.G cf.as (ps.map (·.2)) (kvs.map (·.2))
  | [], vs, ps, h, r => by
    cases h
    rw [r.nil_inv]
    exact ⟨[], [], rfl, .nil, rfl, .nil⟩
  | x :: xs, vs, ps, h, r => by
    obtain ⟨v, vs', rfl, r1, r2⟩ := r.cons_inv
    unfold pairsOf at h
    split at h
    · cases ‹x :: xs = []›
    · rename_i k v2 r' e
      cases e
      split at h
      · rename_i hk
        obtain ⟨ps', e1, rfl⟩ := Option.map_eq_some_iff.mp h
        obtain ⟨as, kvs, rfl, f1, f2, f3⟩ := pairs_rel e1 r2
        unfold Rp at r1
        obtain ⟨a, us, rfl, g1, g2⟩ := r1
        obtain ⟨w1, us1, rfl, g3, g4⟩ := g2.cons_inv
        obtain ⟨w2, us2, rfl, g5, g6⟩ := g4.cons_inv
        rw [g6.nil_inv] at g1
        obtain ⟨ks, hn, rfl⟩ := keyT_ex hk
        obtain ⟨b, rfl, hb⟩ := key_addr hn g3
        exact ⟨a :: as, (ks, w2) :: kvs, rfl, .cons ⟨b, g1.1, hb⟩ f1, by rw [List.map_cons, List.map_cons, f2], .cons g5 f3⟩
      · cases h
    · cases h
theorem paired_mono {α β : Type} {R R' : α → β → Prop} (f : ∀ a b, R a b → R' a b) : ∀ {xs : List α} {ys : List β}, Paired R xs ys → Paired R' xs ys
  | _, _, .nil => .nil
  | _, _, .cons h t => .cons (f _ _ h) (paired_mono f t)
theorem case_dpr {a : IE} (ha : SE Z C k a) : SE Z C k (.dpr a) := by
  intro N X sc W c e h
  unfold chkE at h
  split at h
  · rename_i x p o pos
    simp only [Bool.and_eq_true, decide_eq_true_eq] at h
    obtain ⟨⟨rfl, h2⟩, h3⟩ := h
    obtain ⟨g1, g2, g3⟩ := c.gl h2
    have hp : PE X (.Call (.Name "dict" p) [o] [] pos) (tE Z W (ev Z.T C (.dpr a))) := by
      refine PE.of (pe_callTy (call_dictT c.calm (by have := c.room.units; omega)) g1 (c.txt.blt _ (by decide +kernel)) (show bootBuiltins (Str.ofString "dict") = _ by decide +kernel) (pa_cons (ha c o h3).1 pa_nil (star_one (noStar h3))) g3 g2 (star_one (noStar h3)) rfl) fun σ H Q q => ?_
      obtain ⟨cf, s, m, S1, q⟩ := q
      simp only [ev] at q
      refine ⟨cf, s, m, S1, q.bind fun x m1 c1 vx H1 l S2 rx q2 => ?_⟩
      cases w : lstOf m1 x with
      | none => rw [w] at q2; exact q2.elim
      | some xs =>
        rw [w] at q2
        cases w2 : pairsOf xs with
        | none =>
          have q2 : Out Z W (RelD Z) c1 s σ (match pairsOf xs with
            | some ps => .ok (.ref m1.length) (m1 ++ [.dct true (ps.foldl (fun acc p => kput acc p.1 p.2) [])])
            | none => .bad) Q := q2
          rw [w2] at q2; exact q2.elim
        | some ps =>
          have q2 : Out Z W (RelD Z) c1 s σ (match pairsOf xs with
            | some ps => .ok (.ref m1.length) (m1 ++ [.dct true (ps.foldl (fun acc p => kput acc p.1 p.2) [])])
            | none => .bad) Q := q2
          rw [w2] at q2
          obtain ⟨a1, vs, rfl, k1, k2⟩ := S2.lstOf rx w
          obtain ⟨as, kvs, rfl, f1, f2, f3⟩ := pairs_rel w2 k2
          refine ⟨a1, as, kvs, rfl, by rw [c.eK]; exact k1, paired_mono (fun p kv z => ?_) f1, fun pd hpd => ?_⟩
          · obtain ⟨b, z1, z2⟩ := z
            exact ⟨b, by rw [c.eK]; exact S2.exG.sqT z1, S2.exG _ _ z2⟩
          · obtain ⟨i1, i2⟩ := merge_rel (kvs := []) (qs := []) f2 f3 rfl .nil
            obtain ⟨S3, r3⟩ := S2.newCell (o := .dT (mergeT [] kvs)) (cl := .dct true (ps.foldl (fun acc p => kput acc p.1 p.2) [])) hpd ⟨_, upd_same, rfl, i1, i2⟩
            exact q2.to Cfg.le_more S3 (Rep.of r3)
    exact ⟨hp, test_of c hp fun _ => rfl⟩
  · cases h
/-- written pairs -/
theorem dl_pps {X : Cx} {pos : Pos} : ∀ {kvs : List (Str × Int)} {ks : List (Option Expr)} {vs : List Expr}, chkDl kvs ks vs = true → PPs X pos ks vs (kvs.map fun p => (tC (.str p.1), tC (.int p.2))) ∧ ks.all (·.isSome) = true ∧ ks.length = kvs.length ∧ vs.length = kvs.length
  | [], ks, vs, h => by
    unfold chkDl at h
    rw [Bool.and_eq_true, List.isEmpty_iff, List.isEmpty_iff] at h
    obtain ⟨rfl, rfl⟩ := h
    exact ⟨pps_nil, rfl, rfl, rfl⟩
  | (x, i) :: kvs, ks, vs, h => by
    unfold chkDl at h
    split at h
    · simp only [Bool.and_eq_true, decide_eq_true_eq] at h
      obtain ⟨⟨rfl, rfl⟩, h⟩ := h
      obtain ⟨h1, h2, h3, h4⟩ := dl_pps (pos := pos) (X := X) h
      exact ⟨pps_cons pe_str pe_int h1, by simpa using h2, by simp [h3], by simp [h4]⟩
    · cases h
theorem dl_pairs : ∀ (kvs : List (Str × Int)) (σ : L2.St) (H : Hp) (Q : List (V × V) → Hp → Prop), Q (kvs.map fun p => (V.str p.1, V.int p.2)) H → tPairs (kvs.map fun p => (tC (.str p.1), tC (.int p.2))) σ H Q
  | [], _, _, _, q => q
  | p :: kvs, σ, H, Q, q => by
    show tC (.str p.1) σ H fun x H1 => tC (.int p.2) σ H1 fun y H2 => tPairs _ σ H2 fun ps H3 => Q ((x, y) :: ps) H3
    exact dl_pairs kvs σ H _ q
theorem merge_new : ∀ {more kvs : List (L2.Key × V)}, ((kvs ++ more).map (·.1)).Nodup → mergeK kvs more = kvs ++ more
  | [], kvs, _ => by rw [List.append_nil]; rfl
  | p :: more, kvs, h => by
    have e : valV kvs p.1 = none := by
      cases q : valV kvs p.1 with
      | none => rfl
      | some v =>
        exfalso
        unfold valV at q
        obtain ⟨x, e1, e2⟩ := Option.map_eq_some_iff.mp q
        have m := List.mem_of_find?_eq_some e1
        have e3 := List.find?_some e1
        have e3 : x.1 = p.1 := by simpa using e3
        rw [List.map_append, List.nodup_append] at h
        exact h.2.2 x.1 (List.mem_map.mpr ⟨x, m, rfl⟩) p.1 (by simp) e3
    show mergeK (putK kvs p.1 p.2) more = _
    rw [putK_new _ e, merge_new (by rw [List.append_assoc]; exact h), List.append_assoc]
    rfl
theorem case_dlt {kvs : List (Str × Int)} : SE Z C k (.dlt kvs) := by
  intro N X sc W c e h
  unfold chkE at h
  split at h
  · rename_i ks vs pos
    have hp : PE X (.Dict ks vs pos) (tE Z W (ev Z.T C (.dlt kvs))) := by
      obtain ⟨h1, h2, h3, h4⟩ := dl_pps (X := X) (pos := pos) h
      by_cases hz : kvs ≠ [] ∧ kvs.length ≤ 15 ∧ (kvs.map (·.1)).Nodup
      · obtain ⟨z1, z2, z3⟩ := hz
        refine PE.of (pe_disp h1 h2 (by rw [h3, h4]) (fun z => z1 (List.eq_nil_of_length_eq_zero (by rw [← h3, z]; rfl))) (by rw [h3]; exact z2)) fun σ H Q q => ?_
        obtain ⟨cf, s, m, S1, q⟩ := q
        simp only [ev] at q
        intro pd hpd
        refine dl_pairs kvs σ _ _ ⟨upd_same, kvs.map fun p => (.inr p.1, .int p.2), by rw [List.map_map]; rfl, by rw [List.length_map]; exact z2, ?_⟩
        rw [upd_upd, merge_new (by
          rw [List.nil_append, List.map_map]
          have : (kvs.map (·.1)).map Sum.inr = kvs.map ((fun x => x.1) ∘ fun p : Str × Int => ((Sum.inr p.1 : L2.Key), V.int p.2)) := by rw [List.map_map]; rfl
          rw [← this]
          exact z3.map _ (fun a b hab z => hab (by injection z)))]
        split at q
        · have rr : ∀ l : List (Str × Int), Rps Z.toZt cf.G cf.as (l.map fun p => D.int p.2) (l.map fun p => V.int p.2) := fun l => by
            induction l with
            | nil => exact .nil
            | cons p l ih => exact .cons (by unfold Rp; rfl) ih
          obtain ⟨S3, r3⟩ := S1.newCell (o := .dK ([] ++ kvs.map fun p => (.inr p.1, .int p.2))) (cl := .dct false (kvs.map fun p => (.str p.1, .int p.2))) hpd ⟨_, upd_same, rfl, by rw [List.nil_append, List.map_map, List.map_map]; rfl, by
            rw [List.nil_append, List.map_map, List.map_map]; exact rr kvs⟩
          exact q.to Cfg.le_more S3 (Rep.of r3)
        · exact q.elim
      · refine PE.of (t := fun _ _ _ => False) ⟨fun _ _ _ _ _ _ z => z.elim⟩ fun σ H Q q => ?_
        obtain ⟨cf, s, m, S1, q⟩ := q
        simp only [ev] at q
        rw [if_neg hz] at q
        exact q
    exact ⟨hp, test_of c hp fun _ => rfl⟩
  · cases h
end
end Pm
end
end
section
set_option Elab.async false
set_option linter.all false
set_option maxRecDepth 100000
set_option maxHeartbeats 4000000
/-! Pm22: every expression. -/
noncomputable section
namespace Pm
open PySem PySem.Spec L2
structure Zok (Z : Ze) : Prop where
  mthp : ∀ c n f, Z.T.mth c n = some f → Z.pat f (Z.pars f) [] [] = true
  inif : ∀ c f, Z.T.ini c = some f → Z.fsh f = false
section
variable {Z : Ze} {C : CF} {k : Nat}
abbrev SrtAll (Z : Ze) (C : CF) (k : Nat) : Prop := (∀ a, SE Z C k a → SF Z C k (.srt a)) ∧ (∀ a, SE Z C k a → SF Z C k (.sst a)) ∧ ∀ f a, SE Z C k a → SF Z C k (.slf f a)
theorem case_nev : SE Z C k .nev := by
  intro N X sc W c e h
  exact ⟨⟨fun _ _ _ _ _ _ q => (show False from let ⟨_, _, _, _, o⟩ := q; o).elim⟩, ⟨fun _ _ _ _ _ _ q => (show False from let ⟨_, _, _, _, o⟩ := q; o).elim⟩⟩
theorem run_outF {N : List Str} {X : Cx} {sc : Scope} {W : WX} {σ : L2.St} {cf : Cfg} {s : List S} {r : R D} {Q : VK} (h : Out Z W (RelF Z) cf s σ (r.bind fun d m3 => (match d with
      | .lst zs => .ok zs m3
      | _ => .bad)) Q) : RunQ Z W cf s σ σ true Q r := by
  cases r with
  | ok d m1 =>
    intro c' v H' l S2 rr
    unfold RetRel at rr
    rw [if_pos rfl] at rr
    obtain ⟨zs, rfl, rf⟩ := rr
    exact Out.to (show Out Z W (RelF Z) cf s σ (.ok zs m1) Q from h) l S2 rf
  | exc x p m1 => exact h
  | bad => exact h
theorem case_cal {f : Nat} {as ks : IEs} {ds : List D} (ha : SEs Z C k as) (hk : SKs Z C k ks) : SF Z C k (.cal f as ks ds) := by
  intro N X sc W c e h
  unfold chkF at h
  split at h
  · rename_i x p args kws pos
    simp only [Bool.and_eq_true, decide_eq_true_eq] at h
    obtain ⟨⟨⟨h0, hf⟩, h1, h2⟩, ⟨h3, h4⟩, h5⟩ := h
    subst h1
    obtain ⟨g1, g2, g3⟩ := c.gl h2
    obtain ⟨e1, e2⟩ := c.txt.gfn f h0
    rw [← c.eK] at e2
    refine ⟨fun pins sh σ H Q I q => ?_⟩
    obtain ⟨cf, s, m, S1, q⟩ := q
    simp only [evF] at q
    refine wpAny_Call_Name_kw (ld_glob I g1 e1 ?_ g2)
    refine args_run c h3 h4 ha hk e2 (first := []) (g := fun xs ys m2 => if (xs.all fun x => !x.isBor) = true ∧ (ys.all fun x => !x.isBor) = true then (C f (xs ++ ys ++ ds) m2).bind fun d m3 => (match d with
      | .lst zs => .ok zs m3
      | _ => .bad) else .bad) I S1 q ?_
    intro cf' xs ys m' vs zs us ws H' sh' l I' S' rx ry rv rw' lu lw q'
    split at q'
    · rename_i hb
      have q2 := run_outF (N := N) (X := X) (sc := sc) q'
      exact c.run (c.fns _ _ _ _ h5) I' S' rv rw' (rx.rps hb.1) (ry.rps hb.2) lu lw (by rw [hf]; exact q2)
    · exact q'.elim
  · cases h
theorem rngV_of {G : Hp} {as : List Addr} : ∀ {lo : Int} {n : Nat}, Rps Z.toZt G as (rngD lo n) ((List.range n).map fun i => V.int (lo + (i : Nat))) := by
  intro lo n
  unfold rngD
  generalize List.range n = l
  induction l with
  | nil => exact .nil
  | cons i l ih => exact .cons (by unfold Rp; rfl) ih
theorem case_tpr {a : IE} (ha : SE Z C k a) : SE Z C k (.tpr a) := by
  intro N X sc W c e h
  unfold chkE at h
  split at h
  · rename_i x p y p2 o p3 pos
    simp only [Bool.and_eq_true, decide_eq_true_eq] at h
    obtain ⟨⟨⟨rfl, h1⟩, rfl, h2⟩, h3⟩ := h
    obtain ⟨g1, g2, g3⟩ := c.gl h1
    obtain ⟨k1, k2, k3⟩ := c.gl h2
    have hp : PE X (.Call (.Name "tuple" p) [.Call (.Name "range" p2) [o] [] p3] [] pos) (tE Z W (ev Z.T C (.tpr a))) := by
      refine PE.of (pe_tupRg c.calm g1 (c.txt.blt _ (by decide +kernel)) (prg_1 k1 (c.txt.blt _ (by decide +kernel)) (ha c o h3).1 (star_one (noStar h3)))) fun σ H Q q => ?_
      obtain ⟨cf, s, m, S1, q⟩ := q
      simp only [ev] at q
      refine ⟨cf, s, m, S1, q.bind fun x m1 c1 vx H1 l S2 rx q2 => ?_⟩
      split at q2
      · rename_i j
        have e := rep_int.mp rx
        subst e
        split at q2
        · rename_i hb
          have hl : lim = 100000 := rfl
          refine ⟨j, rfl, ⟨by omega, by omega, hb.1, hb.2.1, by have := hb.2.2; omega⟩, fun q hq => ?_⟩
          have e0 : rgV 0 j = (List.range j.toNat).map fun i => V.int ((0 : Int) + (i : Nat)) := by unfold rgV; rw [Int.sub_zero]
          exact out_tup S2 (by rw [e0]; exact rngV_of) q2 q hq
        · exact q2.elim
      · exact q2.elim
    exact ⟨hp, test_of c hp fun _ => rfl⟩
  · cases h
theorem case_lrg {a : IE} (ha : SE Z C k a) : SF Z C k (.lrg a) := by
  intro N X sc W c e h
  unfold chkF at h
  split at h
  · rename_i x p y p2 o p3 pos
    simp only [Bool.and_eq_true, decide_eq_true_eq] at h
    obtain ⟨⟨⟨rfl, h1⟩, rfl, h2⟩, h3⟩ := h
    obtain ⟨g1, g2, g3⟩ := c.gl h1
    obtain ⟨k1, k2, k3⟩ := c.gl h2
    refine PE.of (pe_listRg c.calm g1 (c.txt.blt _ (by decide +kernel)) (prg_1 k1 (c.txt.blt _ (by decide +kernel)) (ha c o h3).1 (star_one (noStar h3)))) fun σ H Q q => ?_
    obtain ⟨cf, s, m, S1, q⟩ := q
    simp only [evF] at q
    refine ⟨cf, s, m, S1, q.bind fun x m1 c1 vx H1 l S2 rx q2 => ?_⟩
    split at q2
    · rename_i j
      have e := rep_int.mp rx
      subst e
      split at q2
      · rename_i hb
        have hl : lim = 100000 := rfl
        refine ⟨j, rfl, ⟨by omega, by omega, hb.1, hb.2.1, by have := hb.2.2; omega⟩, fun q hq => ?_⟩
        have e0 : rgV 0 j = (List.range j.toNat).map fun i => V.int ((0 : Int) + (i : Nat)) := by unfold rgV; rw [Int.sub_zero]
        exact out_fre S2 (by rw [e0]; exact rngV_of) q2 q hq
      · exact q2.elim
    · exact q2.elim
  · cases h
variable (zo : Zok Z) (SA : SrtAll Z C k)
include zo SA
mutual
theorem allE : ∀ a : IE, SE Z C k a
  | .var i => case_var
  | .con d => case_con
  | .glb g => case_glb
  | .bop o a b => case_bop (allE a) (allE b)
  | .neg a => case_neg (allE a)
  | .cmp o a b => case_cmp (eq_all Z C k) (allE a) (allE b)
  | .chn o p a b c => case_chn (eq_all Z C k) (allE a) (allE b) (allE c)
  | .bol kk as => case_bol (allBs as)
  | .not_ a => case_not (allE a)
  | .ite t a b => case_ite (allE t) (allE a) (allE b)
  | .att a f => case_att (allE a)
  | .sub a i => case_sub (allE a) (allE i)
  | .slc a lo hi => case_slc (allE a) (allE lo) (allE hi)
  | .tup as => case_tup (allEs as)
  | .call f as ks ds => case_call (allEs as) (allKs ks)
  | .meth a m as => case_meth (allE a) (allEs as) zo.mthp
  | .new c as ks ds => case_new (allEs as) (allKs ks) zo.inif
  | .bif b as => case_bif (allEs as)
  | .isi a ts => case_isi (allE a)
  | .dpr a => case_dpr (allE a)
  | .dlt kvs => case_dlt
  | .dge a i => case_dge (allE a) (allE i)
  | .din n x a => case_din (allE x) (allE a)
  | .fst as => case_fst (allFs as)
  | .frz f => case_frz (allF f)
  | .cel f => case_cel (allF f)
  | .nev => case_nev
  | .tpr a => case_tpr (allE a)
theorem allEs : ∀ as : IEs, SEs Z C k as
  | .nil => es_nil
  | .cons a r => es_cons (allE a) (allEs r)
theorem allKs : ∀ as : IEs, SKs Z C k as
  | .nil => ks_nil
  | .cons a r => ks_cons (allE a) (allKs r)
theorem allBs : ∀ as : IEs, SBs Z C k as
  | .nil => bs_nil
  | .cons a r => bs_cons (allE a) (allBs r)
theorem allFs : ∀ as : IEs, SFs Z C k as
  | .nil => fs_nil
  | .cons a r => fs_cons (allE a) (allFs r)
theorem allTs : ∀ as : IEs, STs Z C k as
  | .nil => sts_nil
  | .cons a r => sts_cons (allE a)
theorem allF : ∀ f : FE, SF Z C k f
  | .lst as => case_fl (allEs as)
  | .lc own tg it cs e => case_lc (allI it) (allTs cs) (allE e)
  | .lc2 own tg it ow1 tg1 it1 e => case_lc2 (allI it) (allI it1) (allE e)
  | .lis a => case_lis (allE a)
  | .srt a => SA.1 a (allE a)
  | .sst a => SA.2.1 a (allE a)
  | .slf f a => SA.2.2 f a (allE a)
  | .cut a lo hi => case_cut (allE a) (allE lo) (allE hi)
  | .cat a b => case_cat (allE a) (allE b)
  | .cal f as ks ds => case_cal (allEs as) (allKs ks)
  | .lrg a => case_lrg (allE a)
  | .rep a n => case_rep (allE a) (allE n)
theorem allI : ∀ it : It, SI Z C k it
  | .exp a => case_iexp (allE a)
  | .rng a => case_irng (allE a)
  | .rng2 a b => case_irng2 (allE a) (allE b)
  | .zip a b => case_izip (allE a) (allE b)
  | .enu a => case_ienu (allE a)
end
end
end Pm
end
end
section
set_option Elab.async false
set_option linter.all false
set_option maxRecDepth 100000
set_option maxHeartbeats 4000000
/-! Pm23: statements: what is wanted, the check against the text. -/
noncomputable section
namespace Pm
open PySem PySem.Spec L2
structure CokS (Z : Ze) (C : CF) (k : Nat) (N : List Str) (X : Cx) (sc : Scope) (W : WX) : Prop extends Cok Z C k N X sc W where
  bnd : Bnd X sc
  pas : PassesOwn (model X.prog X.w) X.A X.env X.xe
  knd : sc.kind = .function
  stk : X.stack = X.env :: X.outer
  frm : X.env.frame = some X.env.locals
def OutS (Z : Ze) (W : WX) (fr : Bool) (c : Cfg) (r : RS) (D : Ends) : Prop := match r with
  | .nx s m => ∀ c' σ' H', c.leS c' → Sim Z.toZt c' s m σ' H' → D.nx σ' H'
  | .bk s m => ∀ c' σ' H', c.leS c' → Sim Z.toZt c' s m σ' H' → D.bk σ' H'
  | .ct s m => ∀ c' σ' H', c.leS c' → Sim Z.toZt c' s m σ' H' → D.ct σ' H'
  | .rt d m => ∀ c' v H', c.leS c' → c'.os = [] → Sim Z.toZt c' [] m [] H' → RetRel Z fr c' d v H' → D.rt v H'
  | .exc x p s m => ∀ c' σ' cls dd H', c.leS c' → Sim Z.toZt c' s m σ' H' → XRep Z.toZt Z.ecl Z.efd c' x p cls dd H' → W cls dd σ' H'
  | .bad => False
section
variable {α β : Type} {Z : Ze} {W : WX} {fr : Bool} {Rel : Cfg → List S → α → β → Hp → Prop} {c c' : Cfg} {s : List S} {m : Mu} {σ : L2.St} {H : Hp} {D : Ends}
theorem OutS.mono {r : RS} (l : c.leS c') (h : OutS Z W fr c r D) : OutS Z W fr c' r D := by
  cases r with
  | nx s m => exact fun c2 σ H' l2 => h c2 σ H' (l.trans l2)
  | bk s m => exact fun c2 σ H' l2 => h c2 σ H' (l.trans l2)
  | ct s m => exact fun c2 σ H' l2 => h c2 σ H' (l.trans l2)
  | rt d m => exact fun c2 v H' l2 => h c2 v H' (l.trans l2)
  | exc x p s m => exact fun c2 σ cls dd H' l2 => h c2 σ cls dd H' (l.trans l2)
  | bad => exact h
theorem OutS.toS {r : R α} {f : α → Mu → RS} (h : OutS Z W fr c (r.toS s f) D) {Q : β → Hp → Prop}
    (k : ∀ a m c1 b H1, c.le c1 → Sim Z.toZt c1 s m σ H1 → Rel c1 s a b H1 → OutS Z W fr c1 (f a m) D → Q b H1) : Out Z W Rel c s σ r Q := by
  cases r with
  | ok a m => exact fun c1 b H1 l S1 r1 => k a m c1 b H1 l S1 r1 (OutS.mono l.s h)
  | exc x p m => exact fun c1 cls dd H1 l S1 xr => h c1 σ cls dd H1 l.s S1 xr
  | bad => exact h
end
def tS (Z : Ze) (W : WX) (fr : Bool) (f : List S → Mu → RS) : TS := fun D σ H => ∃ c s m, Sim Z.toZt c s m σ H ∧ OutS Z W fr c (f s m) D
theorem PSs.of {X : Cx} {e : List Stmt} {t t' : TS} (h : PSs X e t) (k : ∀ σ H D, t' D σ H → t D σ H) : PSs X e t' := ⟨fun pins s σ H D I q => h.run pins s σ H D I (k σ H D q)⟩
/-! ### own lists -/
section
variable {Z : Zt} {c c' : Cfg} {s : List S} {m : Mu} {σ : L2.St} {H H' : Hp}
def Cfg.own (c : Cfg) (i : Nat) (a : Addr) : Cfg := { c with os := c.os.set i (some a) }
theorem Cfg.leS_own {i : Nat} {a : Addr} : c.leS (c.own i a) := ⟨Ex.rfl', rfl, List.prefix_refl _⟩
theorem own_perm {a : Addr} : ∀ {o : List (Option Addr)} {i : Nat}, i < o.length → ((o.set i (some a)).filterMap id).Perm (a :: (o.set i none).filterMap id)
  | [], i, h => by simp at h
  | x :: o, 0, _ => List.Perm.refl _
  | none :: o, i + 1, h => by
    show ((o.set i (some a)).filterMap id).Perm (a :: (o.set i none).filterMap id)
    exact own_perm (by simpa using h)
  | some b :: o, i + 1, h => by
    show (b :: (o.set i (some a)).filterMap id).Perm (a :: b :: (o.set i none).filterMap id)
    exact ((own_perm (a := a) (o := o) (i := i) (by simpa using h)).cons b).trans (List.Perm.swap _ _ _)
/-- a new list goes into a slot -/
theorem Sim.storeO {i : Nat} {a : Addr} {xs : List D} {vs : List V} (S1 : Sim Z c s m σ H) (ha : H a = some (.lst vs)) (r : Rps Z c.G c.as xs vs) (hg : c.G a = none) (hf : c.F a = none) (ht : ¬ Trk c a) (hi : i < s.length) :
    Sim Z (c.own i a) (s.set i (.own xs)) m (σ.set i (some (.ref a))) H := by
  have io : i < c.os.length := by rw [S1.lo]; exact hi
  refine ⟨S1.exG, S1.exF, S1.gf, by rw [List.length_set, List.length_set]; exact S1.ls, by show (c.os.set i (some a)).length = _; rw [List.length_set, List.length_set]; exact S1.lo, S1.la, fun j x h => ?_, fun k cl b h1 h2 => S1.cell k cl b h1 h2, fun b hb => ?_, ?_⟩
  · show SlotOk Z (c.own i a) H (σ.set i (some (.ref a)))[j]? (c.os.set i (some a))[j]? x
    by_cases q : i = j
    · subst q
      rw [List.getElem?_set_self hi] at h
      cases h
      rw [List.getElem?_set_self (by rw [S1.ls]; exact hi), List.getElem?_set_self io]
      exact ⟨a, rfl, rfl, vs, ha, r⟩
    · rw [List.getElem?_set_ne q] at h ⊢
      rw [List.getElem?_set_ne q]
      exact S1.slot j x h
  · rcases hb with hb | hb
    · exact S1.gn b (.inl hb)
    · rcases List.mem_or_eq_of_mem_set (show some b ∈ c.os.set i (some a) from hb) with q | q
      · exact S1.gn b (.inr q)
      · cases q; exact ⟨hg, hf⟩
  · have n1 := nd_sub S1.nd (set_none_sub c.os i)
    show (c.as ++ (c.os.set i (some a)).filterMap id).Nodup
    have p : (c.as ++ (c.os.set i (some a)).filterMap id).Perm (a :: (c.as ++ (c.os.set i none).filterMap id)) :=
      ((own_perm io).append_left c.as).trans List.perm_middle
    rw [p.nodup_iff, List.nodup_cons]
    refine ⟨fun z => ?_, n1⟩
    rw [List.mem_append, os_mem] at z
    rcases z with z | z
    · exact ht (.inl z)
    · exact ht (.inr (mem_set_none z))
/-- the list that a slot owns -/
theorem Sim.ownAt {i : Nat} {xs : List D} (S1 : Sim Z c s m σ H) (h : s[i]? = some (.own xs)) : ∃ a vs, c.os[i]? = some (some a) ∧ σ[i]? = some (some (.ref a)) ∧ H a = some (.lst vs) ∧ Rps Z c.G c.as xs vs ∧ c.G a = none ∧ c.F a = none := by
  obtain ⟨a, h1, h2, vs, h3, h4⟩ := S1.slot i _ h
  obtain ⟨g1, g2⟩ := S1.gn a (.inr (mem_os h1))
  exact ⟨a, vs, h1, h2, h3, h4, g1, g2⟩
theorem nd_ix {a : Addr} : ∀ {l : List Addr}, l.Nodup → ∀ {i j : Nat}, l[i]? = some a → l[j]? = some a → i = j
  | [], _, i, j, h, _ => by simp at h
  | b :: l, n, i, j, h, h' => by
    rw [List.nodup_cons] at n
    cases i with
    | zero =>
      cases j with
      | zero => rfl
      | succ j =>
        simp at h h'
        subst h
        exact absurd (List.mem_of_getElem? h') n.1
    | succ i =>
      cases j with
      | zero =>
        simp at h h'
        subst h'
        exact absurd (List.mem_of_getElem? h) n.1
      | succ j => exact congrArg (· + 1) (nd_ix n.2 (i := i) (j := j) (by simpa using h) (by simpa using h'))
theorem nd_os {l : List Addr} {o : List (Option Addr)} {a : Addr} (h : (l ++ o.filterMap id).Nodup) : ∀ {i j : Nat}, o[i]? = some (some a) → o[j]? = some (some a) → i = j := by
  rw [List.nodup_append] at h
  have h2 := h.2.1
  clear h
  induction o with
  | nil => intro i j h; simp at h
  | cons x o ih =>
    intro i j hi hj
    cases x with
    | none =>
      cases i with
      | zero => simp at hi
      | succ i =>
        cases j with
        | zero => simp at hj
        | succ j => exact congrArg (· + 1) (@ih h2 i j (by simpa using hi) (by simpa using hj))
    | some b =>
      have h2' : (b :: o.filterMap id).Nodup := h2
      rw [List.nodup_cons] at h2'
      cases i with
      | zero =>
        cases j with
        | zero => rfl
        | succ j =>
          simp at hi hj
          subst hi
          exact absurd (os_mem.mpr (List.mem_of_getElem? hj)) h2'.1
      | succ i =>
        cases j with
        | zero =>
          simp at hi hj
          subst hj
          exact absurd (os_mem.mpr (List.mem_of_getElem? hi)) h2'.1
        | succ j => exact congrArg (· + 1) (@ih h2'.2 i j (by simpa using hi) (by simpa using hj))
/-- the list of a slot is rewritten -/
theorem Sim.rewr {i : Nat} {a : Addr} {xs ys : List D} {us : List V} (S1 : Sim Z c s m σ H) (h : s[i]? = some (.own xs)) (ho : c.os[i]? = some (some a)) (r : Rps Z c.G c.as ys us) : Sim Z c (s.set i (.own ys)) m σ (upd H a (.lst us)) := by
  obtain ⟨a', h1, h2, _⟩ := S1.slot i _ h
  rw [ho] at h1
  cases h1
  obtain ⟨g1, g2⟩ := S1.gn a (.inr (mem_os ho))
  have hi := (List.getElem?_eq_some_iff.mp h).1
  have na : ∀ b, b ∈ c.as → b ≠ a := fun b hb e => by
    have n := S1.nd
    rw [List.nodup_append] at n
    exact n.2.2 b hb a (os_mem.mpr (mem_os ho)) e
  refine ⟨fun b u e => ?_, fun b u e => ?_, S1.gf, by rw [List.length_set]; exact S1.ls, by rw [List.length_set]; exact S1.lo, S1.la, fun j x hj => ?_, fun k cl b k1 k2 => (S1.cell k cl b k1 k2).mono Ex.rfl' (List.prefix_refl _) (upd_ne (na b (List.mem_of_getElem? k2))), S1.gn, S1.nd⟩
  · rw [upd_ne (fun q => by rw [q, g1] at e; cases e)]; exact S1.exG b u e
  · rw [upd_ne (fun q => by rw [q, g2] at e; cases e)]; exact S1.exF b u e
  · by_cases q : i = j
    · subst q
      rw [List.getElem?_set_self hi] at hj
      cases hj
      exact ⟨a, ho, h2, us, upd_same, r⟩
    · rw [List.getElem?_set_ne q] at hj
      refine (S1.slot j x hj).mono Ex.rfl' (List.prefix_refl _) fun b e => upd_ne fun e2 => q ?_
      subst e2
      exact nd_os S1.nd ho e
/-- a slot's list is a datum from now on -/
theorem Sim.frz {i : Nat} {xs : List D} (S1 : Sim Z c s m σ H) (h : s[i]? = some (.own xs)) : ∃ c', c.leS c' ∧ c'.os = c.os.set i none ∧ c'.as = c.as ∧ Sim Z c' (s.set i (.val (.lst xs))) m σ H ∧ ∃ a, σ[i]? = some (some (.ref a)) ∧ Rp Z c'.G c'.as (.lst xs) (.ref a) := by
  obtain ⟨a, vs, h1, h2, h3, h4, g1, g2⟩ := S1.ownAt h
  have hi := (List.getElem?_eq_some_iff.mp h).1
  -- first forget the slot
  have ht : ¬ Trk { c with os := c.os.set i none } a := by
    rintro (t | t)
    · have n := S1.nd
      rw [List.nodup_append] at n
      exact n.2.2 a t a (os_mem.mpr (mem_os h1)) rfl
    · obtain ⟨j, hj, e⟩ := List.mem_iff_getElem.mp (show some a ∈ c.os.set i none from t)
      have e' : (c.os.set i none)[j]? = some (some a) := by rw [List.getElem?_eq_getElem hj, e]
      by_cases q : i = j
      · subst q
        rw [List.getElem?_set_self (by rw [S1.lo]; exact hi)] at e'
        cases e'
      · rw [List.getElem?_set_ne q] at e'
        exact q (nd_os S1.nd h1 e')
  have S2 : Sim Z { c with os := c.os.set i none } (s.set i .emp) m σ H := by
    refine ⟨S1.exG, S1.exF, S1.gf, by rw [List.length_set]; exact S1.ls, by show (c.os.set i none).length = _; rw [List.length_set, List.length_set]; exact S1.lo, S1.la, fun j x hj => ?_, fun k cl b k1 k2 => S1.cell k cl b k1 k2, fun b hb => S1.gn b (hb.imp id mem_set_none), nd_sub S1.nd (set_none_sub _ _)⟩
    show SlotOk Z _ H σ[j]? (c.os.set i none)[j]? x
    by_cases q : i = j
    · subst q
      rw [List.getElem?_set_self hi] at hj
      cases hj
      rw [List.getElem?_set_self (by rw [S1.lo]; exact hi)]
      rfl
    · rw [List.getElem?_set_ne q] at hj ⊢
      exact S1.slot j x hj
  obtain ⟨S3, l⟩ := S2.keep h3 g1 g2 ht
  have rr : Rp Z (upd c.G a (.lst vs)) c.as (.lst xs) (.ref a) := by
    unfold Rp
    exact ⟨a, vs, rfl, upd_same, h4.mono l.g l.a⟩
  refine ⟨_, ⟨l.g, rfl, List.prefix_refl _⟩, rfl, rfl, ?_, a, h2, rr⟩
  refine ⟨S3.exG, S3.exF, S3.gf, by rw [S3.ls, List.length_set, List.length_set], by rw [S3.lo, List.length_set, List.length_set], S3.la, fun j x hj => ?_, S3.cell, S3.gn, S3.nd⟩
  by_cases q : i = j
  · subst q
    rw [List.getElem?_set_self hi] at hj
    cases hj
    have e0 : (c.os.set i none)[i]? = some none := List.getElem?_set_self (by rw [S1.lo]; exact hi)
    exact ⟨e0, .ref a, h2, rr⟩
  · rw [List.getElem?_set_ne q] at hj
    exact S3.slot j x (by rw [List.getElem?_set_ne q]; exact hj)
/-- all slots are forgotten -/
def Cfg.bare (c : Cfg) : Cfg := { c with os := [] }
theorem Sim.bare (S1 : Sim Z c s m σ H) : Sim Z c.bare [] m [] H ∧ c.leS c.bare := by
  refine ⟨⟨S1.exG, S1.exF, S1.gf, rfl, rfl, S1.la, fun i x e => by simp at e, S1.cell, fun a ha => ?_, ?_⟩, ⟨Ex.rfl', rfl, List.prefix_refl _⟩⟩
  · rcases ha with ha | ha
    · exact S1.gn a (.inl ha)
    · simp [Cfg.bare] at ha
  · have n := S1.nd
    rw [List.nodup_append] at n
    show (c.as ++ [].filterMap id).Nodup
    simpa using n.1
/-- a cell is rewritten -/
theorem Sim.poke_cell {k : Nat} {a : Addr} {cl cl' : Cell} {o : HO} (S1 : Sim Z c s m σ H) (hk : m[k]? = some cl) (ha : c.as[k]? = some a) (h' : CellOk Z c (upd H a o) a cl') : Sim Z c s (m.set k cl') σ (upd H a o) := by
  obtain ⟨g1, g2⟩ := S1.gn a (.inl (List.mem_of_getElem? ha))
  have hm := (List.getElem?_eq_some_iff.mp hk).1
  refine ⟨fun b u e => ?_, fun b u e => ?_, S1.gf, S1.ls, S1.lo, by rw [List.length_set]; exact S1.la, fun j x hj => ?_, fun j cl2 b k1 k2 => ?_, S1.gn, S1.nd⟩
  · rw [upd_ne (fun q => by rw [q, g1] at e; cases e)]; exact S1.exG b u e
  · rw [upd_ne (fun q => by rw [q, g2] at e; cases e)]; exact S1.exF b u e
  · refine (S1.slot j x hj).mono Ex.rfl' (List.prefix_refl _) fun b e => upd_ne fun e2 => ?_
    have n := S1.nd
    rw [List.nodup_append] at n
    exact n.2.2 a (List.mem_of_getElem? ha) b (os_mem.mpr (mem_os e)) e2.symm
  · by_cases q : k = j
    · subst q
      rw [ha] at k2; cases k2
      rw [List.getElem?_set_self hm] at k1
      cases k1
      exact h'
    · rw [List.getElem?_set_ne q] at k1
      refine (S1.cell j cl2 b k1 k2).mono Ex.rfl' (List.prefix_refl _) (upd_ne fun e2 => q ?_)
      have n := S1.nd
      rw [List.nodup_append] at n
      subst e2
      exact nd_ix n.1 ha k2
end
end Pm
end
end
section
set_option Elab.async false
set_option linter.all false
set_option maxRecDepth 100000
set_option maxHeartbeats 4000000
/-! Pm24: statements. -/
noncomputable section
namespace Pm
open PySem PySem.Spec L2
def noLC : Expr → Bool
  | .ListComp _ _ _ _ => false
  | .SetComp _ _ _ _ => false
  | .DictComp _ _ _ _ _ => false
  | _ => true
def swN (sc : Scope) (x : Str) : Expr → Bool
  | .ListComp _ _ _ _ => decide (sc.names.lookup x = some .cell)
  | .SetComp _ _ _ _ => false
  | .DictComp _ _ _ _ _ => false
  | _ => true
def swL (sc : Scope) (x : Str) (p : Pos) : Expr → Bool
  | .ListComp _ _ scope vp => decide (sc.names.lookup x = some .local) && ((p.line == vp.line) && !(scope.names.any fun (n, k) => n == x && (k == .local || k == .cell)))
  | _ => false
def isLcF : FE → Bool
  | .lc _ _ _ _ _ => true
  | .lc2 _ _ _ _ _ _ _ => true
  | _ => false
def isLcE : IE → Bool
  | .frz f => isLcF f
  | .cel f => isLcF f
  | _ => false
def noTupE : Expr → Bool
  | .Tuple _ _ _ => false
  | _ => true
def stB : Expr → Bool
  | .Starred _ _ => true
  | _ => false
def parB (sc : Scope) (x y : Str) (px py : Pos) (a b : Expr) : Bool := (decide (sc.names.lookup x = some .local) && decide (sc.names.lookup y = some .local)) && (((py.line == px.line) && !(x == y)) && ((!stB a && !stB b) && (!(foldedForSure 8 a && foldedForSure 8 b) && !(constantsAlone 8 a && constantsAlone 8 b))))
def augB : Bop → Operator → Bool
  | .add, .Add => true
  | .sub, .Sub => true
  | _, _ => false
def isFrz : IS → Bool
  | .frz _ => true
  | _ => false
def isStrC : Expr → Bool
  | .Constant (.str _) _ _ => true
  | _ => false
section
variable (Z : Ze) (N : List Str)
/-- the classes that isinstance is asked about -/
def chkXs (sc : Scope) : List Nat → List Expr → Bool
  | [], es => es.isEmpty
  | t :: ts, es => (match es with
    | .Name x _ :: r => (Z.xty t && (decide (x = Z.xtn t) && glB sc x)) && chkXs sc ts r
    | _ => false)
mutual
def chkH (i : Nat) : HE → Scope → Expr → Bool
  | .var j, sc, e => (match e with
    | .Name x _ => decide (N[j]? = some x) && (visB sc x && dbgB x)
    | _ => false)
  | .con d, _, e => (match e with
    | .Constant c _ _ => (match c, d with
      | .bool i, .bl j => i == j
      | .none, .non => true
      | _, _ => false)
    | _ => false)
  | .xis ts, sc, e => (match e with
    | .Call (.Name x _) [.Name y _, o] [] _ => ((decide (x = ("isinstance" : Str)) && glB sc x) && (decide (N[i]? = some y) && (visB sc y && dbgB y))) && (match o with
      | .Tuple es _ _ => chkXs Z sc ts es && decide (1 ≤ ts.length ∧ ts.length ≤ 20)
      | o => chkXs Z sc ts [o] && decide (ts.length = 1))
    | _ => false)
  | .bol k as, sc, e => (match e with
    | .BoolOp op vs _ => (match k, op with
      | true, .And => true
      | false, .Or => true
      | _, _ => false) && chkHb i as sc vs
    | _ => false)
  | .not_ a, sc, e => (match e with
    | .UnaryOp .Not x _ => chkH i a sc x
    | _ => false)
def chkHb (i : Nat) : HEs → Scope → List Expr → Bool
  | .nil, _, es => es.isEmpty
  | .cons a r, sc, es => (match es with
    | e :: es => chkH i a sc e && chkHb i r sc es
    | [] => false)
end
mutual
def chkHS (fr : Bool) (i : Nat) : HS → Scope → Stmt → Bool
  | .asg j e, sc, st => (match st with
    | .Assign [.Name x _] v _ => (decide (N[j]? = some x) && locB sc x) && (chkH Z N i e sc v && swN sc x v)
    | _ => false)
  | .ret e, sc, st => (match st with
    | .Return (some v) _ => !fr && chkH Z N i e sc v
    | _ => false)
  | .ite t a b, sc, st => (match st with
    | .If c p q _ => chkH Z N i t sc c && (chkHSs fr i a sc p && chkHSs fr i b sc q)
    | _ => false)
  | .cnt, _, st => (match st with
    | .Continue _ => true
    | _ => false)
def chkHSs (fr : Bool) (i : Nat) : HSs → Scope → List Stmt → Bool
  | .nil, _, sts => sts.isEmpty
  | .cons a r, sc, sts => (match sts with
    | st :: sts => chkHS fr i a sc st && chkHSs fr i r sc sts
    | [] => false)
end
end
section
variable (Z : Ze) (N : List Str) (fr : Bool)
mutual
def chkS : IS → Scope → Stmt → Bool
  | .asg i e, sc, st => (match st with
    | .Assign [.Name x p] v _ => (decide (N[i]? = some x) && locB sc x) && (chkE Z N e sc v && (swN sc x v || (swL sc x p v && isLcE e)))
    | _ => false)
  | .aso i f, sc, st => (match st with
    | .Assign [.Name x p] v _ => (decide (N[i]? = some x) && locB sc x) && (chkF Z N f sc v && (swN sc x v || (swL sc x p v && isLcF f)))
    | _ => false)
  | .par i j a b, sc, st => (match st with
    | .Assign [.Tuple [.Name x px, .Name y py] _ _] (.Tuple [u, v] _ _) _ => (decide (N[i]? = some x) && decide (N[j]? = some y)) && ((chkE Z N a sc u && chkE Z N b sc v) && parB sc x y px py u v)
    | _ => false)
  | .unp tg e, sc, st => (match st with
    | .Assign [t] v _ => (chkT N sc tg t && isTupE t) && (chkE Z N e sc v && (noTupE v && noLC v))
    | _ => false)
  | .sta a f e, sc, st => (match st with
    | .Assign [.Attribute o m _] v _ => decide (m = Z.fnm f) && (chkE Z N a sc o && chkE Z N e sc v)
    | _ => false)
  | .sto i x e, sc, st => (match st with
    | .Assign [.Subscript o ie _] v _ => chkE Z N (.var i) sc o && ((chkE Z N x sc ie && noSl ie) && chkE Z N e sc v)
    | _ => false)
  | .sts a x e, sc, st => (match st with
    | .Assign [.Subscript o ie _] v _ => chkE Z N a sc o && ((chkE Z N x sc ie && noSl ie) && chkE Z N e sc v)
    | _ => false)
  | .aug i o e, sc, st => (match st with
    | .AugAssign (.Name x _) op v _ => (decide (N[i]? = some x) && locB sc x) && (augB o op && chkE Z N e sc v)
    | _ => false)
  | .app i e, sc, st => (match st with
    | .Expr (.Call (.Attribute o m apos) [v] [] cpos) _ => (decide (m = ("append" : Str)) && (apos.endLine == cpos.line)) && ((chkE Z N (.var i) sc o && noSup o) && chkE Z N e sc v)
    | _ => false)
  | .apc a e, sc, st => (match st with
    | .Expr (.Call (.Attribute o m apos) [v] [] cpos) _ => (decide (m = ("append" : Str)) && (apos.endLine == cpos.line)) && ((chkE Z N a sc o && noSup o) && chkE Z N e sc v)
    | _ => false)
  | .exd i e, sc, st => (match st with
    | .Expr (.Call (.Attribute o m apos) [v] [] cpos) _ => (decide (m = ("extend" : Str)) && (apos.endLine == cpos.line)) && ((chkE Z N (.var i) sc o && noSup o) && chkE Z N e sc v)
    | _ => false)
  | .exp e, sc, st => (match st with
    | .Expr v _ => chkE Z N e sc v && noLC v
    | _ => false)
  | .ret e, sc, st => (match st with
    | .Return (some v) _ => !fr && chkE Z N e sc v
    | _ => false)
  | .rtn, sc, st => (match st with
    | .Return none _ => !fr
    | _ => false)
  | .rtf f, sc, st => (match st with
    | .Return (some v) _ => chkF Z N f sc v
    | _ => false)
  | .rto i, sc, st => (match st with
    | .Return (some v) _ => chkE Z N (.var i) sc v
    | _ => false)
  | .rse c as, sc, st => (match as with
    | .nil => (match st with
      | .Raise (some (.Call (.Name x _) [] [] _)) none _ => Z.xrs c && (decide (x = Z.xtn c) && glB sc x)
      | _ => false)
    | _ => false)
  | .ite t a b, sc, st => (match st with
    | .If c p q _ => chkE Z N t sc c && (chkSs a sc p && chkSs b sc q)
    | _ => false)
  | .whl t b, sc, st => (match st with
    | .While c p [] _ => chkE Z N t sc c && chkSs b sc p
    | _ => false)
  | .for_ tg it b, sc, st => (match st with
    | .For t iter p [] _ => (chkT N sc tg t && (itT it t && noSet iter)) && (chkI Z N it sc iter && chkSs b sc p)
    | _ => false)
  | .brk, sc, st => (match st with
    | .Break _ => true
    | _ => false)
  | .cnt, sc, st => (match st with
    | .Continue _ => true
    | _ => false)
  | .pas, sc, st => (match st with
    | .Pass _ => true
    | .Expr (.Constant (.str _) _ _) _ => true
    | _ => false)
  | .aus a x o e, sc, st => (match st with
    | .AugAssign (.Subscript p ie _) op v _ => (augB o op && chkE Z N a sc p) && ((chkE Z N x sc ie && noSl ie) && chkE Z N e sc v)
    | _ => false)
  | .pop i j e, sc, st => (match st with
    | .Assign [.Name x _] (.Call (.Attribute o m apos) [v] [] cpos) _ => (decide (N[i]? = some x) && locB sc x) && ((decide (m = ("pop" : Str)) && (apos.endLine == cpos.line)) && ((chkE Z N (.var j) sc o && noSup o) && chkE Z N e sc v))
    | _ => false)
  | .apo i j e, sc, st => (match st with
    | .Expr (.Call (.Attribute o m apos) [.Call (.Attribute o2 m2 apos2) [v] [] cpos2] [] cpos) _ => ((decide (m = ("append" : Str)) && (apos.endLine == cpos.line)) && (chkE Z N (.var i) sc o && noSup o)) && ((decide (m2 = ("pop" : Str)) && (apos2.endLine == cpos2.line)) && ((chkE Z N (.var j) sc o2 && noSup o2) && chkE Z N e sc v))
    | _ => false)
  | .pst i x y e, sc, st => (match st with
    | .Assign [.Tuple [.Subscript o ie _, .Subscript o2 ie2 _] _ _] v _ => (chkE Z N (.var i) sc o && (chkE Z N x sc ie && noSl ie)) && ((chkE Z N (.var i) sc o2 && (chkE Z N y sc ie2 && noSl ie2)) && (chkE Z N e sc v && noLC v))
    | _ => false)
  | .frz _, _, _ => false
  | .try_ b i t h, sc, st => (match st with
    | .Try body [.ExceptHandler (some (.Name x _)) (some n) (b₀ :: suite) _] [] [] _ => (chkSs b sc body && (decide (N[i]? = some n) && decide (sc.names.lookup n = some .local))) && ((Z.xty t && (Z.xow t && (decide (x = Z.xtn t) && glB sc x))) && chkHSs Z N fr i h sc (b₀ :: suite))
    | _ => false)
  | .nev, _, _ => true
def chkSs : ISs → Scope → List Stmt → Bool
  | .nil, sc, sts => sts.isEmpty
  | .cons a r, sc, sts => if isFrz a = true then chkSs r sc sts else (match sts with
    | st :: sts => chkS a sc st && chkSs r sc sts
    | [] => false)
end
end
/-! ### what the text's forms want -/
theorem swN_ok {env : Env} {sc : Scope} (he : env.scope = sc) {x : Str} {p : Pos} {v : Expr} {l : Nat} (h : swN sc x v = true) : swapsWith v (some (.Name x p)) l env = pure false := by
  cases v <;> first | rfl | (cases h; done) | skip
  subst he
  have k : env.kindOf x = some .cell := of_decide_eq_true h
  have e0 : (NameKind.cell == NameKind.local) = false := by decide
  unfold swapsWith
  simp [k, e0]
theorem swA_ok {env : Env} {o : Expr} {m : Str} {p : Pos} {v : Expr} {l : Nat} : swapsWith v (some (.Attribute o m p)) l env = pure false := by
  cases v <;> rfl
theorem swS_ok {env : Env} {o i : Expr} {p : Pos} {v : Expr} {l : Nat} : swapsWith v (some (.Subscript o i p)) l env = pure false := by
  cases v <;> rfl
theorem sole_eq {t v : Expr} {l : Nat} {env : Env} : swapsWithSole [t] v l env = swapsWith v (some t) l env := by unfold swapsWithSole; rfl
theorem swD_ok {env : Env} {v : Expr} {l : Nat} {t : Option Expr} (h : noLC v = true) : swapsWith v t l env = pure false := by
  cases v <;> first | rfl | cases h
theorem par_ok {env : Env} {sc : Scope} (he : env.scope = sc) (hk : sc.kind = .function) {x y : Str} {px py pt pt2 : Pos} {kt k2 : Nat} {a b : Expr} (h : parB sc x y px py a b = true) : swappedStores [.Tuple [.Name x px, .Name y py] kt pt] (.Tuple [a, b] k2 pt2) env = pure (some [x, y]) := by
  subst he
  unfold parB at h
  simp only [Bool.and_eq_true, decide_eq_true_eq, Bool.not_eq_true'] at h
  obtain ⟨⟨hx, hy⟩, ⟨hl, hne⟩, ⟨sa, sb⟩, hf, hc⟩ := h
  have kx : env.kindOf x = some .local := hx
  have ky : env.kindOf y = some .local := hy
  have bk : env.blockKind = .function := by unfold Env.blockKind; rw [hk]; rfl
  have hne' : (y == x) = false := by
    rw [beq_eq_false_iff_ne] at hne ⊢
    exact fun e => hne e.symm
  have hl' : py.line = px.line := by simpa using hl
  have hf1 : ¬ (foldedForSure 8 a = true ∧ foldedForSure 8 b = true) := fun z => by rw [z.1, z.2] at hf; cases hf
  have hc1 : ¬ (constantsAlone 8 a = true ∧ constantsAlone 8 b = true) := fun z => by rw [z.1, z.2] at hc; cases hc
  unfold swappedStores
  simp only [bk, List.length_cons, List.length_nil, List.head?_cons, Option.map_some, Option.getD_some, Expr.pos]
  simp [kx, ky, hl', hne, hne', List.filterMap_cons, List.eraseDups_cons]
  cases a <;> first | (cases sa; done) | skip
  all_goals (cases b <;> first | (cases sb; done) | skip)
  all_goals (first | (rw [if_neg hf1, if_neg hc1]; done) | (rw [if_neg hf1, if_neg hc1]; rfl) | (simp at hf hc; simp [hf, hc]))
theorem psw_ok {env : Env} {o1 i1 o2 i2 v : Expr} {p1 p2 pt : Pos} {kt : Nat} : swappedStores [.Tuple [.Subscript o1 i1 p1, .Subscript o2 i2 p2] kt pt] v env = pure none := by
  unfold swappedStores
  cases v <;> try rfl
  rename_i vs k p
  dsimp only
  split
  · rfl
  · split
    · rfl
    · rw [if_pos (by simp)]
end Pm
end
end
section
set_option Elab.async false
set_option linter.all false
set_option maxRecDepth 100000
set_option maxHeartbeats 4000000
/-! Pm25: statements, one by one. -/
noncomputable section
namespace Pm
open PySem PySem.Spec L2
section
variable {Z : Ze} {C : CF} {k fu : Nat} {fr : Bool}
def SS (Z : Ze) (C : CF) (k fu : Nat) (fr : Bool) (i : IS) : Prop := ∀ {N : List Str} {X : Cx} {sc : Scope} {W : WX}, CokS Z C k N X sc W → ∀ st, chkS Z N fr i sc st = true → PS X st (tS Z W fr (ex Z.T C fu i))
def SSs (Z : Ze) (C : CF) (k fu : Nat) (fr : Bool) (i : ISs) : Prop := ∀ {N : List Str} {X : Cx} {sc : Scope} {W : WX}, CokS Z C k N X sc W → ∀ sts, chkSs Z N fr i sc sts = true → PSs X sts (tS Z W fr (exs Z.T C fu i))
abbrev AE (Z : Ze) (C : CF) (k : Nat) : Prop := ∀ a, SE Z C k a
abbrev AF (Z : Ze) (C : CF) (k : Nat) : Prop := ∀ a, SF Z C k a
abbrev AI (Z : Ze) (C : CF) (k : Nat) : Prop := ∀ a, SI Z C k a
section
variable {W : WX} {σ : L2.St} {H : Hp} {D : Ends}
theorem asg_imp {i : Nat} {e : IE} (q : tS Z W fr (ex Z.T C fu (.asg i e)) D σ H) : tE Z W (ev Z.T C e) σ H fun x H1 => gName i x σ H1 D.nx := by
  obtain ⟨c, s, m, S1, o⟩ := q
  rw [ex] at o
  refine ⟨c, s, m, S1, o.toS fun d m1 c1 v H1 l S2 r o2 => ?_⟩
  unfold setV at o2
  split at o2
  · rename_i s1 e1
    split at e1
    · cases e1
    · rename_i hb
      cases e1
      rw [not_or] at hb
      exact o2 (c1.rel i) _ _ Cfg.leS_rel (S2.store (r.rp (by simpa using hb.1)) (by omega))
  · exact o2.elim
theorem aso_imp {i : Nat} {f : FE} (q : tS Z W fr (ex Z.T C fu (.aso i f)) D σ H) : tF Z W (evF Z.T C f) σ H fun x H1 => gName i x σ H1 D.nx := by
  obtain ⟨c, s, m, S1, o⟩ := q
  rw [ex] at o
  refine ⟨c, s, m, S1, o.toS fun d m1 c1 v H1 l S2 r o2 => ?_⟩
  split at o2
  · rename_i hi
    obtain ⟨a, vs, rfl, g1, g2, g3, g4, g5⟩ := r
    exact o2 (c1.own i a) _ _ Cfg.leS_own (S2.storeO g1 g2 g3 g4 g5 hi)
  · exact o2.elim
theorem frz_imp {f : FE} {Q : VK} (q : tE Z W (ev Z.T C (.frz f)) σ H Q) : tF Z W (evF Z.T C f) σ H Q := by
  obtain ⟨cf, s, m, S1, q⟩ := q
  simp only [ev] at q
  exact ⟨cf, s, m, S1, q.bind fun xs m1 c1 v H1 l S2 r q2 => fre_keep (f := fun _ _ => .bad) S2 r q2⟩
theorem cel_imp {f : FE} {Q : VK} (q : tE Z W (ev Z.T C (.cel f)) σ H Q) : tF Z W (evF Z.T C f) σ H Q := by
  obtain ⟨cf, s, m, S1, q⟩ := q
  simp only [ev] at q
  refine ⟨cf, s, m, S1, q.bind fun xs m1 c1 v H1 l S2 r q2 => ?_⟩
  obtain ⟨a, vs, rfl, g1, g2, g3, g4, g5⟩ := r
  have S3 : Sim Z.toZt (c1.more a) s (m1 ++ [.lst xs]) σ H1 := S2.push (cl := .lst xs) ⟨vs, g1, g2⟩ g3 g4 g5
  refine q2.to Cfg.le_more S3 (Rep.of ?_)
  unfold Rp
  refine ⟨a, ?_, rfl⟩
  show (c1.as ++ [a])[m1.length]? = some a
  rw [← S2.la, List.getElem?_append_right (Nat.le_refl _)]
  simp
end
variable {N : List Str} {X : Cx} {sc : Scope} {W : WX}
theorem fn_of (c : CokS Z C k N X sc W) {x : Str} (h : locB sc x = true) : Loc X.env.scope x ∧ (X.fn x = true ∨ X.env.scope.names.lookup x = some .local) := by
  rw [c.esc]
  rcases loc_of h with q | q
  · exact ⟨.inl q, .inr q⟩
  · exact ⟨.inr q, .inl (c.bnd.cel x q).2⟩
/-- name = [..] on one line -/
theorem set_lc (c : CokS Z C k N X sc W) {own : List Nat} {tg : Tg} {it : It} {cs : IEs} {x : IE} (hi : SI Z C k it) (hc : STs Z C k cs) (hx : SE Z C k x) {i : Nat} {y : Str} {py pos : Pos} {v : Expr} (hN : N[i]? = some y) (h : chkF Z N (.lc own tg it cs x) sc v = true) (hs : swL sc y py v = true) :
    PS X (.Assign [.Name y py] v pos) (tAsg (tF Z W (evF Z.T C (.lc own tg it cs x))) (gName i)) := by
  unfold chkF at h
  split at h
  · rename_i elt t iter ifs scope vpos
    simp only [Bool.and_eq_true, decide_eq_true_eq] at h
    obtain ⟨⟨hb, ⟨ht, hns⟩, hit, hown⟩, ⟨hI, hlen⟩, hcs, hxx⟩ := h
    unfold swL at hs
    simp only [Bool.and_eq_true, decide_eq_true_eq, Bool.not_eq_true'] at hs
    have eo : (own.map fun i => (N.getD i Str.empty, i)).map (·.2) = own := by
      rw [List.map_map]
      exact (List.map_congr_left fun a _ => rfl).trans (List.map_id _)
    refine PS.of (ps_setLc (i := i) (own := own.map fun i => (N.getD i Str.empty, i)) c.calm (by rw [c.eN]; exact c.nd) (by rw [c.eN]; exact hN) (by rw [c.esc]; exact hs.1) (sw_true (by rw [c.esc]; exact c.knd) (by rw [c.esc]; exact hs.1) hs.2.1 hs.2.2) (hi c.toCok t iter hI hit) (by rw [c.eN, c.esc]; exact blkOk_by hb)
      (fun sh H a cl fp => sndT (X := X.blk sh H scope (compEnvC scope cl a X.env) fp) c.eN c.nd c.calm c.eK (bnd_blk sh H a cl fp) tg t ht)
      (fun sh H a cl fp => hc (c.toCok.blk sh H a cl fp) ifs hcs hlen) (fun sh H a cl fp => (hx (c.toCok.blk sh H a cl fp) elt hxx).1) (by intro v; cases iter <;> first | rfl | cases hns)) fun σ H D q => ?_
    rw [eo]
    exact lc_imp hown q
  · cases h
theorem set_lc2 (c : CokS Z C k N X sc W) {own ow1 : List Nat} {tg tg1 : Tg} {it it1 : It} {x : IE} (hi : SI Z C k it) (hi1 : SI Z C k it1) (hx : SE Z C k x) {i : Nat} {y : Str} {py pos : Pos} {v : Expr} (hN : N[i]? = some y) (h : chkF Z N (.lc2 own tg it ow1 tg1 it1 x) sc v = true) (hs : swL sc y py v = true) :
    PS X (.Assign [.Name y py] v pos) (tAsg (tF Z W (evF Z.T C (.lc2 own tg it ow1 tg1 it1 x))) (gName i)) := by
  unfold chkF at h
  split at h
  · rename_i elt t iter ifs t1 iter1 ifs1 scope vpos
    simp only [Bool.and_eq_true, List.isEmpty_iff] at h
    obtain ⟨⟨hb, ⟨ht, hns⟩, hit, hown⟩, ⟨⟨hI, rfl⟩, ⟨ht1, hns1⟩, ⟨hit1, hown1⟩, hsub⟩, ⟨hI1, rfl⟩, hxx⟩ := h
    unfold swL at hs
    simp only [Bool.and_eq_true, decide_eq_true_eq, Bool.not_eq_true'] at hs
    have eo : (own.map fun i => (N.getD i Str.empty, i)).map (·.2) = own := by
      rw [List.map_map]
      exact (List.map_congr_left fun a _ => rfl).trans (List.map_id _)
    refine PS.of (ps_setLc2 (i := i) (own := own.map fun i => (N.getD i Str.empty, i)) (vs1 := ow1) c.calm (by rw [c.eN]; exact c.nd) (by rw [c.eN]; exact hN) (by rw [c.esc]; exact hs.1) (sw_true (by rw [c.esc]; exact c.knd) (by rw [c.esc]; exact hs.1) hs.2.1 hs.2.2) (hi c.toCok t iter hI hit) (by rw [c.eN, c.esc]; exact blkOk_by hb) (by
        rw [eo]
        intro i hi
        rw [List.all_eq_true] at hsub
        simpa using hsub i hi)
      (fun sh H a cl fp => sndT (X := X.blk sh H scope (compEnvC scope cl a X.env) fp) c.eN c.nd c.calm c.eK (bnd_blk sh H a cl fp) tg t ht)
      (fun sh H a cl fp => sts_nil (c.toCok.blk sh H a cl fp) [] (by unfold chkEs; rfl) (Nat.zero_le _))
      (fun sh H a cl fp => hi1 (c.toCok.blk sh H a cl fp) t1 iter1 hI1 hit1)
      (fun sh H a cl fp => sndT (X := X.blk sh H scope (compEnvC scope cl a X.env) fp) c.eN c.nd c.calm c.eK (bnd_blk sh H a cl fp) tg1 t1 ht1)
      (fun sh H a cl fp => sts_nil (c.toCok.blk sh H a cl fp) [] (by unfold chkEs; rfl) (Nat.zero_le _))
      (fun sh H a cl fp => (hx (c.toCok.blk sh H a cl fp) elt hxx).1) (by intro v; cases iter <;> first | rfl | cases hns) (by intro en v; cases iter1 <;> first | rfl | cases hns1)) fun σ H D q => ?_
    rw [eo]
    exact lc2_imp hown hown1 hsub q
  · cases h
theorem case_asg (zo : Zok Z) (SA : SrtAll Z C k) {i : Nat} {e : IE} : SS Z C k fu fr (.asg i e) := by
  intro N X sc W c st h
  unfold chkS at h
  split at h
  · rename_i x p v pos
    simp only [Bool.and_eq_true, decide_eq_true_eq, Bool.or_eq_true] at h
    obtain ⟨⟨hN, hl⟩, he, hs | ⟨hs, hlc⟩⟩ := h
    · obtain ⟨h1, h2⟩ := fn_of c hl
      exact PS.of (ps_set (i := i) (by rw [c.eN]; exact c.nd) (by rw [c.eN]; exact hN) h1 (allE zo SA e c.toCok v he).1 (swN_ok c.esc hs) h2) fun σ H D q => asg_imp q
    · cases e with
      | frz f =>
        cases f with
        | lc own tg it cs x => exact PS.of (set_lc c (allI zo SA it) (allTs zo SA cs) (allE zo SA x) hN he hs) fun σ H D q => frz_imp (asg_imp q)
        | lc2 own tg it ow1 tg1 it1 x => exact PS.of (set_lc2 c (allI zo SA it) (allI zo SA it1) (allE zo SA x) hN he hs) fun σ H D q => frz_imp (asg_imp q)
        | _ => cases hlc
      | cel f =>
        cases f with
        | lc own tg it cs x => exact PS.of (set_lc c (allI zo SA it) (allTs zo SA cs) (allE zo SA x) hN he hs) fun σ H D q => cel_imp (asg_imp q)
        | lc2 own tg it ow1 tg1 it1 x => exact PS.of (set_lc2 c (allI zo SA it) (allI zo SA it1) (allE zo SA x) hN he hs) fun σ H D q => cel_imp (asg_imp q)
        | _ => cases hlc
      | _ => cases hlc
  · cases h
theorem case_aso (zo : Zok Z) (SA : SrtAll Z C k) {i : Nat} {f : FE} : SS Z C k fu fr (.aso i f) := by
  intro N X sc W c st h
  unfold chkS at h
  split at h
  · rename_i x p v pos
    simp only [Bool.and_eq_true, decide_eq_true_eq, Bool.or_eq_true] at h
    obtain ⟨⟨hN, hl⟩, he, hs | ⟨hs, hlc⟩⟩ := h
    · obtain ⟨h1, h2⟩ := fn_of c hl
      exact PS.of (ps_set (i := i) (by rw [c.eN]; exact c.nd) (by rw [c.eN]; exact hN) h1 (allF zo SA f c.toCok v he) (swN_ok c.esc hs) h2) fun σ H D q => aso_imp q
    · cases f with
      | lc own tg it cs x => exact PS.of (set_lc c (allI zo SA it) (allTs zo SA cs) (allE zo SA x) hN he hs) fun σ H D q => aso_imp q
      | lc2 own tg it ow1 tg1 it1 x => exact PS.of (set_lc2 c (allI zo SA it) (allI zo SA it1) (allE zo SA x) hN he hs) fun σ H D q => aso_imp q
      | _ => cases hlc
  · cases h
theorem case_par (zo : Zok Z) (SA : SrtAll Z C k) {i j : Nat} {a b : IE} : SS Z C k fu fr (.par i j a b) := by
  intro N X sc W c st h
  unfold chkS at h
  split at h
  · rename_i x px y py kt pt u v k2 pt2 pos
    simp only [Bool.and_eq_true, decide_eq_true_eq] at h
    obtain ⟨⟨hi, hj⟩, ⟨hu, hv⟩, hp⟩ := h
    have hp' := hp
    unfold parB at hp'
    simp only [Bool.and_eq_true, decide_eq_true_eq, Bool.not_eq_true'] at hp'
    obtain ⟨⟨hx, hy⟩, ⟨hl, hne⟩, _⟩ := hp'
    have hij : i ≠ j := fun e => by
      subst e
      rw [hi] at hj
      cases hj
      simp at hne
    have st1 : ∀ es, starEach (u :: es) X.env = (false, eval u X.env) :: starEach es X.env := fun es => star_one (noStar hu)
    have st2 : ∀ es, starEach (v :: es) X.env = (false, eval v X.env) :: starEach es X.env := fun es => star_one (noStar hv)
    refine PS.of (ps_par (i := i) (j := j) c.calm (by rw [c.eN]; exact c.nd) (by rw [c.eN]; exact hi) (by rw [c.eN]; exact hj) hij (by rw [c.esc]; exact hx) (by rw [c.esc]; exact hy) (pa_cons (allE zo SA a c.toCok u hu).1 (pa_cons (allE zo SA b c.toCok v hv).1 pa_nil (st2 _)) (st1 _)) (par_ok c.esc c.knd hp)) fun σ H D q => ?_
    obtain ⟨cf, s, m, S1, o⟩ := q
    rw [ex] at o
    refine ⟨cf, s, m, S1, o.toS fun d m1 c1 w H1 l S2 r o2 => ⟨c1, s, m1, S2, o2.toS fun d2 m2 c2 w2 H2 l2 S3 r2 o3 => ?_⟩⟩
    unfold setV at o3
    split at o3
    · rename_i s1 e1
      split at e1
      · cases e1
      · rename_i hb
        cases e1
        rw [not_or] at hb
        split at o3
        · rename_i s2 e2
          split at e2
          · cases e2
          · rename_i hb2
            cases e2
            rw [not_or] at hb2
            have n1 := (r.mono l2).rp (by simpa using hb.1)
            have n2 := r2.rp (by simpa using hb2.1)
            have S4 := S3.store n1 (i := i) (by omega)
            have S5 := S4.store (c := c2.rel i) n2 (i := j) (by omega)
            exact ⟨w, w2, rfl, o3 _ _ _ (Cfg.leS_rel.trans Cfg.leS_rel) S5⟩
        · exact o3.elim
    · exact o3.elim
  · cases h
theorem case_unp (zo : Zok Z) (SA : SrtAll Z C k) {tg : Tg} {e : IE} : SS Z C k fu fr (.unp tg e) := by
  intro N X sc W c st h
  unfold chkS at h
  split at h
  · rename_i t v pos
    simp only [Bool.and_eq_true] at h
    obtain ⟨⟨ht, htt⟩, he, hv, hlc⟩ := h
    have hpg := sndT c.eN c.nd c.calm c.eK c.bnd tg t ht
    cases t <;> first | (cases htt; done) | skip
    refine PS.of (ps_asg (allE zo SA e c.toCok v he).1 hpg (by rw [sole_eq]; exact swD_ok hlc) (by cases v <;> first | rfl | cases hv)) fun σ H D q => ?_
    obtain ⟨cf, s, m, S1, o⟩ := q
    rw [ex] at o
    refine ⟨cf, s, m, S1, o.toS fun d m1 c1 w H1 l S2 r o2 => ?_⟩
    split at o2
    · rename_i s1 e1
      have hb : d.isBor = false := by
        cases d <;> first | rfl | skip
        cases tg with
        | nam i =>
          unfold setT at e1
          split at e1
          · cases e1
          · rename_i hb; exact absurd rfl (not_or.mp hb).1
        | tup ts => unfold setT at e1; cases e1
      exact ⟨c1, s, m1, d, s1, S2, r.rp hb, e1, fun c2 σ2 l2 a2 _ S3 => o2 c2 σ2 _ l2 S3⟩
    · exact o2.elim
  · cases h
theorem flds_put (inj : ∀ f g, Z.fnm f = Z.fnm g → f = g) {G : Hp} {as : List Addr} {f : Nat} {d : Pm.D} {v : V} (r : Rp Z.toZt G as d v) : ∀ {fs : List (Nat × Pm.D)} {gs : List (Str × V)}, Flds Z.toZt G as fs gs → Flds Z.toZt G as (fldPut f d fs) (putF (Z.fnm f) v gs)
  | [], gs, h => by
    obtain ⟨h1, h2⟩ := h
    have e : gs = [] := by cases gs with | nil => rfl | cons _ _ => cases h1
    subst e
    exact ⟨rfl, .cons r .nil⟩
  | (g, e) :: fs, [], h => by obtain ⟨h1, _⟩ := h; cases h1
  | (g, e) :: fs, (n, w) :: gs, h => by
    obtain ⟨h1, h2⟩ := h
    rw [List.map_cons, List.map_cons] at h1
    injection h1 with e1 e2
    have e1 : n = Z.fnm g := e1
    subst e1
    obtain ⟨w', t, e3, r1, r2⟩ := h2.cons_inv
    cases e3
    unfold fldPut putF
    by_cases q : g = f
    · subst q
      rw [if_pos rfl, if_pos rfl]
      exact ⟨by rw [List.map_cons, List.map_cons, e2], .cons r r2⟩
    · rw [if_neg q, if_neg (fun z => q (inj _ _ z))]
      obtain ⟨i1, i2⟩ := flds_put inj r (fs := fs) (gs := gs) ⟨e2, r2⟩
      exact ⟨by rw [List.map_cons, List.map_cons, i1], .cons r1 i2⟩
theorem fld_mem {f : Nat} {d : Pm.D} {l : List Nat} (hf : f ∈ l) : ∀ {fs : List (Nat × Pm.D)}, (∀ p ∈ fs, p.1 ∈ l) → ∀ p ∈ fldPut f d fs, p.1 ∈ l
  | [], _, p, hp => by
    rw [show fldPut f d [] = [(f, d)] from rfl, List.mem_singleton] at hp
    subst hp
    exact hf
  | (g, e) :: fs, h, p, hp => by
    unfold fldPut at hp
    split at hp
    · rcases List.mem_cons.mp hp with q | q
      · subst q; exact hf
      · exact h p (List.mem_cons_of_mem _ q)
    · rcases List.mem_cons.mp hp with q | q
      · subst q; exact h (g, e) List.mem_cons_self
      · exact fld_mem hf (fun p hp => h p (List.mem_cons_of_mem _ hp)) p q
theorem case_sta (zo : Zok Z) (SA : SrtAll Z C k) {a e : IE} {f : Nat} : SS Z C k fu fr (.sta a f e) := by
  intro N X sc W c st h
  unfold chkS at h
  split at h
  · rename_i o m' p' v pos
    simp only [Bool.and_eq_true, decide_eq_true_eq] at h
    obtain ⟨rfl, ho, hv⟩ := h
    refine PS.of (ps_fld (allE zo SA a c.toCok o ho).1 (allE zo SA e c.toCok v hv).1 swA_ok) fun σ H D q => ?_
    obtain ⟨cf, s, m, S1, o⟩ := q
    rw [ex] at o
    refine ⟨cf, s, m, S1, o.toS fun d m1 c1 w H1 l S2 r o2 => ⟨c1, s, m1, S2, o2.toS fun d2 m2 c2 w2 H2 l2 S3 r2 o3 => ?_⟩⟩
    split at o3
    · rename_i kk
      split at o3
      · rename_i cl fs em
        split at o3
        · rename_i hh
          obtain ⟨hb, hl, hc⟩ := hh
          have r2' : Rp Z.toZt c2.G c2.as (.ref kk) w2 := r2
          unfold Rp at r2'
          obtain ⟨ad, ea, rfl⟩ := r2'
          obtain ⟨dx, gs, e1, hF, hm⟩ := S3.cell kk _ ad em ea
          have hf : f ∈ Z.T.fld cl := by simpa using hc
          obtain ⟨t1, t2⟩ := c.txt.fld cl f hf
          have rw1 := (r.mono l2).rp hb
          have hF' := flds_put (f := f) c.txt.inj rw1 hF
          have lg : gs.length < 1000 := by
            have := congrArg List.length hF.1
            rw [List.length_map, List.length_map] at this
            omega
          refine ⟨ad, Z.cad cl, dx, gs, rfl, e1, by rw [c.eK]; exact t1, by rw [c.eK]; exact t2, lg, ?_⟩
          exact o3 c2 σ _ Cfg.leS.rfl' (S3.poke_cell em ea ⟨dx, _, upd_same, hF', fld_mem hf hm⟩)
        · exact o3.elim
      · exact o3.elim
    · exact o3.elim
  · cases h
end
end Pm
end
end
section
set_option Elab.async false
set_option linter.all false
set_option maxRecDepth 100000
set_option maxHeartbeats 4000000
/-! Pm26: stores into lists, appends, returns. -/
noncomputable section
namespace Pm
open PySem PySem.Spec L2
section
variable {Z : Ze} {C : CF} {k fu : Nat} {fr : Bool}
variable {N : List Str} {X : Cx} {sc : Scope} {W : WX}
def tV (i : Nat) : TE := fun σ H Q => ∃ v, σ[i]? = some (some v) ∧ Q v H
theorem var_pe (c : Cok Z C k N X sc W) {i : Nat} {e : Expr} (h : chkE Z N (.var i) sc e = true) : PE X e (tV i) := by
  unfold chkE at h
  split at h
  · rename_i x p
    simp only [Bool.and_eq_true, decide_eq_true_eq] at h
    obtain ⟨h1, h2, h3⟩ := h
    unfold dbgB at h3
    simp only [Bool.and_eq_true, Bool.not_eq_true'] at h3
    exact PE.of (pe_var (i := i) (by rw [c.eN]; exact h1) (by rw [c.esc]; exact vis_of h2) h3.1 h3.2) fun σ H Q q => q
  · cases h
theorem case_sto (zo : Zok Z) (SA : SrtAll Z C k) {i : Nat} {x e : IE} : SS Z C k fu fr (.sto i x e) := by
  intro N X sc W c st h
  unfold chkS at h
  split at h
  · rename_i o ie p' v pos
    simp only [Bool.and_eq_true] at h
    obtain ⟨ho, ⟨hx, hsl⟩, hv⟩ := h
    refine PS.of (ps_asg (allE zo SA e c.toCok v hv).1 (pg_sub (var_pe c.toCok ho) (allE zo SA x c.toCok ie hx).1 set_list (by intro w; cases ie <;> first | rfl | cases hsl)) (by rw [sole_eq]; exact swS_ok)) fun σ H D q => ?_
    obtain ⟨cf, s, m, S1, o⟩ := q
    rw [ex] at o
    refine ⟨cf, s, m, S1, o.toS fun d m1 c1 w H1 l S2 r o2 => ?_⟩
    split at o2
    · rename_i xs e1
      obtain ⟨a, us, f1, f2, f3, f4, f5, f6⟩ := S2.ownAt e1
      refine ⟨.ref a, f2, c1, s, m1, S2, o2.toS fun j m2 c3 w3 H3 l3 S4 r3 o3 => ?_⟩
      split at o3
      · rename_i jj
        split at o3
        · rename_i n en
          split at o3
          · exact o3.elim
          · rename_i hb
            obtain ⟨a2, vs, g1, g2, g3, g4, g5, g6⟩ := S4.ownAt e1
            rw [f2] at g2
            cases g2
            have ej := rep_int.mp r3
            subst ej
            have rd := (r.mono l3).rp (show d.isBor = false by simpa using hb)
            refine ⟨a, vs, jj, n, rfl, rfl, g3, by rw [← g4.length]; exact en, o3 c3 σ _ Cfg.leS.rfl' (S4.rewr e1 g1 (g4.set n rd))⟩
        · exact o3.elim
      · exact o3.elim
    · exact o2.elim
  · cases h
theorem case_pst (zo : Zok Z) (SA : SrtAll Z C k) {i : Nat} {x y e : IE} : SS Z C k fu fr (.pst i x y e) := by
  intro N X sc W c st h
  unfold chkS at h
  split at h
  · rename_i o ie p1 o2 ie2 p2 kt pt v pos
    simp only [Bool.and_eq_true] at h
    obtain ⟨⟨ho, hx, hsl⟩, ⟨ho2, hy, hsl2⟩, hv, hlc⟩ := h
    refine PS.of (ps_asg (allE zo SA e c.toCok v hv).1 (pg_tup c.calm (pgs_cons (pg_sub (var_pe c.toCok ho) (allE zo SA x c.toCok ie hx).1 set_list (by intro w; cases ie <;> first | rfl | cases hsl)) (pgs_cons (pg_sub (var_pe c.toCok ho2) (allE zo SA y c.toCok ie2 hy).1 set_list (by intro w; cases ie2 <;> first | rfl | cases hsl2)) pgs_nil))) (by rw [sole_eq]; exact swD_ok hlc) psw_ok) fun σ H D q => ?_
    obtain ⟨cf, s, m, S1, o⟩ := q
    rw [ex] at o
    refine ⟨cf, s, m, S1, o.toS fun d m1 c1 w H1 l S2 r o2 => ?_⟩
    split at o2
    · rename_i a b xs e1
      split at o2
      · exact o2.elim
      · rename_i hb
        rw [not_or] at hb
        obtain ⟨ta, ws, rfl, t1, t2⟩ := rep_tup.mp r
        obtain ⟨wa, t3, rfl, ra, t4⟩ := t2.cons_inv
        obtain ⟨wb, t5, rfl, rb, t6⟩ := t4.cons_inv
        have := t6.nil_inv
        subst this
        obtain ⟨ad, us, f1, f2, f3, f4, f5, f6⟩ := S2.ownAt e1
        refine ⟨ta, [wa, wb], rfl, by rw [c.eK]; exact S2.exG.sqT t1, rfl, wa, [wb], rfl, .ref ad, f2, c1, s, m1, S2, o2.toS fun j m2 c3 w3 H3 l3 S4 r3 o3 => ?_⟩
        split at o3
        · rename_i jj
          split at o3
          · rename_i n en
            obtain ⟨a2, vs, g1, g2, g3, g4, g5, g6⟩ := S4.ownAt e1
            rw [f2] at g2
            cases g2
            have ej := rep_int.mp r3
            subst ej
            have rd := ra.mono l3.g l3.a
            have S5 := S4.rewr e1 g1 (g4.set n rd)
            have e2 : (s.set i (.own (xs.set n a)))[i]? = some (.own (xs.set n a)) := by
              rw [List.getElem?_set_self (List.getElem?_eq_some_iff.mp e1).1]
            refine ⟨ad, vs, jj, n, rfl, rfl, g3, by rw [← g4.length]; exact en, wb, [], rfl, .ref ad, f2, c3, _, m2, S5, o3.toS fun j2 m3 c4 w4 H4 l4 S6 r4 o4 => ?_⟩
            split at o4
            · rename_i jj2
              split at o4
              · rename_i n2 en2
                obtain ⟨a3, vs3, k1, k2, k3, k4, k5, k6⟩ := S6.ownAt e2
                rw [f2] at k2
                cases k2
                have ej := rep_int.mp r4
                subst ej
                have rd2 := (rb.mono l3.g l3.a).mono l4.g l4.a
                exact ⟨ad, vs3, jj2, n2, rfl, rfl, k3, by rw [← k4.length, List.length_set]; exact en2, rfl, o4 c4 σ _ Cfg.leS.rfl' (S6.rewr e2 k1 (k4.set n2 rd2))⟩
              · exact o4.elim
            · exact o4.elim
          · exact o3.elim
        · exact o3.elim
    · exact o2.elim
  · cases h
theorem case_sts (zo : Zok Z) (SA : SrtAll Z C k) {a x e : IE} : SS Z C k fu fr (.sts a x e) := by
  intro N X sc W c st h
  unfold chkS at h
  split at h
  · rename_i o ie p' v pos
    simp only [Bool.and_eq_true] at h
    obtain ⟨ho, ⟨hx, hsl⟩, hv⟩ := h
    refine PS.of (ps_asg (allE zo SA e c.toCok v hv).1 (pg_sub (allE zo SA a c.toCok o ho).1 (allE zo SA x c.toCok ie hx).1 set_list (by intro w; cases ie <;> first | rfl | cases hsl)) (by rw [sole_eq]; exact swS_ok)) fun σ H D q => ?_
    obtain ⟨cf, s, m, S1, o⟩ := q
    rw [ex] at o
    refine ⟨cf, s, m, S1, o.toS fun d m1 c1 w H1 l S2 r o2 => ⟨c1, s, m1, S2, o2.toS fun d2 m2 c2 w2 H2 l2 S3 r2 o3 => ⟨c2, s, m2, S3, o3.toS fun j m3 c3 w3 H3 l3 S4 r3 o4 => ?_⟩⟩⟩
    split at o4
    · rename_i kk jj
      split at o4
      · rename_i xs em
        split at o4
        · rename_i n en
          split at o4
          · exact o4.elim
          · rename_i hb
            have r2' : Rp Z.toZt c2.G c2.as (.ref kk) w2 := r2
            have r2'' := r2'.mono l3.g l3.a
            unfold Rp at r2''
            obtain ⟨ad, ea, rfl⟩ := r2''
            obtain ⟨vs, e1, e2⟩ := S4.cell kk _ ad em ea
            have ej := rep_int.mp r3
            subst ej
            have rd := ((r.mono l2).mono l3).rp (show d.isBor = false by simpa using hb)
            exact ⟨ad, vs, jj, n, rfl, rfl, e1, by rw [← e2.length]; exact en, o4 c3 σ _ Cfg.leS.rfl' (S4.poke_cell em ea ⟨_, upd_same, e2.set n rd⟩)⟩
        · exact o4.elim
      · exact o4.elim
    · exact o4.elim
  · cases h
theorem case_aug (zo : Zok Z) (SA : SrtAll Z C k) {i : Nat} {o : Bop} {e : IE} : SS Z C k fu fr (.aug i o e) := by
  intro N X sc W c st h
  unfold chkS at h
  split at h
  · rename_i x p' op v pos
    simp only [Bool.and_eq_true, decide_eq_true_eq] at h
    obtain ⟨⟨hN, hl⟩, hop, hv⟩ := h
    obtain ⟨h1, h2⟩ := fn_of c hl
    cases o <;> cases op <;> first | (cases hop; done) | skip
    · refine PS.of (ps_aug (i := i) (by rw [c.eN]; exact c.nd) (by rw [c.eN]; exact hN) h1 (allE zo SA e c.toCok v hv).1 ip_add h2) fun σ H D q => ?_
      obtain ⟨cf, s, m, S1, o1⟩ := q
      rw [ex] at o1
      split at o1
      · rename_i xi es
        obtain ⟨_, v0, q1, q2⟩ := S1.slot i _ es
        have q2 : v0 = .int xi := by unfold Rp at q2; exact q2
        subst q2
        have hi := (List.getElem?_eq_some_iff.mp es).1
        refine ⟨_, q1, cf, s, m, S1, o1.toS fun d m1 c1 w H1 l S2 r o2 => ?_⟩
        cases d with
        | int y =>
          have ej := rep_int.mp r
          subst ej
          refine ⟨xi, y, rfl, rfl, ?_⟩
          have o3 : OutS Z W fr c1 (.nx (s.set i (.val (.int (xi + y)))) m1) D := o2
          exact o3 (c1.rel i) _ _ Cfg.leS_rel (S2.store (by unfold Rp; rfl) hi)
        | _ => exact (show False from o2).elim
      · exact o1.elim
    · refine PS.of (ps_aug (i := i) (by rw [c.eN]; exact c.nd) (by rw [c.eN]; exact hN) h1 (allE zo SA e c.toCok v hv).1 ip_sub h2) fun σ H D q => ?_
      obtain ⟨cf, s, m, S1, o1⟩ := q
      rw [ex] at o1
      split at o1
      · rename_i xi es
        obtain ⟨_, v0, q1, q2⟩ := S1.slot i _ es
        have q2 : v0 = .int xi := by unfold Rp at q2; exact q2
        subst q2
        have hi := (List.getElem?_eq_some_iff.mp es).1
        refine ⟨_, q1, cf, s, m, S1, o1.toS fun d m1 c1 w H1 l S2 r o2 => ?_⟩
        cases d with
        | int y =>
          have ej := rep_int.mp r
          subst ej
          refine ⟨xi, y, rfl, rfl, ?_⟩
          have o3 : OutS Z W fr c1 (.nx (s.set i (.val (.int (xi - y)))) m1) D := o2
          exact o3 (c1.rel i) _ _ Cfg.leS_rel (S2.store (by unfold Rp; rfl) hi)
        | _ => exact (show False from o2).elim
      · exact o1.elim
  · cases h
theorem few_ok {e : Expr} {cpos : Pos} {env : Env} (h : ∀ es, starEach (e :: es) env = (false, eval e env) :: starEach es env) : ((backTo cpos (starEach [e] env)).all (fun x => !x.1) && (backToKw cpos (keywordEach [] env)).all (fun x => x.1.isSome)
      && decide (([e] : List Expr).length + ([] : List Keyword).length + (if ([] : List Keyword).isEmpty then 0 else 1) < 30)) = true := by
  rw [h]
  rfl
theorem case_app (zo : Zok Z) (SA : SrtAll Z C k) {i : Nat} {e : IE} : SS Z C k fu fr (.app i e) := by
  intro N X sc W c st h
  unfold chkS at h
  split at h
  · rename_i o m' apos v cpos pos
    simp only [Bool.and_eq_true, decide_eq_true_eq] at h
    obtain ⟨⟨rfl, hln⟩, ⟨ho, hns⟩, hv⟩ := h
    have st1 : ∀ es, starEach (v :: es) X.env = (false, eval v X.env) :: starEach es X.env := fun es => star_one (noStar hv)
    refine PS.of (ps_expr (pe_bm PySem.F.plainAttrs_list PySem.F.slot_list_append PySem.F.type_list_append mt_append (var_pe c.toCok ho) (pa_cons (allE zo SA e c.toCok v hv).1 pa_nil (st1 _)) (attr_base hns) (few_ok st1) hln (st1 _) rfl)) fun σ H D q => ?_
    obtain ⟨cf, s, m, S1, o1⟩ := q
    rw [ex] at o1
    split at o1
    · rename_i xs e1
      obtain ⟨a, us, f1, f2, f3, f4, f5, f6⟩ := S1.ownAt e1
      refine ⟨.ref a, f2, .inl ⟨rfl, us, SqL.of f3⟩, cf, s, m, S1, o1.toS fun d m1 c1 w H1 l S2 r o2 => ?_⟩
      split at o2
      · rename_i hh
        obtain ⟨a2, vs, g1, g2, g3, g4, g5, g6⟩ := S2.ownAt e1
        rw [f2] at g2
        cases g2
        refine ⟨a, vs, w, rfl, rfl, g3, Nat.lt_of_lt_of_le (show vs.length < 100000 by rw [← g4.length]; exact hh.2) line_lim, o2 c1 σ _ Cfg.leS.rfl' (S2.rewr e1 g1 (g4.append (.cons (r.rp hh.1) .nil)))⟩
      · exact o2.elim
    · exact o1.elim
  · cases h
theorem case_apc (zo : Zok Z) (SA : SrtAll Z C k) {a e : IE} : SS Z C k fu fr (.apc a e) := by
  intro N X sc W c st h
  unfold chkS at h
  split at h
  · rename_i o m' apos v cpos pos
    simp only [Bool.and_eq_true, decide_eq_true_eq] at h
    obtain ⟨⟨rfl, hln⟩, ⟨ho, hns⟩, hv⟩ := h
    have st1 : ∀ es, starEach (v :: es) X.env = (false, eval v X.env) :: starEach es X.env := fun es => star_one (noStar hv)
    refine PS.of (ps_expr (pe_bm PySem.F.plainAttrs_list PySem.F.slot_list_append PySem.F.type_list_append mt_append (allE zo SA a c.toCok o ho).1 (pa_cons (allE zo SA e c.toCok v hv).1 pa_nil (st1 _)) (attr_base hns) (few_ok st1) hln (st1 _) rfl)) fun σ H D q => ?_
    obtain ⟨cf, s, m, S1, o1⟩ := q
    rw [ex] at o1
    refine ⟨cf, s, m, S1, o1.toS fun d m1 c1 w H1 l S2 r o2 => ?_⟩
    split at o2
    · rename_i kk
      split at o2
      · rename_i zs em
        have r' : Rp Z.toZt c1.G c1.as (.ref kk) w := r
        unfold Rp at r'
        obtain ⟨ad, ea, rfl⟩ := r'
        obtain ⟨vs, e1, e2⟩ := S2.cell kk _ ad em ea
        refine ⟨.inl ⟨rfl, vs, SqL.of e1⟩, c1, s, m1, S2, o2.toS fun d2 m2 c2 w2 H2 l2 S3 r2 o3 => ?_⟩
        split at o3
        · rename_i xs em2
          split at o3
          · rename_i hh
            have ea2 := pre_get l2.a ea
            obtain ⟨us, f1, f2⟩ := S3.cell kk _ ad em2 ea2
            exact ⟨ad, us, w2, rfl, rfl, f1, Nat.lt_of_lt_of_le (show us.length < 100000 by rw [← f2.length]; exact hh.2) line_lim, o3 c2 σ _ Cfg.leS.rfl' (S3.poke_cell em2 ea2 ⟨_, upd_same, f2.append (.cons (r2.rp hh.1) .nil)⟩)⟩
          · exact o3.elim
        · exact o3.elim
      · exact o2.elim
    · exact o2.elim
  · cases h
theorem get_list : PGet X fun o i H Q => ∃ p xs k v, o = V.ref p ∧ i = V.int k ∧ H p = some (.lst xs) ∧ L2.atI xs k = some v ∧ Q v H := by
  intro pins s σ H o i ov iv Q I ro ri h
  obtain ⟨p, xs, k, z, rfl, rfl, hp, he, q⟩ := h
  cases ro
  obtain ⟨t, rfl⟩ := ri
  obtain ⟨its, r, pl, hz⟩ := I.list (SqL.of hp)
  obtain ⟨j, h1, h2, h3, h4, h5⟩ := L2.atI_get he
  obtain ⟨w, ew, rw'⟩ := r.get h2
  have hl := r.length
  have hn := line63
  have fin : EP X pins σ Q w s := ⟨z, H, I, rw', q⟩
  by_cases h0 : 0 ≤ k
  · have hj : k.toNat = j := by
      rw [seqIndex_of h0 h5] at h1
      exact Option.some.inj h1
    exact wpAny_getItem_list pl.isList h0 (by omega) (by rw [hj]; simpa using ew) fin
  · have hj : (k + (its.toArray.size : Int)).toNat = j := by
      rw [seqIndex_neg (by omega) h4] at h1
      rw [List.size_toArray, ← hl]
      exact Option.some.inj h1
    exact wpAny_getItem_list_neg pl.isList (by omega) (by rw [List.size_toArray] <;> omega) (by omega) (by rw [hj]; simpa using ew) fin
theorem case_aus (zo : Zok Z) (SA : SrtAll Z C k) {a x e : IE} {o : Bop} : SS Z C k fu fr (.aus a x o e) := by
  intro N X sc W c st h
  unfold chkS at h
  split at h
  · rename_i p ie p' op v pos
    simp only [Bool.and_eq_true] at h
    obtain ⟨⟨hop, ho⟩, ⟨hx, hsl⟩, hv⟩ := h
    have key : ∀ (f : Int → Int → Int) (tip : TIp), (∀ i j H Q, Q (V.int (f i j)) H → tip (V.int i) (V.int j) H Q) → PIp X op tip → (∀ (s : List S) (m3 : Mu) (kk n : Nat) (ys : List Pm.D) (u w : Int), (match o with
                | .add => RS.nx s (m3.set kk (.lst (ys.set n (.int (u + w)))))
                | .sub => .nx s (m3.set kk (.lst (ys.set n (.int (u - w)))))
                | _ => .bad) = .nx s (m3.set kk (.lst (ys.set n (.int (f u w)))))) → PS X (.AugAssign (.Subscript p ie p') op v pos) (tS Z W fr (ex Z.T C fu (.aus a x o e))) := by
      intro f tip ht hp hf
      refine PS.of (ps_augS (allE zo SA a c.toCok p ho).1 (allE zo SA x c.toCok ie hx).1 get_list (allE zo SA e c.toCok v hv).1 hp set_list (by intro w u z; cases ie <;> first | rfl | cases hsl)) fun σ H D q => ?_
      obtain ⟨cf, s, m, S1, o1⟩ := q
      rw [ex] at o1
      refine ⟨cf, s, m, S1, o1.toS fun d m1 c1 w H1 l S2 r o2 => ⟨c1, s, m1, S2, o2.toS fun d2 m2 c2 w2 H2 l2 S3 r2 o3 => ?_⟩⟩
      split at o3
      · rename_i kk jj
        split at o3
        · rename_i xs em
          split at o3
          · rename_i u eu
            have r1' : Rp Z.toZt c1.G c1.as (.ref kk) w := r
            have r1'' := r1'.mono l2.g l2.a
            unfold Rp at r1''
            obtain ⟨ad, ea, rfl⟩ := r1''
            obtain ⟨vs, e1, e2⟩ := S3.cell kk _ ad em ea
            have ej := rep_int.mp r2
            subst ej
            obtain ⟨vu, k1, k2⟩ := atI_get e2 eu
            have ku : vu = .int u := by unfold Rp at k2; exact k2
            subst ku
            refine ⟨ad, vs, jj, _, rfl, rfl, e1, k1, c2, s, m2, S3, o3.toS fun d3 m3 c3 w3 H3 l3 S4 r3 o4 => ?_⟩
            cases d3 with
            | int wv =>
              have ej := rep_int.mp r3
              subst ej
              refine ht _ _ _ _ ?_
              have o4 : OutS Z W fr c3 (match m3[kk]? with
                | some (.lst ys) => (match L2.ixN ys.length jj with
                  | some n => (match o with
                    | .add => .nx s (m3.set kk (.lst (ys.set n (.int (u + wv)))))
                    | .sub => .nx s (m3.set kk (.lst (ys.set n (.int (u - wv)))))
                    | _ => .bad)
                  | none => .bad)
                | _ => .bad) D := o4
              split at o4
              · rename_i ys em3
                split at o4
                · rename_i n en
                  rw [hf] at o4
                  have ea3 := pre_get l3.a ea
                  obtain ⟨us, f1, f2⟩ := S4.cell kk _ ad em3 ea3
                  exact ⟨ad, us, jj, n, rfl, rfl, f1, by rw [← f2.length]; exact en, o4 c3 σ _ Cfg.leS.rfl' (S4.poke_cell em3 ea3 ⟨_, upd_same, f2.set n (by unfold Rp; rfl)⟩)⟩
                · exact o4.elim
              · exact o4.elim
            | _ => exact (show False from o4).elim
          · exact o3.elim
        · exact o3.elim
      · exact o3.elim
    cases o <;> cases op <;> first | (cases hop; done) | skip
    · exact key (· + ·) _ (fun i j H Q q => ⟨i, j, rfl, rfl, q⟩) ip_add fun _ _ _ _ _ _ _ => rfl
    · exact key (· - ·) _ (fun i j H Q q => ⟨i, j, rfl, rfl, q⟩) ip_sub fun _ _ _ _ _ _ _ => rfl
  · cases h
theorem Rps.erase {Z : Zt} {G : Hp} {as : List Addr} : ∀ {ds : List Pm.D} {vs : List V} (n : Nat), Rps Z G as ds vs → Rps Z G as (ds.eraseIdx n) (vs.eraseIdx n)
  | [], _, n, h => by rw [h.nil_inv]; exact Rps.nil
  | x :: xs, _, 0, h => by
    obtain ⟨v, r, rfl, h1, h2⟩ := h.cons_inv
    exact h2
  | x :: xs, _, n + 1, h => by
    obtain ⟨v, r, rfl, h1, h2⟩ := h.cons_inv
    exact Rps.cons h1 (Rps.erase n h2)
theorem case_pop (zo : Zok Z) (SA : SrtAll Z C k) {i j : Nat} {e : IE} : SS Z C k fu fr (.pop i j e) := by
  intro N X sc W c st h
  unfold chkS at h
  split at h
  · rename_i x p o m' apos v cpos pos
    simp only [Bool.and_eq_true, decide_eq_true_eq] at h
    obtain ⟨⟨hN, hl⟩, ⟨rfl, hln⟩, ⟨ho, hns⟩, hv⟩ := h
    obtain ⟨h1, h2⟩ := fn_of c hl
    have st1 : ∀ es, starEach (v :: es) X.env = (false, eval v X.env) :: starEach es X.env := fun es => star_one (noStar hv)
    refine PS.of (ps_set (i := i) (by rw [c.eN]; exact c.nd) (by rw [c.eN]; exact hN) h1 (pe_bm PySem.F.plainAttrs_list PySem.F.slot_list_pop PySem.F.type_list_pop mt_popAt (var_pe c.toCok ho) (pa_cons (allE zo SA e c.toCok v hv).1 pa_nil (st1 _)) (attr_base hns) (few_ok st1) hln (st1 _) rfl) (swN_ok c.esc rfl) h2) fun σ H D q => ?_
    obtain ⟨cf, s, m, S1, o1⟩ := q
    rw [ex] at o1
    split at o1
    · rename_i ys e1
      obtain ⟨a, us, f1, f2, f3, f4, f5, f6⟩ := S1.ownAt e1
      refine ⟨.ref a, f2, .inl ⟨rfl, us, SqL.of f3⟩, cf, s, m, S1, o1.toS fun d m1 c1 w H1 l S2 r o2 => ?_⟩
      split at o2
      · rename_i q
        split at o2
        · rename_i n en
          split at o2
          · rename_i y ey
            split at o2
            · rename_i hi
              obtain ⟨a2, vs, g1, g2, g3, g4, g5, g6⟩ := S2.ownAt e1
              rw [f2] at g2
              cases g2
              have ej := rep_int.mp r
              subst ej
              obtain ⟨vy, k1, k2⟩ := g4.get ey
              obtain ⟨z1, z2, z3, z4⟩ := ixN_seq en
              have zl := g4.length
              have hL : lim = 100000 := rfl
              have S3 := S2.rewr e1 g1 (g4.erase n)
              refine ⟨a, vs, q, n, vy, rfl, rfl, g3, by have := hi.2; omega, by have := hi.2; omega, by rw [← zl]; exact z1, k1, ?_⟩
              exact o2 (c1.rel i) _ _ Cfg.leS_rel (S3.store k2 (by rw [List.length_set]; exact hi.1))
            · exact o2.elim
          · exact o2.elim
        · exact o2.elim
      · exact o2.elim
    · exact o1.elim
  · cases h
theorem case_apo (zo : Zok Z) (SA : SrtAll Z C k) {i j : Nat} {e : IE} : SS Z C k fu fr (.apo i j e) := by
  intro N X sc W c st h
  unfold chkS at h
  split at h
  · rename_i o m' apos o2 m2 apos2 v cpos2 cpos pos
    simp only [Bool.and_eq_true, decide_eq_true_eq] at h
    obtain ⟨⟨⟨rfl, hln⟩, ho, hns⟩, ⟨rfl, hln2⟩, ⟨ho2, hns2⟩, hv⟩ := h
    have st1 : ∀ es, starEach (v :: es) X.env = (false, eval v X.env) :: starEach es X.env := fun es => star_one (noStar hv)
    refine PS.of (ps_expr (pe_bm PySem.F.plainAttrs_list PySem.F.slot_list_append PySem.F.type_list_append mt_append (var_pe c.toCok ho) (pa_cons (pe_bm PySem.F.plainAttrs_list PySem.F.slot_list_pop PySem.F.type_list_pop mt_popAt (var_pe c.toCok ho2) (pa_cons (allE zo SA e c.toCok v hv).1 pa_nil (st1 _)) (attr_base hns2) (few_ok st1) hln2 (st1 _) rfl) pa_nil) (attr_base hns) rfl hln rfl rfl)) fun σ H D q => ?_
    obtain ⟨cf, s, m, S1, o1⟩ := q
    rw [ex] at o1
    split at o1
    · rename_i xs ys e1 e2
      obtain ⟨a, us, f1, f2, f3, f4, f5, f6⟩ := S1.ownAt e1
      obtain ⟨b, ws, b1, b2, b3, b4, b5, b6⟩ := S1.ownAt e2
      refine ⟨.ref a, f2, .inl ⟨rfl, us, SqL.of f3⟩, .ref b, b2, .inl ⟨rfl, ws, SqL.of b3⟩, cf, s, m, S1, o1.toS fun d m1 c1 w H1 l S2 r o2 => ?_⟩
      split at o2
      · rename_i q
        split at o2
        · rename_i n en
          split at o2
          · rename_i y ey
            split at o2
            · rename_i hh
              obtain ⟨hij, hx, hy⟩ := hh
              obtain ⟨b', ws', g1, g2, g3, g4, g5, g6⟩ := S2.ownAt e2
              rw [b2] at g2
              cases g2
              have ej := rep_int.mp r
              subst ej
              obtain ⟨vy, k1, k2⟩ := g4.get ey
              obtain ⟨z1, z2, z3, z4⟩ := ixN_seq en
              have zl := g4.length
              have hL : lim = 100000 := rfl
              have S3 := S2.rewr e2 g1 (g4.erase n)
              have e1' : (s.set j (.own (ys.eraseIdx n)))[i]? = some (.own xs) := by rw [List.getElem?_set_ne (fun z => hij z.symm)]; exact e1
              obtain ⟨a', us', p1, p2, p3, p4, p5, p6⟩ := S3.ownAt e1'
              rw [f2] at p2
              cases p2
              refine ⟨b, ws', q, n, vy, rfl, rfl, g3, by omega, by omega, by rw [← zl]; exact z1, k1, a, us', vy, rfl, rfl, p3, ?_, ?_⟩
              · exact Nat.lt_of_lt_of_le (show us'.length < 100000 by rw [← p4.length]; exact hx) line_lim
              · exact o2 c1 σ _ Cfg.leS.rfl' (S3.rewr e1' p1 (p4.append (.cons k2 .nil)))
            · exact o2.elim
          · exact o2.elim
        · exact o2.elim
      · exact o2.elim
    · exact o1.elim
  · cases h
theorem case_exd (zo : Zok Z) (SA : SrtAll Z C k) {i : Nat} {e : IE} : SS Z C k fu fr (.exd i e) := by
  intro N X sc W c st h
  unfold chkS at h
  split at h
  · rename_i o m' apos v cpos pos
    simp only [Bool.and_eq_true, decide_eq_true_eq] at h
    obtain ⟨⟨rfl, hln⟩, ⟨ho, hns⟩, hv⟩ := h
    have st1 : ∀ es, starEach (v :: es) X.env = (false, eval v X.env) :: starEach es X.env := fun es => star_one (noStar hv)
    refine PS.of (ps_expr (pe_bm PySem.F.plainAttrs_list PySem.F.slot_list_extend PySem.F.type_list_extend mt_extend (var_pe c.toCok ho) (pa_cons (allE zo SA e c.toCok v hv).1 pa_nil (st1 _)) (attr_base hns) (few_ok st1) hln (st1 _) rfl)) fun σ H D q => ?_
    obtain ⟨cf, s, m, S1, o1⟩ := q
    rw [ex] at o1
    split at o1
    · rename_i xs e1
      obtain ⟨a, us, f1, f2, f3, f4, f5, f6⟩ := S1.ownAt e1
      refine ⟨.ref a, f2, .inl ⟨rfl, us, SqL.of f3⟩, cf, s, m, S1, o1.toS fun d m1 c1 w H1 l S2 r o2 => ?_⟩
      split at o2
      · rename_i ys
        split at o2
        · rename_i hh
          obtain ⟨a2, vs, g1, g2, g3, g4, g5, g6⟩ := S2.ownAt e1
          rw [f2] at g2
          cases g2
          obtain ⟨b, zs, rfl, k1, k2⟩ := rep_lst.mp r
          refine ⟨a, b, vs, zs, rfl, rfl, g3, S2.exG _ _ k1, Nat.le_trans (show vs.length + zs.length ≤ 100000 by rw [← g4.length, ← k2.length]; exact hh) line_lim, o2 c1 σ _ Cfg.leS.rfl' (S2.rewr e1 g1 (g4.append k2))⟩
        · exact o2.elim
      · exact o2.elim
    · exact o1.elim
  · cases h
theorem case_exp (zo : Zok Z) (SA : SrtAll Z C k) {e : IE} : SS Z C k fu fr (.exp e) := by
  intro N X sc W c st h
  unfold chkS at h
  split at h
  · rename_i v pos
    rw [Bool.and_eq_true] at h
    refine PS.of (ps_expr (allE zo SA e c.toCok v h.1).1 (swD_ok h.2)) fun σ H D q => ?_
    obtain ⟨cf, s, m, S1, o1⟩ := q
    rw [ex] at o1
    exact ⟨cf, s, m, S1, o1.toS fun d m1 c1 w H1 l S2 r o2 => o2 c1 σ H1 Cfg.leS.rfl' S2⟩
  · cases h
section
variable {cf : Cfg} {s : List S} {m : Mu} {σ : L2.St} {H : Hp} {D : Ends}
theorem out_rt {d : Pm.D} {v : V} (hf : fr = false) (S1 : Sim Z.toZt cf s m σ H) (r : Rp Z.toZt cf.G cf.as d v) (o : OutS Z W fr cf (.rt d m) D) : D.rt v H := by
  obtain ⟨S2, l⟩ := S1.bare
  refine o cf.bare v H l rfl S2 ?_
  unfold RetRel
  rw [hf, if_neg (by simp)]
  exact r
theorem out_rtO {xs : List Pm.D} {i : Nat} {a : Addr} (S1 : Sim Z.toZt cf s m σ H) (h1 : s[i]? = some (.own xs)) (h2 : cf.os[i]? = some (some a)) (o : OutS Z W fr cf (.rt (.lst xs) m) D) : D.rt (.ref a) H := by
  cases hf : fr with
  | true =>
    obtain ⟨S2, l⟩ := S1.bare
    obtain ⟨a', vs, k1, k2, k3, k4, k5, k6⟩ := S1.ownAt h1
    rw [h2] at k1
    cases k1
    refine o cf.bare _ H l rfl S2 ?_
    unfold RetRel
    rw [hf, if_pos rfl]
    refine ⟨xs, rfl, a, vs, rfl, k3, k4, k5, k6, ?_⟩
    rintro (t | t)
    · have n := S1.nd
      rw [List.nodup_append] at n
      exact n.2.2 a t a (os_mem.mpr (mem_os h2)) rfl
    · simp [Cfg.bare] at t
  | false =>
    obtain ⟨c', l, e1, e2, S2, b, e3, r⟩ := S1.frz h1
    obtain ⟨a', vs, k1, k2, k3, k4, k5, k6⟩ := S1.ownAt h1
    rw [h2] at k1
    cases k1
    rw [k2] at e3
    cases e3
    exact out_rt hf S2 r (OutS.mono l o)
end
theorem case_ret (zo : Zok Z) (SA : SrtAll Z C k) {e : IE} : SS Z C k fu fr (.ret e) := by
  intro N X sc W c st h
  unfold chkS at h
  split at h
  · rename_i v pos
    simp only [Bool.and_eq_true, Bool.not_eq_true'] at h
    obtain ⟨hf, hv⟩ := h
    refine PS.of (ps_ret (allE zo SA e c.toCok v hv).1) fun σ H D q => ?_
    obtain ⟨cf, s, m, S1, o1⟩ := q
    rw [ex] at o1
    refine ⟨cf, s, m, S1, o1.toS fun d m1 c1 w H1 l S2 r o2 => ?_⟩
    split at o2
    · rename_i xs
      obtain ⟨i, a, e1, e2, rfl⟩ := (show ∃ (i : Nat) (a : Addr), s[i]? = some (S.own xs) ∧ c1.os[i]? = some (some a) ∧ w = .ref a from r)
      exact out_rtO S2 e1 e2 o2
    · rename_i hb
      exact out_rt hf S2 (r.rp (by cases d <;> first | rfl | exact absurd rfl (hb _))) o2
  · cases h
theorem case_rtn : SS Z C k fu fr .rtn := by
  intro N X sc W c st h
  unfold chkS at h
  split at h
  · simp only [Bool.not_eq_true'] at h
    refine PS.of ps_retN fun σ H D q => ?_
    obtain ⟨cf, s, m, S1, o1⟩ := q
    exact out_rt h S1 (show Rp Z.toZt cf.G cf.as .non .non by unfold Rp; rfl) (show OutS Z W fr cf (.rt .non m) D from o1)
  · cases h
theorem case_rtf (zo : Zok Z) (SA : SrtAll Z C k) {f : FE} : SS Z C k fu fr (.rtf f) := by
  intro N X sc W c st h
  unfold chkS at h
  split at h
  · rename_i v pos
    refine PS.of (ps_ret (allF zo SA f c.toCok v h)) fun σ H D q => ?_
    obtain ⟨cf, s, m, S1, o1⟩ := q
    rw [ex] at o1
    refine ⟨cf, s, m, S1, o1.toS fun xs m1 c1 w H1 l S2 r o2 => ?_⟩
    obtain ⟨a, vs, rfl, g1, g2, g3, g4, g5⟩ := r
    cases hf : fr with
    | true =>
      obtain ⟨S3, l3⟩ := S2.bare
      refine o2 c1.bare _ H1 l3 rfl S3 ?_
      unfold RetRel
      rw [hf, if_pos rfl]
      exact ⟨xs, rfl, a, vs, rfl, g1, g2, g3, g4, fun t => g5 (t.imp id fun z => by simp [Cfg.bare] at z)⟩
    | false =>
      obtain ⟨S3, l3⟩ := S2.keep g1 g3 g4 g5
      refine out_rt hf S3 ?_ (OutS.mono l3.s o2)
      unfold Rp
      exact ⟨a, vs, rfl, upd_same, g2.mono l3.g l3.a⟩
  · cases h
theorem case_rto {i : Nat} : SS Z C k fu fr (.rto i) := by
  intro N X sc W c st h
  unfold chkS at h
  split at h
  · rename_i v pos
    refine PS.of (ps_ret (var_pe c.toCok h)) fun σ H D q => ?_
    obtain ⟨cf, s, m, S1, o1⟩ := q
    rw [ex] at o1
    split at o1
    · rename_i xs e1
      obtain ⟨a, vs, k1, k2, k3, k4, k5, k6⟩ := S1.ownAt e1
      exact ⟨.ref a, k2, out_rtO S1 e1 k1 o1⟩
    · exact o1.elim
  · cases h
end
end Pm
end
end
section
set_option Elab.async false
set_option linter.all false
set_option maxRecDepth 100000
set_option maxHeartbeats 4000000
/-! Pm34: raise, try .. except X as e. -/
noncomputable section
namespace Pm
open PySem PySem.Spec L2
/-- raise X(), X over ValueError without own __init__ -/
theorem pmk_own0 {X : Cx} {C : Addr} {bmB : List Value} {B newId initId : String} {x : Str} {p pos : Pos} (F : ExcBaseFacts B newId initId bmB) (q : PySem.W.excIn X.K C bmB newId = true) (gC : X.mg x = some (.ref C)) (kC : PySem.W.keepIn X.K (.ref C) = true) (r : Raises X (.ref C)) (hg : Gl X x)
    (hdb : (x == ("__debug__" : Str)) = false) : PMk X (.Call (.Name x p) [] [] pos) (fun _ H Q => Q (.ref C) none H) := by
  intro pins s σ H Q I h
  refine wpAny_Call_Name_kw (ld_glob I hg gC ?_ hdb)
  refine PySem.W.callWith_K0 I.kIn kC ?_
  show wpAny _ _ (call (.ref C) []) _ _ _
  obtain ⟨bm, N, nm, qn, bs, hdct, sn, sub, ab, col, dd, k0, k1, k2, k3, k5, mN, hC, hN, hni, T⟩ := exc_obj I.kIn q
  refine wpAny_call_exc_subT F T hC hN hni (fun h' e hm => ?_) (by show 0 ≤ sizeLine; omega)
  exact mk_of I hm r h (I.hok.gone hm.new)
section
variable {Z : Ze} {C : CF} {k fu : Nat} {fr : Bool}
theorem case_rse {c : Nat} {as : IEs} : SS Z C k fu fr (.rse c as) := by
  intro N X sc W ck st h
  unfold chkS at h
  split at h
  · split at h
    · rename_i x p pos' pos
      simp only [Bool.and_eq_true, decide_eq_true_eq] at h
      obtain ⟨h1, rfl, h3⟩ := h
      obtain ⟨g1, g2, g3⟩ := ck.gl h3
      obtain ⟨e1, e2, e3, e4, e5, e6, e7⟩ := ck.txt.xrs c h1
      have gm : X.mg (Z.xtn c) = some (.ref (Z.ecl c)) := by
        rcases ck.txt.xty c e3 with q | ⟨_, _, q⟩
        · rw [q, e2]
        · rw [e2] at q; cases q
      refine PS.of (ps_raise ck.calm ck.tk (pmk_own0 PySem.F.excBase_ValueError (by rw [ck.eK]; exact e4) gm (by rw [ck.eK]; exact e5) (raises_own (by rw [ck.eK]; exact e6) (by rw [ck.eK]; exact e7)) g1 g2)) fun σ H D q => ?_
      obtain ⟨cf, s, m, S1, o⟩ := q
      rw [ex] at o
      exact o cf σ _ none H Cfg.leS.rfl' S1 ⟨rfl, by rw [e1]; exact ⟨rfl, rfl⟩⟩
    · cases h
  · cases h
/-! ### except suites -/
/-- the suite's context -/
structure CokH (Z : Ze) (N : List Str) (X : Cx) (sc : Scope) (i x : Nat) (a : Addr) (oe : Obj) : Prop where
  eK : X.K = Z.K
  eN : X.N = N
  nd : N.Nodup
  esc : X.env.scope = sc
  txt : Txt Z X.mg
  knd : sc.kind = .function
  zc : Zc (.ref (Z.ecl x)) none oe
  fl : ∃ vs, oe.data = .fields vs
def OutH (Z : Ze) (c : Cfg) (s : List S) (m : Mu) (σ : L2.St) (o : Option D) (Q : VK) : Prop := match o with
  | some d => ∀ c' v H', c.le c' → Sim Z.toZt c' s m σ H' → Rp Z.toZt c'.G c'.as d v → Q v H'
  | none => False
theorem OutH.mono {Z : Ze} {c c' : Cfg} {s : List S} {m : Mu} {σ : L2.St} {o : Option D} {Q : VK} (l : c.le c') (h : OutH Z c s m σ o Q) : OutH Z c' s m σ o Q := by
  cases o with
  | none => exact h
  | some d => exact fun c2 v H' l2 => h c2 v H' (l.trans l2)
theorem OutH.bind {Z : Ze} {c : Cfg} {s : List S} {m : Mu} {σ : L2.St} {o : Option D} {f : D → Option D} {Q Q' : VK} (h : OutH Z c s m σ (o.bind f) Q')
    (k : ∀ d c1 v H1, c.le c1 → Sim Z.toZt c1 s m σ H1 → Rp Z.toZt c1.G c1.as d v → OutH Z c1 s m σ (f d) Q' → Q v H1) : OutH Z c s m σ o Q := by
  cases o with
  | none => exact h
  | some d => exact fun c1 v H1 l S1 r => k d c1 v H1 l S1 r (OutH.mono l h)
theorem OutH.done {Z : Ze} {c : Cfg} {s : List S} {m : Mu} {σ : L2.St} {d : D} {v : V} {H : Hp} {Q : VK} (h : OutH Z c s m σ (some d) Q) (S1 : Sim Z.toZt c s m σ H) (r : Rp Z.toZt c.G c.as d v) : Q v H := h c v H Cfg.le.rfl' S1 r
def tHE (Z : Ze) (i : Nat) (a : Addr) (f : List S → Mu → Option D) : TE := fun σ H Q => ∃ c s m, Sim Z.toZt c s m σ H ∧ σ[i]? = some (some (.ref a)) ∧ OutH Z c s m σ (f s m) Q
def tHT (Z : Ze) (i : Nat) (a : Addr) (f : List S → Mu → Option Bool) : TT := fun σ H Q => ∃ c s m, Sim Z.toZt c s m σ H ∧ σ[i]? = some (some (.ref a)) ∧ OutH Z c s m σ ((f s m).map .bl) (fun v H' => ∃ b, v = .bl b ∧ Q b H')
/-- the suite's own context over X -/
abbrev Cxh (X : Cx) (a : Addr) (oe : Obj) (pn : List (Addr × Obj)) : Cx := X.suite a ((a, oe) :: pn)
def truH (T : Tab) (x : Nat) (e : HE) (s : List S) (m : Mu) : Option Bool := (evH T x e s m).bind (truth m)
def SH (Z : Ze) (e : HE) : Prop := ∀ {N : List Str} {X : Cx} {sc : Scope} {i x : Nat} {a : Addr} {oe : Obj} {pn : List (Addr × Obj)}, CokH Z N X sc i x a oe → ∀ st, chkH Z N i e sc st = true →
  PE (Cxh X a oe pn) st (tHE Z i a (evH Z.T x e)) ∧ PT (Cxh X a oe pn) st (tHT Z i a (truH Z.T x e))
section
variable {N : List Str} {X : Cx} {sc : Scope} {i x : Nat} {a : Addr} {oe : Obj} {pn : List (Addr × Obj)}
theorem OutH.tru {cf : Cfg} {s : List S} {m : Mu} {σ : L2.St} {e : HE} {Q : Bool → Hp → Prop} (o : OutH Z cf s m σ ((truH Z.T x e s m).map .bl) (fun v H' => ∃ b, v = .bl b ∧ Q b H')) :
    OutH Z cf s m σ (evH Z.T x e s m) (fun v H1 => ∀ (X : Cx), X.K = Z.K → ∃ b, TruV X.K v H1 b ∧ Q b H1) := by
  unfold truH at o
  cases e1 : evH Z.T x e s m with
  | none => rw [e1] at o; exact o
  | some d =>
    rw [e1] at o
    cases t : truth m d with
    | none =>
      have o : OutH Z cf s m σ ((truth m d).map .bl) _ := o
      rw [t] at o; exact o.elim
    | some b =>
      have o : OutH Z cf s m σ ((truth m d).map .bl) _ := o
      rw [t] at o
      intro c1 v H1 l S1 r X eK
      obtain ⟨b', h1, h2⟩ := o c1 (.bl b) H1 l S1 (by unfold Rp; rfl)
      cases h1
      exact ⟨b, tru_ofK eK S1 (Rep.of r) t, h2⟩
theorem test_ofH (c : CokH Z N X sc i x a oe) {ie : HE} {e : Expr} (h : PE (Cxh X a oe pn) e (tHE Z i a (evH Z.T x ie))) (he : ∀ whole, isTrue e X.env whole = (do let v ← whole; standAt e.pos; holding [v] (truthy v))) : PT (Cxh X a oe pn) e (tHT Z i a (truH Z.T x ie)) := by
  refine PT.of (pt_truth h he) fun σ H Q q => ?_
  obtain ⟨cf, s, m, S1, hi, o⟩ := q
  refine ⟨cf, s, m, S1, hi, ?_⟩
  have o' := o.tru
  revert o'
  cases evH Z.T x ie s m with
  | none => exact fun z => z
  | some d => exact fun z c1 v H1 l S2 r => z c1 v H1 l S2 r (Cxh X a oe pn) c.eK
theorem sh_var {j : Nat} : SH Z (.var j) := by
  intro N X sc i x a oe pn c st h
  unfold chkH at h
  split at h
  · rename_i y p
    simp only [Bool.and_eq_true, decide_eq_true_eq] at h
    obtain ⟨h1, h2, h3⟩ := h
    unfold dbgB at h3
    simp only [Bool.and_eq_true, Bool.not_eq_true'] at h3
    have hp : PE (Cxh X a oe pn) (.Name y p) (tHE Z i a (evH Z.T x (.var j))) := by
      refine PE.of (pe_var (i := j) (by show X.N[j]? = _; rw [c.eN]; exact h1) (by show Vis X.env.scope y; rw [c.esc]; exact vis_of h2) h3.1 h3.2) fun σ H Q q => ?_
      obtain ⟨cf, s, m, S1, hi, o⟩ := q
      simp only [evH] at o
      split at o
      · rename_i d hd
        obtain ⟨_, v, q1, q2⟩ := S1.slot j _ hd
        exact ⟨v, q1, o.done S1 q2⟩
      · exact o.elim
    exact ⟨hp, test_ofH c hp fun _ => rfl⟩
  · cases h
theorem sh_con {d : D} : SH Z (.con d) := by
  intro N X sc i x a oe pn c st h
  unfold chkH at h
  split at h
  · rename_i cc j p
    have hp : PE (Cxh X a oe pn) (.Constant cc j p) (tHE Z i a (evH Z.T x (.con d))) := by
      split at h
      · rename_i i1 i2
        have e : i1 = i2 := by simpa using h
        subst e
        refine PE.of pe_bl fun σ H Q q => ?_
        obtain ⟨cf, s, m, S1, hi, o⟩ := q
        exact OutH.done (d := .bl i1) o S1 (by unfold Rp; rfl)
      · refine PE.of pe_non fun σ H Q q => ?_
        obtain ⟨cf, s, m, S1, hi, o⟩ := q
        exact OutH.done (d := .non) o S1 (by unfold Rp; rfl)
      · cases h
    exact ⟨hp, test_ofH c hp fun _ => rfl⟩
  · cases h
/-- isinstance(e, (c1, c2, ..)), e the exception that the suite holds -/
def rIsET (K : PySem.W.Frag) (D a : Addr) : List V → Hp → VK → Prop := fun xs H Q => ∃ (tp : Addr) (cs : List V) (us : List Value) (b : Bool), xs = [.ref a, .ref tp] ∧ H tp = some (.tup cs) ∧ Paired ClsV cs us ∧ PySem.W.kitAny K (.ref D) us = some b ∧ Q (.bl b) H
theorem call_isET {X : Cx} {a D : Addr} {oe : Obj} {pn : List (Addr × Obj)} (C : ExcC X.K D) (hz : Zc (.ref D) none oe) (hf : ∃ vs, oe.data = .fields vs) : CallR (X.suite a ((a, oe) :: pn)) (.builtin "isinstance") (rIsET X.K D a) := by
  intro pins s σ H xs us Q I r h
  obtain ⟨tp, cs, ws, b, rfl, hT, k, e, q⟩ := h
  obtain ⟨u1, u2, rfl, r1, r2⟩ := vals2 r
  cases (show u2 = Value.ref tp from r2)
  cases (show u1 = Value.ref a from r1)
  obtain ⟨hget, _⟩ := I.pin (a, oe) (List.mem_append.mpr (.inl List.mem_cons_self))
  obtain ⟨vs, hv⟩ := hf
  have J : PySem.W.InstAt s.heap a oe D none := by
    obtain ⟨oc, od, oda, osl⟩ := oe
    obtain ⟨h1, h2⟩ := hz
    dsimp only at h1 h2 hv
    subst h1 h2 hv
    exact ⟨hget, rfl, rfl, trivial⟩
  obtain ⟨_, its, rv, o, h1, h2, n, h3⟩ := (show ObjOk X.prog X.w H s.heap tp (.tup cs) from I.hok tp _ hT)
  have e3 := ClsV.all k rv
  subst e3
  obtain ⟨oc, od, dt, sl⟩ := o
  simp only at h2 h3
  subst h2 h3
  exact PySem.W.kia_tup (PySem.W.handS_kitx_exc C.hg C.hk C.hs C.hd C.ha C.hn C.ht C.hm) I.kIn J h1 e (fun z => nomatch z) fun tk => ⟨.bl b, H, I.tok tk, rfl, q⟩
/-- the value of a class's name -/
theorem xty_pe (c : CokH Z N X sc i x a oe) {t : Nat} {y : Str} {p : Pos} (h1 : Z.xty t = true) (h2 : y = Z.xtn t) (h3 : glB sc y = true) : ∃ cv, PE (Cxh X a oe pn) (.Name y p) (tC cv) ∧ ClsV cv (Z.xtv t) := by
  unfold glB at h3
  simp only [Bool.and_eq_true, decide_eq_true_eq, Bool.not_eq_true', decide_eq_false_iff_not] at h3
  obtain ⟨g1, g2, g3⟩ := h3
  have gl : Gl (Cxh X a oe pn) y := by show X.env.scope.names.lookup y = _; rw [c.esc]; exact g1
  subst h2
  rcases c.txt.xty t h1 with q | ⟨q1, q2, q3⟩
  · rcases c.txt.xct t h1 with ⟨_, C, e, _⟩ | ⟨_, e⟩
    · rw [e] at q ⊢
      exact ⟨.ref C, pe_glob gl q rfl g2, .own C⟩
    · rw [e] at q ⊢
      exact ⟨.ty "ValueError", pe_glob gl q rfl g2, .ty _⟩
  · rw [q3]
    rw [q2] at gl q1 g3 ⊢
    exact ⟨.ty "ValueError", pe_bltn gl q1 (show bootBuiltins ("ValueError" : Str) = some (.type "ValueError") by decide +kernel) rfl g3 (by decide +kernel), .ty _⟩
theorem xts_pa (c : CokH Z N X sc i x a oe) : ∀ {ts : List Nat} {es : List Expr}, chkXs Z sc ts es = true → ∃ cs : List V, PA (Cxh X a oe pn) es (fun _ H Q => Q cs H) ∧ Paired ClsV cs (ts.map Z.xtv) ∧ cs.length = ts.length ∧ (∀ e ∈ es, ∀ y p, e ≠ .Starred y p)
  | [], es, h => by
    unfold chkXs at h
    rw [List.isEmpty_iff] at h
    subst h
    exact ⟨[], pa_nil, .nil, rfl, fun e he => by cases he⟩
  | t :: ts, es, h => by
    unfold chkXs at h
    split at h
    · rename_i y p r
      simp only [Bool.and_eq_true, decide_eq_true_eq] at h
      obtain ⟨⟨h1, h2, h3⟩, h4⟩ := h
      obtain ⟨cv, e1, e2⟩ := xty_pe (pn := pn) (p := p) c h1 h2 h3
      obtain ⟨cs, f1, f2, f3, f4⟩ := xts_pa c h4
      refine ⟨cv :: cs, PA.of (pa_cons e1 f1 rfl) fun σ H Q q => q, .cons e2 f2, by rw [List.length_cons, List.length_cons, f3], fun e he => ?_⟩
      rcases List.mem_cons.mp he with q | q
      · subst q; intro y p z; cases z
      · exact f4 e q
    · cases h
theorem xisD_any (c : CokH Z N X sc i x a oe) : ∀ {ts : List Nat} {b : Bool}, xisD Z.T x ts = some b → PySem.W.kitAny Z.K (.ref (Z.ecl x)) (ts.map Z.xtv) = some b
  | [], b, h => by cases h; exact kitAny_nil
  | t :: ts, b, h => by
    unfold xisD at h
    obtain ⟨b1, e1, e2⟩ := Option.bind_eq_some_iff.mp h
    obtain ⟨b2, e3, rfl⟩ := Option.map_eq_some_iff.mp e2
    obtain ⟨_, _, _, k, _⟩ := c.txt.xsb x t b1 e1
    exact kitAny_cons k (fun z => by subst z; exact xisD_any c e3) (fun z => by subst z; rfl)
theorem sh_xis {ts : List Nat} : SH Z (.xis ts) := by
  intro N X sc i x a oe pn c st h
  unfold chkH at h
  split at h
  · rename_i y p n p2 o pos
    simp only [Bool.and_eq_true, decide_eq_true_eq] at h
    obtain ⟨⟨⟨rfl, h2⟩, h3, h4, h5⟩, h6⟩ := h
    unfold glB at h2
    simp only [Bool.and_eq_true, decide_eq_true_eq, Bool.not_eq_true', decide_eq_false_iff_not] at h2
    obtain ⟨g1, g2, g3⟩ := h2
    have gl : Gl (Cxh X a oe pn) "isinstance" := by show X.env.scope.names.lookup _ = _; rw [c.esc]; exact g1
    unfold dbgB at h5
    simp only [Bool.and_eq_true, Bool.not_eq_true'] at h5
    have hv : PE (Cxh X a oe pn) (.Name n p2) (tV i) := pe_var (i := i) (by show X.N[i]? = _; rw [c.eN]; exact h3) (by show Vis X.env.scope n; rw [c.esc]; exact vis_of h4) h5.1 h5.2
    have hp : PE (Cxh X a oe pn) (.Call (.Name "isinstance" p) [.Name n p2, o] [] pos) (tHE Z i a (evH Z.T x (.xis ts))) := by
      cases e : xisD Z.T x ts with
      | none =>
        refine PE.of (t := fun _ _ _ => False) ⟨fun _ _ _ _ _ _ z => z.elim⟩ fun σ H Q q => ?_
        obtain ⟨cf, s, m, S1, hi, o1⟩ := q
        simp only [evH, e] at o1
        exact o1
      | some b =>
        have ka := xisD_any c e
        have EC : ExcC X.K (Z.ecl x) := by
          rw [c.eK]
          cases ts with
          | nil =>
            split at h6 <;> simp at h6
          | cons t ts =>
            unfold xisD at e
            obtain ⟨b1, e1, _⟩ := Option.bind_eq_some_iff.mp e
            exact (c.txt.xsb x t b1 e1).2.2.1
        split at h6
        · rename_i es q1 q2
          simp only [Bool.and_eq_true, decide_eq_true_eq] at h6
          obtain ⟨h7, h8⟩ := h6
          obtain ⟨cs, f1, f2, f3, f4⟩ := xts_pa (pn := pn) c h7
          refine PE.of (pe_callB (call_isET EC c.zc c.fl) gl (c.txt.blt _ (by decide +kernel)) (by decide +kernel) (pa_cons hv (pa_cons (pe_tup f1) pa_nil rfl) rfl) g3 g2 rfl rfl) fun σ H Q q => ?_
          obtain ⟨cf, s, m, S1, hi, o1⟩ := q
          simp only [evH, e] at o1
          refine ⟨.ref a, hi, Nat.le_trans (by rw [f3]; exact Nat.le_trans h8.2 (by decide)) line_lim, fun tp htp => ?_⟩
          obtain ⟨S2, l⟩ := S1.lay (o := .tup cs) htp
          exact ⟨tp, cs, _, b, rfl, upd_same, f2, by rw [show (Cxh X a oe pn).K = Z.K from c.eK]; exact ka, o1 _ _ _ l S2 (by unfold Rp; rfl)⟩
        · simp only [Bool.and_eq_true, decide_eq_true_eq] at h6
          obtain ⟨h7, h8⟩ := h6
          obtain ⟨t, rfl⟩ : ∃ t, ts = [t] := by
            match ts, h8 with
            | [t], _ => exact ⟨t, rfl⟩
          unfold chkXs at h7
          split at h7
          · rename_i y2 p3 r2 eo
            cases eo
            simp only [Bool.and_eq_true, decide_eq_true_eq] at h7
            obtain ⟨⟨h9, h10, h11⟩, _⟩ := h7
            obtain ⟨cv, f1, f2⟩ := xty_pe (pn := pn) (p := p3) c h9 h10 h11
            refine PE.of (pe_callB (call_isE EC c.zc c.fl) gl (c.txt.blt _ (by decide +kernel)) (by decide +kernel) (pa_cons hv (pa_cons f1 pa_nil rfl) rfl) g3 g2 rfl rfl) fun σ H Q q => ?_
            obtain ⟨cf, s, m, S1, hi, o1⟩ := q
            simp only [evH, e] at o1
            refine ⟨.ref a, hi, cv, Z.xtv t, b, rfl, fun u r => f2.eq r, ?_, o1 _ _ _ Cfg.le.rfl' S1 (by unfold Rp; rfl)⟩
            rw [show (Cxh X a oe pn).K = Z.K from c.eK]
            unfold xisD at e
            obtain ⟨b1, e1, e2⟩ := Option.bind_eq_some_iff.mp e
            obtain ⟨b2, e3, e4⟩ := Option.map_eq_some_iff.mp e2
            cases e3
            rw [← e4, Bool.or_false]
            exact (c.txt.xsb x t b1 e1).2.2.2.1
          · cases h7
    exact ⟨hp, test_ofH c hp fun _ => rfl⟩
  · cases h
theorem sh_not {e : HE} (ha : SH Z e) : SH Z (.not_ e) := by
  intro N X sc i x a oe pn c st h
  unfold chkH at h
  split at h
  · rename_i y p
    refine ⟨PE.of (pe_notT (ha c y h).1) fun σ H Q q => ?_, PT.of (pt_not (ha c y h).2) fun σ H Q q => ?_⟩
    · obtain ⟨cf, s, m, S1, hi, o⟩ := q
      simp only [evH] at o
      refine ⟨cf, s, m, S1, hi, o.bind fun d c1 v H1 l S2 r o2 => ?_⟩
      cases t : truth m d with
      | none => rw [t] at o2; exact o2.elim
      | some b =>
        rw [t] at o2
        exact ⟨b, tru_ofK c.eK S2 (Rep.of r) t, o2 c1 _ H1 Cfg.le.rfl' S2 (by unfold Rp; rfl)⟩
    · obtain ⟨cf, s, m, S1, hi, o⟩ := q
      refine ⟨cf, s, m, S1, hi, ?_⟩
      unfold truH at o ⊢
      simp only [evH] at o
      cases e1 : evH Z.T x e s m with
      | none => rw [e1] at o; exact o
      | some d =>
        rw [e1] at o
        cases t : truth m d with
        | none =>
          have o : OutH Z cf s m σ ((((truth m d).map fun b => D.bl (!b)).bind (truth m)).map .bl) _ := o
          rw [t] at o; exact o.elim
        | some b =>
          have o : OutH Z cf s m σ ((((truth m d).map fun b => D.bl (!b)).bind (truth m)).map .bl) _ := o
          rw [t] at o
          show OutH Z cf s m σ ((truth m d).map .bl) _
          rw [t]
          intro c1 v H1 l S2 r
          unfold Rp at r
          subst r
          obtain ⟨b', h1, h2⟩ := o c1 (.bl (!b)) H1 l S2 (by unfold Rp; rfl)
          cases h1
          exact ⟨b, rfl, h2⟩
  · cases h
def truHb (T : Tab) (x : Nat) (k : Bool) (es : HEs) (s : List S) (m : Mu) : Option Bool := (evHb T x k es s m).bind (truth m)
def SHb (Z : Ze) (es : HEs) : Prop := ∀ {N : List Str} {X : Cx} {sc : Scope} {i x : Nat} {a : Addr} {oe : Obj} {pn : List (Addr × Obj)}, CokH Z N X sc i x a oe → ∀ vs pos, chkHb Z N i es sc vs = true →
  (PE (Cxh X a oe pn) (.BoolOp .And vs pos) (tHE Z i a (evHb Z.T x true es)) ∧ PW (Cxh X a oe pn) (.BoolOp .And vs pos) (tHT Z i a (truHb Z.T x true es))) ∧ (PE (Cxh X a oe pn) (.BoolOp .Or vs pos) (tHE Z i a (evHb Z.T x false es)) ∧ PW (Cxh X a oe pn) (.BoolOp .Or vs pos) (tHT Z i a (truHb Z.T x false es)))
theorem shb_nil : SHb Z .nil := by
  intro N X sc i x a oe pn c vs pos h
  exact ⟨⟨⟨fun pins sh σ H Q I q => by obtain ⟨cf, s, m, S1, hi, q⟩ := q; exact q.elim⟩, ⟨fun wh pins sh σ H Q I q => by obtain ⟨cf, s, m, S1, hi, q⟩ := q; exact q.elim⟩⟩,
    ⟨⟨fun pins sh σ H Q I q => by obtain ⟨cf, s, m, S1, hi, q⟩ := q; exact q.elim⟩, ⟨fun wh pins sh σ H Q I q => by obtain ⟨cf, s, m, S1, hi, q⟩ := q; exact q.elim⟩⟩⟩
theorem truHb_cons {T : Tab} {x : Nat} {kk : Bool} {a b : HE} {r : HEs} {s : List S} {m : Mu} : truHb T x kk (.cons a (.cons b r)) s m = (truH T x a s m).bind fun t => if t = kk then truHb T x kk (.cons b r) s m else some t := by
  unfold truHb truH
  rw [evHb]
  cases e : evH T x a s m with
  | some d =>
    simp only [Option.bind_some]
    cases t : truth m d with
    | none => rfl
    | some y =>
      simp only [Option.bind_some]
      by_cases q : y = kk
      · rw [if_pos q, if_pos q]
      · rw [if_neg q, if_neg q]
        simp only [Option.bind_some, t]
  | none => rfl
theorem OutH.tbind {cf : Cfg} {s : List S} {m : Mu} {σ : L2.St} {o : Option Bool} {f : Bool → Option Bool} {Q : Bool → Hp → Prop} (h : OutH Z cf s m σ ((o.bind f).map .bl) (fun v H' => ∃ b, v = .bl b ∧ Q b H')) {Q' : Bool → Hp → Prop}
    (k : ∀ b c1 H1, cf.le c1 → Sim Z.toZt c1 s m σ H1 → OutH Z c1 s m σ ((f b).map .bl) (fun v H' => ∃ b, v = .bl b ∧ Q b H') → Q' b H1) : OutH Z cf s m σ (o.map .bl) (fun v H' => ∃ b, v = .bl b ∧ Q' b H') := by
  cases o with
  | none => exact h
  | some b =>
    intro c1 v H1 l S1 r
    unfold Rp at r
    exact ⟨b, r, k b c1 H1 l S1 (OutH.mono l h)⟩
theorem OutH.tdone {cf : Cfg} {s : List S} {m : Mu} {σ : L2.St} {b : Bool} {Q : Bool → Hp → Prop} {H : Hp} (h : OutH Z cf s m σ ((some b).map .bl) (fun v H' => ∃ b, v = .bl b ∧ Q b H')) (S1 : Sim Z.toZt cf s m σ H) : Q b H := by
  obtain ⟨b', e, q⟩ := h cf (.bl b) H Cfg.le.rfl' S1 (by unfold Rp; rfl)
  cases e
  exact q
theorem shb_cons {a1 : HE} {r : HEs} (ha : SH Z a1) (hr : SHb Z r) : SHb Z (.cons a1 r) := by
  intro N X sc i x a oe pn c vs pos h
  unfold chkHb at h
  split at h
  · rename_i e es
    rw [Bool.and_eq_true] at h
    obtain ⟨h1, h2⟩ := h
    cases r with
    | nil =>
      unfold chkHb at h2
      rw [List.isEmpty_iff] at h2
      subst h2
      have e1 : ∀ kk, evHb Z.T x kk (.cons a1 .nil) = evH Z.T x a1 := fun kk => by funext s m; rw [evHb]
      have e2 : ∀ kk, truHb Z.T x kk (.cons a1 .nil) = truH Z.T x a1 := fun kk => by funext s m; unfold truHb truH; rw [evHb]
      rw [e1, e1, e2, e2]
      exact ⟨⟨pe_one (ha c e h1).1, pw_and1 (ha c e h1).2⟩, ⟨pe_one (ha c e h1).1, pw_or1 (ha c e h1).2⟩⟩
    | cons b r =>
      have h2' := h2
      unfold chkHb at h2
      split at h2
      · rename_i e2 es
        have hr' := hr (pn := pn) c (e2 :: es) pos h2'
        refine ⟨⟨PE.of (pe_andT (ha c e h1).1 hr'.1.1) fun σ H Q q => ?_, PW.of (pw_and (ha c e h1).2 hr'.1.2) fun σ H Q q => ?_⟩, ⟨PE.of (pe_orT (ha c e h1).1 hr'.2.1) fun σ H Q q => ?_, PW.of (pw_or (ha c e h1).2 hr'.2.2) fun σ H Q q => ?_⟩⟩
        · obtain ⟨cf, s, m, S1, hi, q⟩ := q
          rw [evHb] at q
          refine ⟨cf, s, m, S1, hi, q.bind fun d c1 vx H1 l1 S2 rx q2 => ?_⟩
          cases t : truth m d with
          | none => rw [t] at q2; exact q2.elim
          | some b =>
            rw [t] at q2
            refine ⟨b, tru_ofK c.eK S2 (Rep.of rx) t, ?_⟩
            cases b with
            | true => exact ⟨c1, s, m, S2, hi, q2⟩
            | false => exact OutH.done (d := d) q2 S2 rx
        · obtain ⟨cf, s, m, S1, hi, q⟩ := q
          rw [truHb_cons] at q
          refine ⟨cf, s, m, S1, hi, q.tbind fun b c1 H1 l1 S2 q2 => ?_⟩
          cases b with
          | true => exact ⟨c1, s, m, S2, hi, q2⟩
          | false => exact OutH.tdone q2 S2
        · obtain ⟨cf, s, m, S1, hi, q⟩ := q
          rw [evHb] at q
          refine ⟨cf, s, m, S1, hi, q.bind fun d c1 vx H1 l1 S2 rx q2 => ?_⟩
          cases t : truth m d with
          | none => rw [t] at q2; exact q2.elim
          | some b =>
            rw [t] at q2
            refine ⟨b, tru_ofK c.eK S2 (Rep.of rx) t, ?_⟩
            cases b with
            | false => exact ⟨c1, s, m, S2, hi, q2⟩
            | true => exact OutH.done (d := d) q2 S2 rx
        · obtain ⟨cf, s, m, S1, hi, q⟩ := q
          rw [truHb_cons] at q
          refine ⟨cf, s, m, S1, hi, q.tbind fun b c1 H1 l1 S2 q2 => ?_⟩
          cases b with
          | false => exact ⟨c1, s, m, S2, hi, q2⟩
          | true => exact OutH.tdone q2 S2
      · cases h2
  · cases h
theorem sh_bol {kk : Bool} {as : HEs} (hs : SHb Z as) : SH Z (.bol kk as) := by
  intro N X sc i x a oe pn c st h
  unfold chkH at h
  split at h
  · rename_i op vs p
    rw [Bool.and_eq_true] at h
    obtain ⟨h1, h2⟩ := h
    have q := hs (pn := pn) c vs p h2
    have e1 : evH Z.T x (.bol kk as) = evHb Z.T x kk as := by funext s m; rw [evH]
    have e2 : truH Z.T x (.bol kk as) = truHb Z.T x kk as := by funext s m; unfold truH truHb; rw [evH]
    rw [e1, e2]
    split at h1
    · exact ⟨q.1.1, q.1.2.pt⟩
    · exact ⟨q.2.1, q.2.2.pt⟩
    · cases h1
  · cases h
mutual
theorem allH : ∀ e : HE, SH Z e
  | .var j => sh_var
  | .con d => sh_con
  | .xis ts => sh_xis
  | .bol k as => sh_bol (allHb as)
  | .not_ a => sh_not (allH a)
theorem allHb : ∀ es : HEs, SHb Z es
  | .nil => shb_nil
  | .cons a r => shb_cons (allH a) (allHb r)
end
end
end
/-! ### the suite's statements -/
def OutHS (Z : Ze) (fr : Bool) (i : Nat) (a : Addr) (c : Cfg) (r : RS) (D : Ends) : Prop := match r with
  | .nx s m => ∀ c' σ' H', c.leS c' → Sim Z.toZt c' s m σ' H' → σ'[i]? = some (some (.ref a)) → D.nx σ' H'
  | .bk s m => ∀ c' σ' H', c.leS c' → Sim Z.toZt c' s m σ' H' → D.bk σ' H'
  | .ct s m => ∀ c' σ' H', c.leS c' → Sim Z.toZt c' s m σ' H' → D.ct σ' H'
  | .rt d m => ∀ c' v H', c.leS c' → c'.os = [] → Sim Z.toZt c' [] m [] H' → RetRel Z fr c' d v H' → D.rt v H'
  | _ => False
theorem OutHS.mono {Z : Ze} {fr : Bool} {i : Nat} {a : Addr} {c c' : Cfg} {r : RS} {D : Ends} (l : c.leS c') (h : OutHS Z fr i a c r D) : OutHS Z fr i a c' r D := by
  cases r with
  | nx s m => exact fun c2 σ H' l2 => h c2 σ H' (l.trans l2)
  | bk s m => exact fun c2 σ H' l2 => h c2 σ H' (l.trans l2)
  | ct s m => exact fun c2 σ H' l2 => h c2 σ H' (l.trans l2)
  | rt d m => exact fun c2 v H' l2 => h c2 v H' (l.trans l2)
  | exc x p s m => exact h
  | bad => exact h
def tHS (Z : Ze) (fr : Bool) (i : Nat) (a : Addr) (f : List S → Mu → RS) : TS := fun D σ H => ∃ c s m, Sim Z.toZt c s m σ H ∧ σ[i]? = some (some (.ref a)) ∧ OutHS Z fr i a c (f s m) D
def SHS (Z : Ze) (fr : Bool) (e : HS) : Prop := ∀ {N : List Str} {X : Cx} {sc : Scope} {i x : Nat} {a : Addr} {oe : Obj} {pn : List (Addr × Obj)}, CokH Z N X sc i x a oe → Bnd X sc → ∀ st, chkHS Z N fr i e sc st = true → PS (Cxh X a oe pn) st (tHS Z fr i a (exH Z.T x i e))
def SHSs (Z : Ze) (fr : Bool) (e : HSs) : Prop := ∀ {N : List Str} {X : Cx} {sc : Scope} {i x : Nat} {a : Addr} {oe : Obj} {pn : List (Addr × Obj)}, CokH Z N X sc i x a oe → Bnd X sc → ∀ sts, chkHSs Z N fr i e sc sts = true → PSs (Cxh X a oe pn) sts (tHS Z fr i a (exHs Z.T x i e))
section
variable {Z : Ze} {fr : Bool}
theorem shs_asg {j : Nat} {e : HE} : SHS Z fr (.asg j e) := by
  intro N X sc i x a oe pn c bn st h
  unfold chkHS at h
  split at h
  · rename_i y p v pos
    simp only [Bool.and_eq_true, decide_eq_true_eq] at h
    obtain ⟨⟨hN, hl⟩, he, hs⟩ := h
    have hloc : Loc X.env.scope y ∧ (X.fn y = true ∨ X.env.scope.names.lookup y = some .local) := by
      rw [c.esc]
      rcases loc_of hl with q | q
      · exact ⟨.inl q, .inr q⟩
      · exact ⟨.inr q, .inl (bn.cel y q).2⟩
    refine PS.of (ps_set (X := Cxh X a oe pn) (i := j) (by show X.N.Nodup; rw [c.eN]; exact c.nd) (by show X.N[j]? = _; rw [c.eN]; exact hN) hloc.1 (allH e c v he).1 (swN_ok c.esc hs) hloc.2) fun σ H D q => ?_
    obtain ⟨cf, s, m, S1, hi, o⟩ := q
    simp only [exH] at o
    cases e1 : evH Z.T x e s m with
    | none => rw [e1] at o; exact o.elim
    | some d =>
      rw [e1] at o
      refine ⟨cf, s, m, S1, hi, ?_⟩
      rw [e1]
      intro c1 v1 H1 l S2 r
      by_cases hji : j = i
      · have o : OutHS Z fr i a cf (if j = i then .bad else _) D := o
        rw [if_pos hji] at o
        exact o.elim
      · have o : OutHS Z fr i a cf (if j = i then .bad else _) D := o
        rw [if_neg hji] at o
        unfold setV at o
        split at o
        · rename_i s1 e2
          split at e2
          · cases e2
          · rename_i hb
            cases e2
            rw [not_or] at hb
            refine o (c1.rel j) _ _ (l.s.trans Cfg.leS_rel) (S2.store r (by omega)) ?_
            rw [List.getElem?_set_ne hji]
            exact hi
        · exact o.elim
  · cases h
theorem shs_ret {e : HE} : SHS Z fr (.ret e) := by
  intro N X sc i x a oe pn c bn st h
  unfold chkHS at h
  split at h
  · rename_i v pos
    simp only [Bool.and_eq_true, Bool.not_eq_true'] at h
    obtain ⟨hf, hv⟩ := h
    refine PS.of (ps_ret (allH e c v hv).1) fun σ H D q => ?_
    obtain ⟨cf, s, m, S1, hi, o⟩ := q
    simp only [exH] at o
    cases e1 : evH Z.T x e s m with
    | none => rw [e1] at o; exact o.elim
    | some d =>
      rw [e1] at o
      refine ⟨cf, s, m, S1, hi, ?_⟩
      rw [e1]
      intro c1 v1 H1 l S2 r
      obtain ⟨S3, l3⟩ := S2.bare
      refine o c1.bare v1 H1 (l.s.trans l3) rfl S3 ?_
      unfold RetRel
      rw [hf, if_neg (by simp)]
      exact r
  · cases h
theorem shs_ite {t : HE} {p q : HSs} (hp : SHSs Z fr p) (hq : SHSs Z fr q) : SHS Z fr (.ite t p q) := by
  intro N X sc i x a oe pn c bn st h
  unfold chkHS at h
  split at h
  · rename_i e p1 q1 pos
    simp only [Bool.and_eq_true] at h
    refine PS.of (ps_if (allH t c e h.1).2 (hp c bn p1 h.2.1) (hq c bn q1 h.2.2)) fun σ H D w => ?_
    obtain ⟨cf, s, m, S1, hi, o⟩ := w
    simp only [exH] at o
    refine ⟨cf, s, m, S1, hi, ?_⟩
    cases e1 : truH Z.T x t s m with
    | none =>
      have e2 : (evH Z.T x t s m).bind (truth m) = none := e1
      rw [e2] at o
      exact o.elim
    | some b =>
      have e2 : (evH Z.T x t s m).bind (truth m) = some b := e1
      rw [e2] at o
      intro c1 v H1 l S2 r
      unfold Rp at r
      refine ⟨b, r, ?_⟩
      cases b with
      | true => rw [if_pos rfl]; exact ⟨c1, s, m, S2, hi, OutHS.mono l.s o⟩
      | false => rw [if_neg (by simp)]; exact ⟨c1, s, m, S2, hi, OutHS.mono l.s o⟩
  · cases h
theorem shs_cnt : SHS Z fr .cnt := by
  intro N X sc i x a oe pn c bn st h
  unfold chkHS at h
  split at h
  · refine PS.of ps_continue fun σ H D q => ?_
    obtain ⟨cf, s, m, S1, hi, o⟩ := q
    exact o cf σ H Cfg.leS.rfl' S1
  · cases h
theorem shs_nil : SHSs Z fr .nil := by
  intro N X sc i x a oe pn c bn sts h
  unfold chkHSs at h
  rw [List.isEmpty_iff] at h
  subst h
  refine PSs.of pss_nil fun σ H D q => ?_
  obtain ⟨cf, s, m, S1, hi, o⟩ := q
  exact o cf σ H Cfg.leS.rfl' S1 hi
theorem shs_cons {p : HS} {r : HSs} (ha : SHS Z fr p) (hr : SHSs Z fr r) : SHSs Z fr (.cons p r) := by
  intro N X sc i x a oe pn c bn sts h
  unfold chkHSs at h
  split at h
  · rename_i st sts
    rw [Bool.and_eq_true] at h
    refine PSs.of (pss_cons (ha c bn st h.1) (hr c bn sts h.2)) fun σ H D q => ?_
    obtain ⟨cf, s, m, S1, hi, o⟩ := q
    rw [exHs] at o
    refine ⟨cf, s, m, S1, hi, ?_⟩
    cases e : exH Z.T x i p s m with
    | nx s1 m1 => rw [e] at o; exact fun c1 σ1 H1 l S2 h2 => ⟨c1, s1, m1, S2, h2, OutHS.mono l o⟩
    | bk s1 m1 => rw [e] at o; exact o
    | ct s1 m1 => rw [e] at o; exact o
    | rt d m1 => rw [e] at o; exact o
    | exc x p s1 m1 => rw [e] at o; exact o
    | bad => rw [e] at o; exact o
  · cases h
mutual
theorem allHS : ∀ e : HS, SHS Z fr e
  | .asg j e => shs_asg
  | .ret e => shs_ret
  | .ite t a b => shs_ite (allHSs a) (allHSs b)
  | .cnt => shs_cnt
theorem allHSs : ∀ e : HSs, SHSs Z fr e
  | .nil => shs_nil
  | .cons a r => shs_cons (allHS a) (allHSs r)
end
end
/-! ### try -/
theorem Sim.drop1 {Z : Zt} {c : Cfg} {s : List S} {m : Mu} {σ : L2.St} {H : Hp} {i : Nat} {u : Option V} (S1 : Sim Z c s m σ H) (hi : i < s.length) : Sim Z (c.rel i) (s.set i .emp) m (σ.set i u) H := by
  refine ⟨S1.exG, S1.exF, S1.gf, by rw [List.length_set, List.length_set]; exact S1.ls, by show (c.os.set i none).length = _; rw [List.length_set, List.length_set]; exact S1.lo, S1.la, fun j x h => ?_, fun k cl a h1 h2 => S1.cell k cl a h1 h2, fun a ha => S1.gn a (ha.imp id mem_set_none), nd_sub S1.nd (set_none_sub _ _)⟩
  show SlotOk Z (c.rel i) H (σ.set i u)[j]? (c.os.set i none)[j]? x
  by_cases q : i = j
  · subst q
    rw [List.getElem?_set_self hi] at h
    cases h
    show (c.os.set i none)[i]? = some none
    exact List.getElem?_set_self (by rw [S1.lo]; exact hi)
  · rw [List.getElem?_set_ne q] at h ⊢
    rw [List.getElem?_set_ne q]
    exact S1.slot j x h
/-- the suite's wish: the exception is of class x, without payload -/
def tHSc (Z : Ze) (fr : Bool) (i : Nat) (h : HSs) (a : Addr) (cls : Value) (d : Option Addr) : TS := fun D σ H => ∃ x, cls = .ref (Z.ecl x) ∧ d = none ∧ tHS Z fr i a (exHs Z.T x i h) D σ H
section
variable {Z : Ze} {C : CF} {k fu : Nat} {fr : Bool}
theorem case_try {b : ISs} {i t : Nat} {h : HSs} (hb : SSs Z C k fu fr b) : SS Z C k fu fr (.try_ b i t h) := by
  intro N X sc W ck st hc
  unfold chkS at hc
  split at hc
  · rename_i body x np n b₀ suite hpos pos
    simp only [Bool.and_eq_true, decide_eq_true_eq] at hc
    obtain ⟨⟨h1, h2, h3⟩, ⟨h4, h5, rfl, h6⟩, h7⟩ := hc
    obtain ⟨g1, g2, g3⟩ := ck.gl h6
    have hnm : Names X (Z.xtn t) (Z.xtv t) := by
      refine ⟨g1, g2, ?_⟩
      rcases ck.txt.xty t h4 with q | ⟨q1, q2, q3⟩
      · exact .inl q
      · exact .inr ⟨q1, by rw [q2, q3]; decide +kernel, g3⟩
    refine PS.of (ps_try_as (i := i) (tb := fun W' => tS Z W' fr (exs Z.T C fu b)) (ts := tHSc Z fr i h) ck.stk ck.frm (by rw [ck.eN]; exact ck.nd) (by rw [ck.eN]; exact h2) (by show X.env.scope.names.lookup n = _; rw [ck.esc]; exact h3) hnm ck.tk (fun W' pn xe tk' pas' => ?_) (fun a oe cls d pn hz hf => ?_)) fun σ H D q => ?_
    · exact hb (X := X.tr pn xe) ⟨⟨ck.eK, ck.eN, ck.nd, ck.esc, ck.calm, tk', ck.room, ck.clen, ck.txt, ck.fns⟩, ⟨fun x h => ck.bnd.1 x h, fun x h => ck.bnd.2 x h⟩, pas', ck.knd, ck.stk, ck.frm⟩ body h1
    · refine ⟨fun pins sh σ H D I q => ?_⟩
      obtain ⟨x, rfl, rfl, q⟩ := q
      exact (allHSs (fr := fr) h (x := x) (pn := pn) ⟨ck.eK, ck.eN, ck.nd, ck.esc, ck.txt, ck.knd, hz, hf⟩ ck.bnd _ h7).run pins sh σ H D I q
    · obtain ⟨cf, s, m, S1, o⟩ := q
      rw [ex] at o
      refine ⟨cf, s, m, S1, ?_⟩
      cases e : exs Z.T C fu b s m with
      | nx s1 m1 => rw [e] at o; exact o
      | bk s1 m1 => rw [e] at o; exact o
      | ct s1 m1 => rw [e] at o; exact o
      | rt d m1 => rw [e] at o; exact o
      | bad => rw [e] at o; exact o
      | exc x p s1 m1 =>
        rw [e] at o
        intro c1 σ1 cls dd H1 l S2 xr
        cases ex : Z.T.xsb x t with
        | none =>
          have o : OutS Z W fr cf (match Z.T.xsb x t with
            | some true => if i < s1.length then goneS i (exHs Z.T x i h (s1.set i .emp) m1) else .bad
            | some false => .exc x p s1 m1
            | none => .bad) D := o
          rw [ex] at o
          exact o.elim
        | some bb =>
          have o : OutS Z W fr cf (match Z.T.xsb x t with
            | some true => if i < s1.length then goneS i (exHs Z.T x i h (s1.set i .emp) m1) else .bad
            | some false => .exc x p s1 m1
            | none => .bad) D := o
          rw [ex] at o
          obtain ⟨_, ef, EC, _, sb⟩ := ck.txt.xsb x t bb ex
          obtain ⟨rfl, xr2⟩ := xr
          rw [ef] at xr2
          obtain ⟨rfl, rfl⟩ := xr2
          rcases ck.txt.xct t h4 with ⟨_, C0, ec, k1, k2, k3⟩ | ⟨hno, _⟩
          · rw [ec] at sb ⊢
            refine ⟨bb, by rw [ck.eK]; exact PySem.W.exm_ref k1 k2 k3 sb, fun hbb a ha => ?_, fun hbb => ?_⟩
            · subst hbb
              refine ⟨x, rfl, rfl, ?_⟩
              have o : OutS Z W fr cf (if i < s1.length then goneS i (exHs Z.T x i h (s1.set i .emp) m1) else .bad) D := o
              by_cases hi : i < s1.length
              · rw [if_pos hi] at o
                refine ⟨c1.rel i, s1.set i .emp, m1, S2.drop1 hi, List.getElem?_set_self (by rw [S2.ls]; exact hi), ?_⟩
                have o := OutS.mono (l.trans (Cfg.leS_rel (i := i))) o
                have le : ∀ {s2 : List S} {m2 : Mu} {c2 : Cfg} {σ2 : L2.St} {H2 : Hp}, Sim Z.toZt c2 s2 m2 σ2 H2 → Sim Z.toZt (c2.rel i) (s2.set i .emp) m2 (σ2.set i none) H2 := fun {s2 m2 c2 σ2 H2} S5 => by
                  by_cases h2 : i < s2.length
                  · exact S5.drop1 h2
                  · rw [List.set_eq_of_length_le (by omega), List.set_eq_of_length_le (by rw [S5.ls]; omega)]
                    have : c2.rel i = c2 := by
                      unfold Cfg.rel
                      rw [List.set_eq_of_length_le (by rw [S5.lo]; omega)]
                    rw [this]
                    exact S5
                revert o
                cases exHs Z.T x i h (s1.set i .emp) m1 with
                | nx s2 m2 => exact fun o c2 σ2 H2 l2 S3 _ => o (c2.rel i) _ H2 (l2.trans Cfg.leS_rel) (le S3)
                | bk s2 m2 => exact fun o c2 σ2 H2 l2 S3 => o (c2.rel i) _ H2 (l2.trans Cfg.leS_rel) (le S3)
                | ct s2 m2 => exact fun o c2 σ2 H2 l2 S3 => o (c2.rel i) _ H2 (l2.trans Cfg.leS_rel) (le S3)
                | rt d m2 => exact fun o => o
                | exc x p s2 m2 => exact fun o => o
                | bad => exact fun o => o
              · rw [if_neg hi] at o
                exact o.elim
            · subst hbb
              exact o c1 σ1 _ none H1 l S2 ⟨rfl, by rw [ef]; exact ⟨rfl, rfl⟩⟩
          · rw [hno] at h5
            cases h5
  · cases hc
end
end Pm
end
end
section
set_option Elab.async false
set_option linter.all false
set_option maxRecDepth 100000
set_option maxHeartbeats 4000000
/-! Pm27: branches, loops, blocks. -/
noncomputable section
namespace Pm
open PySem PySem.Spec L2
section
variable {Z : Ze} {C : CF} {k fu : Nat} {fr : Bool}
theorem case_pas : SS Z C k fu fr .pas := by
  intro N X sc W c st h
  unfold chkS at h
  split at h
  · refine PS.of ps_pass fun σ H D q => ?_
    obtain ⟨cf, s, m, S1, o⟩ := q
    exact o cf σ H Cfg.leS.rfl' S1
  · refine PS.of ps_doc fun σ H D q => ?_
    obtain ⟨cf, s, m, S1, o⟩ := q
    exact o cf σ H Cfg.leS.rfl' S1
  · cases h
theorem case_brk : SS Z C k fu fr .brk := by
  intro N X sc W c st h
  unfold chkS at h
  split at h
  · refine PS.of ps_break fun σ H D q => ?_
    obtain ⟨cf, s, m, S1, o⟩ := q
    exact o cf σ H Cfg.leS.rfl' S1
  · cases h
theorem case_cnt : SS Z C k fu fr .cnt := by
  intro N X sc W c st h
  unfold chkS at h
  split at h
  · refine PS.of ps_continue fun σ H D q => ?_
    obtain ⟨cf, s, m, S1, o⟩ := q
    exact o cf σ H Cfg.leS.rfl' S1
  · cases h
theorem case_nevS : SS Z C k fu fr .nev := by
  intro N X sc W c st h
  exact PS.of ps_never fun σ H D q => let ⟨_, _, _, _, o⟩ := q; o
theorem case_iteS {t : IE} {a b : ISs} (ht : SE Z C k t) (ha : SSs Z C k fu fr a) (hb : SSs Z C k fu fr b) : SS Z C k fu fr (.ite t a b) := by
  intro N X sc W c st h
  unfold chkS at h
  split at h
  · rename_i e p q pos
    simp only [Bool.and_eq_true] at h
    refine PS.of (ps_if (ht c.toCok e h.1).2 (ha c p h.2.1) (hb c q h.2.2)) fun σ H D q => ?_
    obtain ⟨cf, s, m, S1, o⟩ := q
    rw [ex] at o
    refine ⟨cf, s, m, S1, o.toS fun b' m1 c1 b2 H1 l S2 hb o2 => ?_⟩
    have hb : b2 = b' := hb
    subst hb
    cases b2 with
    | true => rw [if_pos rfl] at o2 ⊢; exact ⟨c1, s, m1, S2, o2⟩
    | false => rw [if_neg (by simp)] at o2 ⊢; exact ⟨c1, s, m1, S2, o2⟩
  · cases h
theorem case_whl {t : IE} {b : ISs} (ht : SE Z C k t) (hb : SSs Z C k fu fr b) : SS Z C k fu fr (.whl t b) := by
  intro N X sc W c st h
  unfold chkS at h
  split at h
  · rename_i e p pos
    simp only [Bool.and_eq_true] at h
    refine PS.of (ps_while c.pas (ht c.toCok e h.1).2 (hb c p h.2)) fun σ H D q => ?_
    obtain ⟨cf, s, m, S1, o⟩ := q
    rw [ex] at o
    refine ⟨fun n σ H => ∃ c s m, Sim Z.toZt c s m σ H ∧ OutS Z W fr c (loopW (tru Z.T C t) (exs Z.T C fu b) n s m) D, ⟨fu, cf, s, m, S1, o⟩, ?_⟩
    rintro n σ H ⟨cf, s, m, S1, o⟩
    cases n with
    | zero => exact o.elim
    | succ n =>
      rw [loopW] at o
      refine ⟨cf, s, m, S1, o.toS fun b' m1 c1 b2 H1 l S2 hb o2 => ?_⟩
      have hb : b2 = b' := hb
      subst hb
      cases b2 with
      | false => rw [if_neg (by simp)] at o2 ⊢; exact o2 c1 σ H1 Cfg.leS.rfl' S2
      | true =>
        rw [if_pos rfl] at o2 ⊢
        refine ⟨fun σ H => ∃ c s m, Sim Z.toZt c s m σ H ∧ OutS Z W fr c (loopW (tru Z.T C t) (exs Z.T C fu b) n s m) D, fun σ' H' w => ⟨n, Nat.lt_succ_self _, w⟩, c1, s, m1, S2, ?_⟩
        cases e : exs Z.T C fu b s m1 with
        | nx s1 m2 => rw [e] at o2; exact fun c2 σ2 H2 l2 S3 => ⟨c2, s1, m2, S3, OutS.mono l2 o2⟩
        | ct s1 m2 => rw [e] at o2; exact fun c2 σ2 H2 l2 S3 => ⟨c2, s1, m2, S3, OutS.mono l2 o2⟩
        | bk s1 m2 => rw [e] at o2; exact o2
        | rt d m2 => rw [e] at o2; exact o2
        | exc x p s1 m2 => rw [e] at o2; exact o2
        | bad => rw [e] at o2; exact o2
  · cases h
def turnS (T : Tab) (C : CF) (fu : Nat) (tg : Tg) (b : ISs) : D → List S → Mu → RS := fun x s1 m2 => match setT tg x s1 with
    | none => .bad
    | some s2 => exs T C fu b s2 m2
theorem case_for {tg : Tg} {it : It} {b : ISs} (hi : SI Z C k it) (hb : SSs Z C k fu fr b) : SS Z C k fu fr (.for_ tg it b) := by
  intro N X sc W c st h
  unfold chkS at h
  split at h
  · rename_i t iter p pos
    simp only [Bool.and_eq_true] at h
    obtain ⟨⟨ht, hit, hns⟩, hI, hp⟩ := h
    refine PS.of (ps_for c.pas c.calm (hi c.toCok t iter hI hit) (sndT c.eN c.nd c.calm c.eK c.bnd tg t ht) (hb c p hp) (by intro v; cases iter <;> first | rfl | cases hns)) fun σ H D q => ?_
    obtain ⟨cf, s, m, S1, o⟩ := q
    rw [ex] at o
    refine ⟨cf, s, m, S1, o.toS fun xb m1 c1 J H1 l S2 rJ o2 => ?_⟩
    split at o2
    · rename_i hfl
      have o2 : OutS Z W fr c1 (loopS (xb.2.ok xb.1) (turnS Z.T C fu tg b) xb.1 s m1) D := o2
      obtain ⟨KP, jok, kp1, kp2⟩ := rJ
      have kp := kp2 hfl
      refine ⟨fun i n σ H => n = xb.1.length - i ∧ i ≤ xb.1.length ∧ ∃ c' s' m', c1.leS c' ∧ Sim Z.toZt c' s' m' σ H ∧ OutS Z W fr c' (loopS (xb.2.ok xb.1) (turnS Z.T C fu tg b) (xb.1.drop i) s' m') D, ⟨xb.1.length, rfl, Nat.zero_le _, c1, s, m1, Cfg.leS.rfl', S2, by rw [List.drop_zero]; exact o2⟩, ?_⟩
      rintro i n σ' Hc ⟨rfl, hil, c', s', m', l', S3, o3⟩
      by_cases hck : xb.2.ok xb.1 m'
      rotate_left
      · exfalso
        have e9 : loopS (xb.2.ok xb.1) (turnS Z.T C fu tg b) (xb.1.drop i) s' m' = .bad := by
          cases xb.1.drop i <;> (rw [loopS, if_neg hck])
        rw [e9] at o3
        exact o3
      by_cases hlt : i < xb.1.length
      · refine .inr ⟨jok.go i c' _ _ _ _ ⟨l'.g, l'.a⟩ (kp c' s' m' hck) S3 hlt, fun σ H => i + 1 ≤ xb.1.length ∧ ∃ c' s' m', c1.leS c' ∧ Sim Z.toZt c' s' m' σ H ∧ OutS Z W fr c' (loopS (xb.2.ok xb.1) (turnS Z.T C fu tg b) (xb.1.drop (i + 1)) s' m') D, fun σ2 H2 w => ⟨_, by omega, rfl, w.1, w.2⟩, fun v H' y => ?_⟩
        obtain ⟨c2, d, l2, S4, ed, rd⟩ := jok.yld i c' _ _ _ _ v H' ⟨l'.g, l'.a⟩ (kp c' s' m' hck) S3 y hlt
        have edr : xb.1.drop i = d :: xb.1.drop (i + 1) := by
          rw [List.drop_eq_getElem_cons hlt]
          rw [List.getElem?_eq_getElem hlt] at ed
          cases ed; rfl
        rw [edr, loopS, if_pos hck] at o3
        cases w1 : setT tg d s' with
        | none =>
          have e1 : turnS Z.T C fu tg b d s' m' = .bad := by unfold turnS; rw [w1]
          rw [e1] at o3
          exact o3.elim
        | some s1 =>
          have e1 : turnS Z.T C fu tg b d s' m' = exs Z.T C fu b s1 m' := by unfold turnS; rw [w1]
          rw [e1] at o3
          refine ⟨c2, s', m', d, s1, S4, rd, w1, fun c3 σ3 l3 a3 _ S5 => ⟨c3, s1, m', S5, ?_⟩⟩
          have o3 := OutS.mono (l2.s.trans l3) o3
          have ll := l'.trans (l2.s.trans l3)
          cases e : exs Z.T C fu b s1 m' with
          | nx s4 m4 => rw [e] at o3; exact fun c4 σ4 H4 l4 S6 => ⟨hlt, c4, s4, m4, ll.trans l4, S6, OutS.mono l4 o3⟩
          | ct s4 m4 => rw [e] at o3; exact fun c4 σ4 H4 l4 S6 => ⟨hlt, c4, s4, m4, ll.trans l4, S6, OutS.mono l4 o3⟩
          | bk s4 m4 => rw [e] at o3; exact o3
          | rt d4 m4 => rw [e] at o3; exact o3
          | exc x4 p4 s4 m4 => rw [e] at o3; exact o3
          | bad => rw [e] at o3; exact o3
      · have hge : xb.1.length ≤ i := by omega
        rw [List.drop_eq_nil_of_le hge, loopS, if_pos hck] at o3
        exact .inl ⟨jok.stop i c' _ _ _ _ ⟨l'.g, l'.a⟩ (kp c' s' m' hck) S3 hge, o3 c' σ' Hc Cfg.leS.rfl' S3⟩
    · exact o2.elim
  · cases h
/-! ### blocks -/
theorem ss_nil : SSs Z C k fu fr .nil := by
  intro N X sc W c sts h
  unfold chkSs at h
  rw [List.isEmpty_iff] at h
  subst h
  refine PSs.of pss_nil fun σ H D q => ?_
  obtain ⟨cf, s, m, S1, o⟩ := q
  exact o cf σ H Cfg.leS.rfl' S1
theorem ss_cons {a : IS} {r : ISs} (ha : isFrz a = false → SS Z C k fu fr a) (hr : SSs Z C k fu fr r) : SSs Z C k fu fr (.cons a r) := by
  intro N X sc W c sts h
  unfold chkSs at h
  split at h
  · rename_i hf
    cases a <;> first | (cases hf; done) | skip
    rename_i i
    refine PSs.of (hr c sts h) fun σ H D q => ?_
    obtain ⟨cf, s, m, S1, o⟩ := q
    rw [exs, ex] at o
    split at o
    · rename_i xs e1
      obtain ⟨c', l, _, _, S2, _⟩ := S1.frz e1
      exact ⟨c', _, m, S2, OutS.mono l o⟩
    · exact o.elim
  · rename_i hf
    split at h
    · rename_i st sts
      rw [Bool.and_eq_true] at h
      refine PSs.of (pss_cons (ha (by simpa using hf) c st h.1) (hr c sts h.2)) fun σ H D q => ?_
      obtain ⟨cf, s, m, S1, o⟩ := q
      rw [exs] at o
      refine ⟨cf, s, m, S1, ?_⟩
      cases e : ex Z.T C fu a s m with
      | nx s1 m1 => rw [e] at o; exact fun c1 σ1 H1 l S2 => ⟨c1, s1, m1, S2, OutS.mono l o⟩
      | bk s1 m1 => rw [e] at o; exact o
      | ct s1 m1 => rw [e] at o; exact o
      | rt d m1 => rw [e] at o; exact o
      | exc x p s1 m1 => rw [e] at o; exact o
      | bad => rw [e] at o; exact o
    · cases h
variable (zo : Zok Z) (SA : SrtAll Z C k)
include zo SA
mutual
theorem allS : ∀ a : IS, isFrz a = false → SS Z C k fu fr a
  | .asg i e, _ => case_asg zo SA
  | .aso i f, _ => case_aso zo SA
  | .par i j a b, _ => case_par zo SA
  | .unp tg e, _ => case_unp zo SA
  | .sta a f e, _ => case_sta zo SA
  | .sto i x e, _ => case_sto zo SA
  | .sts a x e, _ => case_sts zo SA
  | .aug i o e, _ => case_aug zo SA
  | .app i e, _ => case_app zo SA
  | .apc a e, _ => case_apc zo SA
  | .exd i e, _ => case_exd zo SA
  | .exp e, _ => case_exp zo SA
  | .ret e, _ => case_ret zo SA
  | .rtn, _ => case_rtn
  | .rtf f, _ => case_rtf zo SA
  | .rse c as, _ => case_rse
  | .ite t a b, _ => case_iteS (allE zo SA t) (allSs a) (allSs b)
  | .whl t b, _ => case_whl (allE zo SA t) (allSs b)
  | .for_ tg it b, _ => case_for (allI zo SA it) (allSs b)
  | .brk, _ => case_brk
  | .cnt, _ => case_cnt
  | .pas, _ => case_pas
  | .frz i, h => by cases h
  | .try_ b i t h, _ => case_try (allSs b)
  | .nev, _ => case_nevS
  | .rto i, _ => case_rto
  | .aus a x o e, _ => case_aus zo SA
  | .pop i j e, _ => case_pop zo SA
  | .apo i j e, _ => case_apo zo SA
  | .pst i x y e, _ => case_pst zo SA
theorem allSs : ∀ a : ISs, SSs Z C k fu fr a
  | .nil => ss_nil
  | .cons a r => ss_cons (fun h => allS a h) (allSs r)
end
end
end Pm
end
end
section
set_option Elab.async false
set_option linter.all false
set_option maxRecDepth 100000
set_option maxHeartbeats 4000000
/-! Pm28: defs, the whole program. -/
noncomputable section
namespace Pm
open PySem PySem.Spec L2
section
variable {Z : Ze} {cf : Cfg} {s : List S} {m : Mu} {σ : L2.St} {H : Hp}
/-- at a def's entry -/
def Cfg.ini (c : Cfg) (n : Nat) : Cfg := { c with os := List.replicate n none }
theorem rep_filter (n : Nat) : (List.replicate n (none : Option Addr)).filterMap id = [] := by
  induction n with
  | zero => rfl
  | succ n ih => rw [List.replicate_succ]; exact ih
theorem sim_ini {N : List Str} {ds : List D} {vs : List V} (S1 : Sim Z.toZt cf [] m [] H) (r : Rps Z.toZt cf.G cf.as ds vs) (hl : ds.length ≤ N.length) : Sim Z.toZt (cf.ini N.length) (enter N.length ds) m (L2.start N vs) H := by
  have lv := r.length
  have le : (enter N.length ds).length = N.length := by unfold enter; rw [List.length_append, List.length_map, List.length_replicate]; omega
  have lst : (L2.start N vs).length = N.length := by unfold L2.start; rw [List.length_append, List.length_map, List.length_replicate]; omega
  refine ⟨S1.exG, S1.exF, S1.gf, by rw [le, lst], by show (List.replicate N.length none).length = _; rw [List.length_replicate, le], S1.la, fun i x h => ?_, S1.cell, fun a ha => ?_, ?_⟩
  · have hi : i < N.length := by rw [← le]; exact (List.getElem?_eq_some_iff.mp h).1
    have ho : (cf.ini N.length).os[i]? = some none := by
      show (List.replicate N.length (none : Option Addr))[i]? = _
      rw [List.getElem?_replicate, if_pos hi]
    rw [ho]
    unfold enter at h
    by_cases q : i < ds.length
    · rw [List.getElem?_append_left (by rw [List.length_map]; exact q), List.getElem?_map, List.getElem?_eq_getElem q] at h
      cases h
      obtain ⟨v, e1, e2⟩ := r.get (List.getElem?_eq_getElem q)
      refine ⟨rfl, v, ?_, e2⟩
      unfold L2.start
      rw [List.getElem?_append_left (by rw [List.length_map]; omega), List.getElem?_map, e1]
      rfl
    · rw [List.getElem?_append_right (by rw [List.length_map]; omega), List.getElem?_replicate] at h
      split at h
      · cases h; rfl
      · cases h
  · rcases ha with ha | ha
    · exact S1.gn a (.inl ha)
    · exact absurd (List.eq_of_mem_replicate (show some a ∈ List.replicate N.length none from ha)) (by simp)
  · have n := S1.nd
    rw [List.nodup_append] at n
    show (cf.as ++ (List.replicate N.length none).filterMap id).Nodup
    rw [rep_filter, List.append_nil]
    exact n.1
theorem xrep_bare {ecl : Nat → Addr} {efd : Nat → Option Str} {x : Nat} {p : D} {cls : Value} {dd : Option Addr} (h : XRep Z.toZt ecl efd cf x p cls dd H) : XRep Z.toZt ecl efd cf.bare x p cls dd H := by
  unfold XRep at h ⊢
  refine ⟨h.1, ?_⟩
  have h2 := h.2
  split
  · rename_i q; rw [q] at h2; exact h2
  · rename_i g q
    rw [q] at h2
    obtain ⟨d, v, h1, h2, h3, h4, h5, h6⟩ := h2
    exact ⟨d, v, h1, h2, h3, h4, h5, fun t => h6 (t.imp id fun z => by simp [Cfg.bare] at z)⟩
end
/-- the text's defs, by their numbers -/
structure Defs where
  fd : Nat → FuncData
  ps : Nat → List Str
structure FDok (Z : Ze) (Df : Defs) (i : Nat) (fn : Fn) : Prop where
  ok : ∃ x qual params body scope N dvs kws, FunD Z.K x qual params body scope dvs kws (Z.fad i) (Df.fd i) ∧ FnScope N (Df.ps i) scope ∧ chkSs Z N fn.fr fn.body scope body = true ∧ fn.siz = N.length
  par : fn.par = (Df.ps i).length
  prs : (Df.ps i).length = Z.pars i
  fr : fn.fr = Z.fsh i
structure PatOk (Z : Ze) (Df : Defs) (f n : Nat) (ks : List Str) (ds : List D) : Prop where
  len : n + ks.length + ds.length = Z.pars f
  key : Z.kyf f = true → KeyD Z.K (Z.fad f) (Df.fd f) (Df.ps f)
  ok : ∃ dvs dus, Vals dvs dus ∧ (∀ G as, Rps Z.toZt G as ds dvs) ∧ ∀ (s : Shared) (us ws : List Value), Z.K.In s.heap → us.length = n → ws.length = ks.length → BindsTo s (Df.fd f) ⟨us, ks.zip ws⟩ ((Df.ps f).zip (us ++ ws ++ dus))
section
variable {Z : Ze} {P : List Fn} {fu : Nat} {Df : Defs} {prog : Program} {w : World} {mg : Str → Option Value} {base : Heap}
theorem evP_len (hp : ∀ i fn, P[i]? = some fn → fn.par = Z.pars i) (j : Nat) (f : Nat) (xs : List D) (m : Mu) : evP Z.T P fu j f xs m = .bad ∨ xs.length = Z.pars f := by
  cases j with
  | zero => exact .inl rfl
  | succ j =>
    unfold evP
    cases e : P[f]? with
    | none => exact .inl rfl
    | some fn =>
      show runF Z.T (evP Z.T P fu j) fu fn xs m = .bad ∨ _
      unfold runF
      by_cases h : xs.length = fn.par
      · exact .inr (by rw [h, hp f fn e])
      · rw [if_neg h]; exact .inl rfl
theorem fn_bad {C : CF} {k f : Nat} {fd : FuncData} {ps : List Str} (h : ∀ xs m, C f xs m = .bad) : FnOk prog w Z.K mg base (L2.CX prog w) k (Z.fad f) fd ps (SpM Z C f) := by
  have no : ∀ {vs H Q E}, SpM Z C f vs H Q E → False := fun {vs H Q E} z => by
    obtain ⟨c, ds, m, _, _, _, o, _⟩ := z
    rw [h] at o
    exact o
  exact ⟨fun vs H Q E z => (no z).elim, fun A outer s H args us vs Q E _ _ _ _ z => (no z).elim⟩
theorem fn_all (zo : Zok Z) (SA : ∀ C k, SrtAll Z C k) (tx : Txt Z mg) (hd : ∀ i fn, P[i]? = some fn → FDok Z Df i fn) (hpat : ∀ f n ks ds, Z.pat f n ks ds = true → PatOk Z Df f n ks ds) (j : Nat) :
    ∀ f, FnOk prog w Z.K mg base (L2.CX prog w) (8 * j) (Z.fad f) (Df.fd f) (Df.ps f) (SpM Z (evP Z.T P fu j) f) := by
  have hp : ∀ i fn, P[i]? = some fn → fn.par = Z.pars i := fun i fn e => (hd i fn e).par.trans (hd i fn e).prs
  induction j with
  | zero => exact fun f => fn_bad fun _ _ => rfl
  | succ j ih =>
    intro f
    cases e : P[f]? with
    | none => exact fn_bad fun xs m => by unfold evP; rw [e]
    | some fn =>
      have F := hd f fn e
      obtain ⟨x, qual, params, body, scope, N, dvs, kws, F1, S, hc, hz⟩ := F.ok
      have evE : ∀ xs m, evP Z.T P fu (j + 1) f xs m = runF Z.T (evP Z.T P fu j) fu fn xs m := fun xs m => by rw [evP, e]
      have plN : (Df.ps f).length ≤ N.length := by have := congrArg List.length S.pre; rw [List.length_take] at this; omega
      refine F1.ok (k := 8 * j + 7) S (fun vs H Q E z => ?_) fun cdv A outer s H vs Q E hr z => ?_
      · obtain ⟨c, ds, m, _, _, r, _, hl⟩ := z
        rw [← r.length, hl, F.prs]
      · obtain ⟨c, ds, m, ho, S1, r, o, hl⟩ := z
        have ck : CokS Z (evP Z.T P fu j) (8 * j) N (cxOf (L2.CX prog w) prog w Z.K mg base N qual scope (Z.fad f) cdv A outer s H E) scope (fun cls d _ H => E cls d H) := by
          refine ⟨⟨rfl, rfl, S.nd, rfl, rfl, L2.takes_of rfl rfl rfl rfl, hr, evP_len hp j, tx, fun f n ks ds hq => ?_⟩, ⟨fun x h => h, fun x h => ⟨h, rfl⟩⟩, L2.passes_of (K := fun e s'' => L2.CX prog w outer H s E e s'') rfl, S.kind, rfl, rfl⟩
          obtain ⟨pl, pk, dv, du, p1, p2, p3⟩ := hpat f n ks ds hq
          refine ⟨⟨Df.fd f, Df.ps f, dv, du, ih f, pl, p1, p2, p3⟩, fun e1 e2 e3 => ?_⟩
          subst e2
          subst e3
          have K := pk e1
          obtain ⟨p, ep⟩ : ∃ p, Df.ps f = [p] := by
            obtain ⟨_, _, _, _, _, _, _, _, _, _, kb⟩ := K
            exact keyB_one kb
          refine ⟨Df.fd f, p, by rw [← ep]; exact K, fun s u X => ?_⟩
          have b := p3 s [u] [] X rfl rfl
          rw [ep] at b
          exact b
        refine ⟨_, allSs (fr := fn.fr) (fu := fu) zo (SA _ _) fn.body ck body hc, ?_⟩
        have ll : ds.length = (Df.ps f).length := by rw [hl, F.prs]
        refine ⟨c.ini N.length, enter N.length ds, m, sim_ini S1 r (by omega), ?_⟩
        have l0 : c.leS (c.ini N.length) := ⟨Ex.rfl', rfl, List.prefix_refl _⟩
        rw [evE] at o
        unfold runF at o
        rw [if_pos (by rw [ll, F.par]), hz] at o
        cases q : exs Z.T (evP Z.T P fu j) fu fn.body (enter N.length ds) m with
        | nx s1 m1 =>
          rw [q] at o
          intro c2 σ2 H2 l S2
          cases hf : fn.fr with
          | true =>
            have o : OutM Z (Z.fsh f) c (if fn.fr = true then .bad else .ok .non m1) Q E := o
            rw [if_pos hf] at o
            exact o.elim
          | false =>
            have o : OutM Z (Z.fsh f) c (if fn.fr = true then .bad else .ok .non m1) Q E := o
            rw [if_neg (by rw [hf]; simp), ← F.fr, hf] at o
            obtain ⟨S3, l3⟩ := S2.bare
            refine o c2.bare .non H2 (l0.trans (l.trans l3)) rfl S3 ?_
            unfold RetRel
            rw [if_neg (by simp)]
            unfold Rp; rfl
        | rt d m1 =>
          rw [q] at o
          intro c2 v H2 l h0 S2 rr
          rw [F.fr] at rr
          exact o c2 v H2 (l0.trans l) h0 S2 rr
        | bk s1 m1 => rw [q] at o; exact o.elim
        | ct s1 m1 => rw [q] at o; exact o.elim
        | exc x1 p1 s1 m1 =>
          rw [q] at o
          intro c2 σ2 cls dd H2 l S2 xr
          obtain ⟨S3, l3⟩ := S2.bare
          exact o c2.bare cls dd H2 (l0.trans (l.trans l3)) rfl S3 (xrep_bare xr)
        | bad => rw [q] at o; exact o.elim
end
end Pm
end
end
section
set_option Elab.async false
set_option linter.all false
set_option maxRecDepth 100000
set_option maxHeartbeats 4000000
/-! Pm29: the text's tables, and what the head is to tell of them. -/
noncomputable section
namespace Pm
open PySem PySem.Spec L2
structure ClsL where
  name : Str
  flds : List Nat
  mths : List (Nat × Nat)
  ops : List (Bop × Nat)
  eqm : Option Nat
  stm : Option Nat
  ini : Nat
  frz : Bool
structure DefL where
  at_ : Str × Option Str
  pars : Nat
  fsh : Bool
  key : Bool
/-- an exception class: of the package (own) or ValueError; raised as X() (rse); the classes that it is one of -/
structure ExL where
  name : Str
  own : Bool
  rse : Bool
  sup : List Nat
structure TL where
  nms : List Str
  cls : List ClsL
  dfs : List DefL
  gls : List (Str × Int)
  exs : List ExL
  pats : List (Nat × Nat × List Str × List D)
  dts : List ((Str × Option Str) × Nat)
def fnmOf (l : List Str) (i : Nat) : Str := match l[i]? with
  | some x => x
  | none => ⟨(List.replicate (i + 1) 126).toArray⟩
def nmB (l : List Str) : Bool := decide l.Nodup && l.all fun x => !decide (x.cps.toList.head? = some 126)
theorem fnm_inj {l : List Str} (h : nmB l = true) {f g : Nat} (e : fnmOf l f = fnmOf l g) : f = g := by
  unfold nmB at h
  rw [Bool.and_eq_true, decide_eq_true_eq, List.all_eq_true] at h
  obtain ⟨nd, hh⟩ := h
  have tl : ∀ {i : Nat} {x : Str}, l[i]? = some x → ∀ n, x ≠ ⟨(List.replicate (n + 1) 126).toArray⟩ := fun {i x} hx n e => by
    have q := hh x (List.mem_of_getElem? hx)
    rw [e] at q
    simp [List.replicate_succ] at q
  unfold fnmOf at e
  cases q : l[f]? with
  | some x =>
    cases q2 : l[g]? with
    | some y =>
      rw [q, q2] at e
      have e : x = y := e
      subst e
      obtain ⟨h1, e1⟩ := List.getElem?_eq_some_iff.mp q
      obtain ⟨h2, e2⟩ := List.getElem?_eq_some_iff.mp q2
      have : ∀ {l : List Str}, l.Nodup → ∀ {i j : Nat}, l[i]? = some x → l[j]? = some x → i = j := fun {l} => by
        induction l with
        | nil => intro _ i j hi; simp at hi
        | cons b l ih =>
          intro n i j hi hj
          rw [List.nodup_cons] at n
          cases i with
          | zero =>
            cases j with
            | zero => rfl
            | succ j =>
              simp at hi hj
              subst hi
              exact absurd (List.mem_of_getElem? hj) n.1
          | succ i =>
            cases j with
            | zero =>
              simp at hi hj
              subst hj
              exact absurd (List.mem_of_getElem? hi) n.1
            | succ j => exact congrArg (· + 1) (@ih n.2 i j (by simpa using hi) (by simpa using hj))
      exact this nd q q2
    | none => rw [q, q2] at e; exact absurd e (tl q g)
  | none =>
    cases q2 : l[g]? with
    | some y => rw [q, q2] at e; exact absurd e.symm (tl q2 f)
    | none =>
      rw [q, q2] at e
      have e : (⟨(List.replicate (f + 1) 126).toArray⟩ : Str) = ⟨(List.replicate (g + 1) 126).toArray⟩ := e
      injection e with e
      have := congrArg Array.size e
      simpa using this
/-- data that stand as defaults -/
def dflE : D → D → Bool
  | .non, .non => true
  | .int i, .int j => decide (i = j)
  | .bl i, .bl j => decide (i = j)
  | .str i, .str j => decide (i = j)
  | .tup [], .tup [] => true
  | _, _ => false
def dflEs : List D → List D → Bool
  | [], [] => true
  | x :: xs, y :: ys => dflE x y && dflEs xs ys
  | _, _ => false
theorem dflE_ok : ∀ {x y : D}, dflE x y = true → x = y := by
  intro x y h
  unfold dflE at h
  split at h <;> first | rfl | (rw [of_decide_eq_true h]) | cases h
theorem dflEs_ok : ∀ {xs ys : List D}, dflEs xs ys = true → xs = ys
  | [], [], _ => rfl
  | [], _ :: _, h => by cases h
  | _ :: _, [], h => by cases h
  | x :: xs, y :: ys, h => by
    unfold dflEs at h
    rw [Bool.and_eq_true] at h
    rw [dflE_ok h.1, dflEs_ok h.2]
def TL.pat (t : TL) (f n : Nat) (ks : List Str) (ds : List D) : Bool := t.pats.any fun p => decide (p.1 = f) && (decide (p.2.1 = n) && (decide (p.2.2.1 = ks) && dflEs p.2.2.2 ds))
theorem TL.pat_mem {t : TL} {f n : Nat} {ks : List Str} {ds : List D} (h : t.pat f n ks ds = true) : (f, n, ks, ds) ∈ t.pats := by
  unfold TL.pat at h
  obtain ⟨⟨a, b, c, d⟩, hp, h2⟩ := List.any_eq_true.mp h
  clear h
  simp only [Bool.and_eq_true, decide_eq_true_eq] at h2
  obtain ⟨rfl, rfl, rfl, h2⟩ := h2
  rw [← dflEs_ok h2]
  exact hp
def opOf : Bop → Operator
  | .add => .Add | .sub => .Sub | .mul => .Mult | .fdv => .FloorDiv | .mod => .Mod | .pow => .Pow
theorem opOf_ok {o : Bop} {op : Operator} (h : bopB o op = true) : op = opOf o := by
  cases o <;> cases op <;> first | rfl | cases h
def opn (o : Bop) : Str := PySem.dunder (opOf o).info.2
def tabOf (t : TL) : Tab where
  opm c o := (t.cls[c]?).bind fun l => (l.ops.find? fun p => decide (p.1 = o)).map (·.2)
  stm c := (t.cls[c]?).bind (·.stm)
  eqm c := (t.cls[c]?).bind (·.eqm)
  mth c n := (t.cls[c]?).bind fun l => (l.mths.find? fun p => decide (p.1 = n)).map (·.2)
  fld c := match t.cls[c]? with
    | some l => l.flds
    | none => []
  ini c := (t.cls[c]?).map (·.ini)
  frz c := match t.cls[c]? with
    | some l => l.frz
    | none => false
  glb g := match t.gls[g]? with
    | some p => .int p.2
    | none => .non
  xsb x y := match t.exs[x]? with
    | some e => if (e.rse && decide (y < t.exs.length)) = true then some (e.sup.contains y) else none
    | none => none
def TL.cnm (t : TL) (c : Nat) : Str := match t.cls[c]? with
  | some l => l.name
  | none => Str.empty
def TL.at_ (t : TL) (f : Nat) : Str × Option Str := match t.dfs[f]? with
  | some d => d.at_
  | none => (Str.empty, none)
def exvO (K : PySem.W.Frag) (t : TL) (x : Nat) : Value := match t.exs[x]? with
  | some p => if p.own = true then .ref (He.ga K p.name) else .type "ValueError"
  | none => .type "ValueError"
def zeOf (K : PySem.W.Frag) (t : TL) : Ze where
  K := K
  cad c := He.ga K (t.cnm c)
  fnm := fnmOf t.nms
  T := tabOf t
  isg f := match t.dfs[f]? with
    | some d => d.at_.2.isNone
    | none => false
  isc g := decide (g < t.gls.length)
  fsh f := match t.dfs[f]? with
    | some d => d.fsh
    | none => false
  pars f := match t.dfs[f]? with
    | some d => d.pars
    | none => 0
  fad f := He.fAd K (t.at_ f)
  gfn f := (t.at_ f).1
  gcl := t.cnm
  ggl g := match t.gls[g]? with
    | some p => p.1
    | none => Str.empty
  pat := t.pat
  ecl x := match t.exs[x]? with
    | some p => He.ga K p.name
    | none => 0
  efd _ := none
  xrs x := match t.exs[x]? with
    | some p => p.rse
    | none => false
  xty x := decide (x < t.exs.length)
  xow x := match t.exs[x]? with
    | some p => p.own
    | none => false
  xtn x := match t.exs[x]? with
    | some p => p.name
    | none => Str.empty
  xtv x := exvO K t x
  kyf f := match t.dfs[f]? with
    | some d => d.key
    | none => false
/-! ### the checks -/
def atB (t : TL) (f : Nat) (c : Str) (m : Str) : Bool := match t.dfs[f]? with
  | some d => decide (d.at_ = (c, some m))
  | none => false
theorem atB_ok {K : PySem.W.Frag} {t : TL} {f : Nat} {c m : Str} (h : atB t f c m = true) : (zeOf K t).fad f = He.ma K (He.ga K c) m := by
  unfold atB at h
  show He.fAd K (t.at_ f) = _
  unfold TL.at_
  split at h
  · rename_i d e
    have h : d.at_ = (c, some m) := of_decide_eq_true h
    show He.fAd K d.at_ = _
    rw [h]; rfl
  · cases h
def prsOf (t : TL) (f : Nat) : Nat := match t.dfs[f]? with
  | some d => d.pars
  | none => 0
def clsS (t : TL) (l : ClsL) : Bool := decide l.flds.Nodup && (l.mths.all (fun p => atB t p.2 l.name (fnmOf t.nms p.1) && (!(l.flds.contains p.1) && t.pat p.2 (prsOf t p.2) [] [])) && (l.ops.all (fun p => atB t p.2 l.name (opn p.1) && t.pat p.2 2 [] []) && ((match l.eqm with
  | some f => atB t f l.name "__eq__" && t.pat f 2 [] []
  | none => true) && ((match l.stm with
  | some f => atB t f l.name "__str__" && t.pat f 1 [] []
  | none => true) && (atB t l.ini l.name "__init__" && (match t.dfs[l.ini]? with
  | some d => !d.fsh
  | none => false))))))
/-- of the tables alone -/
def stB_ (t : TL) : Bool := nmB t.nms && t.cls.all (clsS t)
def clsK (K : PySem.W.Frag) (t : TL) (l : ClsL) : Bool := ((He.Fa.cls l.name).ok K && ((He.Fa.mkr l.name).ok K && ((He.Fa.glo l.name).ok K && PySem.W.selfFirst K (He.ga K l.name)))) && (l.flds.all (fun f => (He.Fa.noat l.name (fnmOf t.nms f)).ok K) && (l.mths.all (fun p => (He.Fa.meth l.name (fnmOf t.nms p.1)).ok K) && (l.ops.all (fun p => (He.Fa.meth l.name (opn p.1)).ok K) && ((match l.eqm with
  | some _ => (He.Fa.meth l.name "__eq__").ok K && He.eqO (PySem.W.findIn K (.ref (He.ga K l.name)) "__ne__") (some (some (.builtin "object.__ne__")))
  | none => true) && ((match l.stm with
  | some _ => (He.Fa.meth l.name "__str__").ok K && He.eqO (PySem.W.findIn K (.ref (He.ga K l.name)) "__format__") (some (some (.builtin "object.__format__")))
  | none => true) && (He.eqO (PySem.W.findIn K (.ref (He.ga K l.name)) "__class__") (some (some (.builtin "object.__class__"))) && decide (PySem.W.mroIn K (He.ga K l.name) (.type "object") = some true)))))))
def vts (t : TL) : List VT := [.non, .bl, .int, .str, .tup, .lst] ++ (List.range t.cls.length).map .cls
def tys (t : TL) : List Ty := [.tint, .tbool, .tstr, .ttup, .tlst] ++ (List.range t.cls.length).map .cls
def blts : List Str := ["len", "abs", "int", "str", "tuple", "all", "any", "min", "max", "isinstance", "list", "sorted", "range", "zip", "enumerate", "bool", "set", "dict"]
def exK (K : PySem.W.Frag) (t : TL) (e : ExL) : Bool := (if e.own = true then (He.Fa.glo e.name).ok K && (decide (PySem.W.subIn K (.ref (He.ga K e.name)) (.type "BaseException") = some true) && (PySem.W.hasDictIn K (He.ga K e.name) && decide (PySem.W.typeIn K (.ref (He.ga K e.name)) = some (.type "type"))))
    else decide (e.name = "ValueError") && (He.Fa.free e.name).ok K) && (!e.rse || (e.own && ((He.Fa.exc e.name).ok K && ((He.eqO (PySem.W.findIn K (.ref (He.ga K e.name)) "__getattribute__") (some (some (.builtin "BaseException.__getattribute__"))) && He.eqO (PySem.W.findIn K (.ref (He.ga K e.name)) "__getattr__") (some none)) && ((He.eqO (PySem.W.findIn K (.ref (He.ga K e.name)) "__class__") (some (some (.builtin "object.__class__"))) && decide (PySem.W.mroIn K (He.ga K e.name) (.type "object") = some true)) && ((List.range t.exs.length).all fun y => decide (PySem.W.kitOne K (.ref (He.ga K e.name)) (exvO K t y) = some (e.sup.contains y)) && decide (PySem.W.subIn K (.ref (He.ga K e.name)) (exvO K t y) = some (e.sup.contains y))))))))
/-- a default that is the empty tuple -/
def dtB (K : PySem.W.Frag) (p : (Str × Option Str) × Nat) : Bool := match K.lookup (He.dflAt p.1 p.2 K) with
  | some o => decide (o.cls = .type "tuple") && (match o.data with
    | .seq its _ => its.isEmpty
    | _ => false)
  | none => false
theorem dtB_ok {Z : Zt} {G : Hp} {as : List Addr} {p : (Str × Option Str) × Nat} (h : dtB Z.K p = true) : Rp Z G as (.tup []) (.ref (He.dflAt p.1 p.2 Z.K)) := by
  unfold dtB at h
  split at h
  · rename_i o e
    rw [Bool.and_eq_true, decide_eq_true_eq] at h
    obtain ⟨h1, h2⟩ := h
    split at h2
    · rename_i its n e2
      have e3 : its = #[] := by simpa using h2
      unfold Rp
      refine ⟨_, [], rfl, ⟨.inr ⟨o, its, n, e, h1, e2, by rw [e3]; exact Nat.zero_le _, by rw [e3]; exact .nil⟩, fun z => absurd rfl z⟩, .nil⟩
    · cases h2
  · cases h
/-- of the objects -/
def txB (K : PySem.W.Frag) (t : TL) : Bool := (t.dts.all (dtB K)) && (t.exs.all (exK K t)) && (t.cls.all (clsK K t) && ((List.range t.cls.length).all (fun i => (List.range t.cls.length).all fun j => decide (i = j) || !decide (He.ga K (t.cnm i) = He.ga K (t.cnm j))) && ((t.dfs.all fun d => !d.at_.2.isNone || ((He.Fa.glo d.at_.1).ok K && PySem.W.keepIn K (.ref (He.ga K d.at_.1)))) && ((t.gls.all fun p => (He.Fa.int p.1 p.2).ok K) && ((blts.all fun x => (He.Fa.free x).ok K) && ((He.eqO (PySem.W.specialIn K (.builtin "object.__class__") "__get__") (some (some (.builtin "getset_descriptor.__get__"))) && decide (PySem.W.takesIn K (.builtin "object.__class__") = some true)) && ((vts t).all fun a => (tys t).all fun b => decide (PySem.W.kitOne K (vtV (zeOf K t) a) (tyV (zeOf K t) b) = some (tyB a b)))))))))
theorem exvO_own {K : PySem.W.Frag} {t : TL} {x : Nat} {p : ExL} (e : t.exs[x]? = some p) (h : p.own = true) : exvO K t x = .ref (He.ga K p.name) := by
  unfold exvO
  rw [e]
  exact if_pos h
theorem exvO_no {K : PySem.W.Frag} {t : TL} {x : Nat} {p : ExL} (e : t.exs[x]? = some p) (h : ¬ p.own = true) : exvO K t x = .type "ValueError" := by
  unfold exvO
  rw [e]
  exact if_neg h
theorem xtn_at {K : PySem.W.Frag} {t : TL} {x : Nat} {p : ExL} (e : t.exs[x]? = some p) : (zeOf K t).xtn x = p.name := by
  show (match t.exs[x]? with | some p => p.name | none => Str.empty) = _
  rw [e]
theorem xow_at {K : PySem.W.Frag} {t : TL} {x : Nat} {p : ExL} (e : t.exs[x]? = some p) : (zeOf K t).xow x = p.own := by
  show (match t.exs[x]? with | some p => p.own | none => false) = _
  rw [e]
theorem find_mem {α : Type} [DecidableEq α] {l : List (α × Nat)} {a : α} {f : Nat} (h : (l.find? fun p => decide (p.1 = a)).map (·.2) = some f) : (a, f) ∈ l := by
  obtain ⟨p, e, rfl⟩ := Option.map_eq_some_iff.mp h
  have h1 := List.mem_of_find?_eq_some e
  have h2 := List.find?_some e
  have h2 : p.1 = a := by simpa using h2
  rw [← h2]
  exact h1
theorem cnm_of {t : TL} {c : Nat} {l : ClsL} (h : t.cls[c]? = some l) : t.cnm c = l.name := by unfold TL.cnm; rw [h]
theorem txt_of {K : PySem.W.Frag} {t : TL} {h : Heap} {mg : Str → Option Value} (X : K.In h) (G : h.Ns mainGlobals mg) (hs : stB_ t = true) (hk : txB K t = true) : Txt (zeOf K t) mg ∧ Zok (zeOf K t) := by
  unfold stB_ at hs
  rw [Bool.and_eq_true] at hs
  obtain ⟨hn, hs⟩ := hs
  unfold txB at hk
  simp only [Bool.and_eq_true] at hk
  obtain ⟨⟨_, kx⟩, kc, kd, kf, ki, kb, ⟨kg, kt⟩, kk⟩ := hk
  rw [List.all_eq_true] at hs kc
  have st : ∀ {c : Nat} {l : ClsL}, t.cls[c]? = some l → clsS t l = true ∧ clsK K t l = true := fun {c l} e => ⟨hs l (List.mem_of_getElem? e), kc l (List.mem_of_getElem? e)⟩
  have cad : ∀ {c : Nat} {l : ClsL}, t.cls[c]? = some l → (zeOf K t).cad c = He.ga K l.name := fun {c l} e => by show He.ga K (t.cnm c) = _; rw [cnm_of e]
  have ini_ : ∀ {c f : Nat}, (zeOf K t).T.ini c = some f → ∃ l, t.cls[c]? = some l ∧ l.ini = f := fun {c f} e => Option.map_eq_some_iff.mp e
  have exk : ∀ {x : Nat} {p : ExL}, t.exs[x]? = some p → exK K t p = true := fun {x p} e => List.all_eq_true.mp kx p (List.mem_of_getElem? e)
  have ecl_ : ∀ {x : Nat} {p : ExL}, t.exs[x]? = some p → (zeOf K t).ecl x = He.ga K p.name := fun {x p} e => by
    show (match t.exs[x]? with | some p => He.ga K p.name | none => 0) = _
    rw [e]
  have rse_ : ∀ {x : Nat}, (zeOf K t).xrs x = true → ∃ p, t.exs[x]? = some p ∧ p.rse = true ∧ True := fun {x} e => by
    have e : (match t.exs[x]? with | some p => p.rse | none => false) = true := e
    split at e
    · rename_i p q; exact ⟨p, q, e, trivial⟩
    · cases e
  refine ⟨⟨fun f g e => fnm_inj hn e, fun c f hf => ?_, fun c => ?_, fun c n f e => ?_, fun c o f op e hop => ?_, fun c f e => ?_, fun c f e => ?_, fun c f e => ?_, fun c c' e e' hc => ?_, fun c f e => ?_, fun f e => ?_, fun g e => ?_, fun x hx => ?_, fun a b ha hb => ?_, fun x e => ?_, fun x e => ?_, fun x y b e => ?_, fun x e => ?_⟩, ⟨fun c n f e => ?_, fun c f e => ?_⟩⟩
  · have hf : f ∈ (match t.cls[c]? with | some l => l.flds | none => []) := hf
    split at hf
    · rename_i l e
      obtain ⟨s1, s2⟩ := st e
      unfold clsK at s2
      simp only [Bool.and_eq_true] at s2
      rw [cad e]
      exact ⟨He.cls_ok s2.1.1, He.noat_ok (List.all_eq_true.mp s2.2.1 f hf)⟩
    · simp at hf
  · show (match t.cls[c]? with | some l => l.flds | none => []).Nodup
    split
    · rename_i l e
      have s1 := (st e).1
      unfold clsS at s1
      rw [Bool.and_eq_true] at s1
      exact of_decide_eq_true s1.1
    · exact List.nodup_nil
  · obtain ⟨l, e1, e2⟩ := Option.bind_eq_some_iff.mp (show (t.cls[c]?).bind (fun l => (l.mths.find? fun p => decide (p.1 = n)).map (·.2)) = some f from e)
    have hm := find_mem e2
    obtain ⟨s1, s2⟩ := st e1
    unfold clsK at s2
    unfold clsS at s1
    simp only [Bool.and_eq_true] at s1 s2
    have q1 := List.all_eq_true.mp s1.2.1 _ hm
    have q2 := List.all_eq_true.mp s2.2.2.1 _ hm
    simp only [Bool.and_eq_true, Bool.not_eq_true'] at q1
    rw [cad e1, atB_ok q1.1]
    refine ⟨He.cls_ok s2.1.1, He.meth_ok q2, ?_⟩
    show n ∉ (match t.cls[c]? with | some l => l.flds | none => [])
    rw [e1]
    intro z
    have := q1.2.1
    rw [List.contains_eq_mem, decide_eq_false_iff_not] at this
    exact this z
  · obtain ⟨l, e1, e2⟩ := Option.bind_eq_some_iff.mp (show (t.cls[c]?).bind (fun l => (l.ops.find? fun p => decide (p.1 = o)).map (·.2)) = some f from e)
    have hm := find_mem e2
    obtain ⟨s1, s2⟩ := st e1
    unfold clsK at s2
    unfold clsS at s1
    simp only [Bool.and_eq_true] at s1 s2
    have q1 := List.all_eq_true.mp s1.2.2.1 _ hm
    have q2 := List.all_eq_true.mp s2.2.2.2.1 _ hm
    rw [Bool.and_eq_true] at q1
    have me := He.meth_ok q2
    rw [opOf_ok hop, cad e1, atB_ok q1.1]
    exact ⟨s2.1.2.2.2, me.at_, beq_iff_eq.mpr (beq_iff_eq.mp me.fn), q1.2⟩
  · obtain ⟨l, e1, e2⟩ := Option.bind_eq_some_iff.mp (show (t.cls[c]?).bind (·.stm) = some f from e)
    obtain ⟨s1, s2⟩ := st e1
    unfold clsK at s2
    unfold clsS at s1
    rw [e2] at s1 s2
    simp only [Bool.and_eq_true, decide_eq_true_eq] at s1 s2
    have me := He.meth_ok s2.2.2.2.2.2.1.1
    rw [cad e1, atB_ok s1.2.2.2.2.1.1]
    exact ⟨me.at_, me.fn, s1.2.2.2.2.1.2, He.eqO_ok s2.2.2.2.2.2.1.2, s2.2.2.2.2.2.2.2⟩
  · obtain ⟨l, e1, rfl⟩ := ini_ e
    obtain ⟨s1, s2⟩ := st e1
    unfold clsK at s2
    simp only [Bool.and_eq_true, decide_eq_true_eq] at s2 kt
    rw [cad e1]
    exact ⟨He.cls_ok s2.1.1, He.eqO_ok s2.2.2.2.2.2.2.1, He.eqO_ok kg, kt, s2.2.2.2.2.2.2.2⟩
  · obtain ⟨l, e1, e2⟩ := Option.bind_eq_some_iff.mp (show (t.cls[c]?).bind (·.eqm) = some f from e)
    obtain ⟨s1, s2⟩ := st e1
    unfold clsK at s2
    unfold clsS at s1
    rw [e2] at s1 s2
    simp only [Bool.and_eq_true, decide_eq_true_eq] at s1 s2
    have me := He.meth_ok s2.2.2.2.2.1.1
    rw [cad e1, atB_ok s1.2.2.2.1.1]
    exact ⟨me.at_, me.fn, s1.2.2.2.1.2, He.eqO_ok s2.2.2.2.2.1.2, s2.2.2.2.2.2.2.2⟩
  · have lt : ∀ {c : Nat}, ((zeOf K t).T.eqm c).isSome = true → c < t.cls.length := fun {c} e => by
      have e : ((t.cls[c]?).bind (·.eqm)).isSome = true := e
      cases q : t.cls[c]? with
      | none => rw [q] at e; cases e
      | some l => exact (List.getElem?_eq_some_iff.mp q).1
    have q := List.all_eq_true.mp (List.all_eq_true.mp kd c (List.mem_range.mpr (lt e))) c' (List.mem_range.mpr (lt e'))
    simp only [Bool.or_eq_true, decide_eq_true_eq, Bool.not_eq_true', decide_eq_false_iff_not] at q
    rcases q with q | q
    · exact q
    · exact absurd hc q
  · obtain ⟨l, e1, rfl⟩ := ini_ e
    obtain ⟨s1, s2⟩ := st e1
    unfold clsK at s2
    unfold clsS at s1
    simp only [Bool.and_eq_true, decide_eq_true_eq] at s1 s2
    rw [cad e1, atB_ok s1.2.2.2.2.2.1]
    refine ⟨?_, He.mkr_ok s2.1.2.1⟩
    show mg (t.cnm c) = _
    rw [cnm_of e1]
    exact He.glo_ok X G s2.1.2.2.1
  · have e : (match t.dfs[f]? with | some d => d.at_.2.isNone | none => false) = true := e
    split at e
    · rename_i d q
      have k := List.all_eq_true.mp kf d (List.mem_of_getElem? q)
      rw [Bool.or_eq_true, Bool.not_eq_true', e] at k
      rcases k with k | k
      · cases k
      · rw [Bool.and_eq_true] at k
        have at_ : t.at_ f = d.at_ := by unfold TL.at_; rw [q]
        have fa : (zeOf K t).fad f = He.ga K d.at_.1 := by
          show He.fAd K (t.at_ f) = _
          rw [at_]
          unfold He.fAd
          rw [Option.isNone_iff_eq_none.mp e]
        show mg (t.at_ f).1 = _ ∧ _
        rw [at_, fa]
        exact ⟨He.glo_ok X G k.1, k.2⟩
    · cases e
  · have hg : g < t.gls.length := of_decide_eq_true e
    have q := List.getElem?_eq_getElem hg
    have k := List.all_eq_true.mp ki _ (List.getElem_mem hg)
    obtain ⟨tk, e1⟩ := He.int_ok X G k
    refine ⟨.int (t.gls[g]).2, _, ?_, ⟨tk, rfl⟩, fun G' as => ?_⟩
    · show mg (match t.gls[g]? with | some p => p.1 | none => Str.empty) = _
      rw [q]
      exact e1
    · show Rp _ G' as (match t.gls[g]? with | some p => .int p.2 | none => .non) _
      rw [q]
      unfold Rp; rfl
  · exact He.free_ok X G (List.all_eq_true.mp kb x hx)
  · have ina : a ∈ vts t := by
      unfold vts
      cases a with
      | cls c =>
        have ha : ((t.cls[c]?).map (·.ini)).isSome = true := ha
        refine List.mem_append_right _ (List.mem_map.mpr ⟨c, List.mem_range.mpr ?_, rfl⟩)
        cases q : t.cls[c]? with
        | none => rw [q] at ha; cases ha
        | some l => exact (List.getElem?_eq_some_iff.mp q).1
      | _ => exact List.mem_append_left _ (by simp)
    have inb : b ∈ tys t := by
      unfold tys
      cases b with
      | cls c =>
        have hb : ((t.cls[c]?).map (·.ini)).isSome = true := hb
        refine List.mem_append_right _ (List.mem_map.mpr ⟨c, List.mem_range.mpr ?_, rfl⟩)
        cases q : t.cls[c]? with
        | none => rw [q] at hb; cases hb
        | some l => exact (List.getElem?_eq_some_iff.mp q).1
      | _ => exact List.mem_append_left _ (by simp)
    exact of_decide_eq_true (List.all_eq_true.mp (List.all_eq_true.mp kk a ina) b inb)
  · obtain ⟨p, e1, e2, e3⟩ := rse_ e
    have k := exk e1
    unfold exK at k
    rw [Bool.and_eq_true] at k
    have k2 := k.2
    rw [e2] at k2
    simp only [Bool.not_true, Bool.false_or, Bool.and_eq_true, decide_eq_true_eq] at k2
    obtain ⟨f1, f2, f3, f4⟩ := He.exc_ok k2.2.1
    rw [ecl_ e1]
    refine ⟨rfl, ?_, ?_, f1, f2, f3, f4⟩
    · exact exvO_own e1 k2.1
    · exact decide_eq_true (List.getElem?_eq_some_iff.mp e1).1
  · have e : x < t.exs.length := of_decide_eq_true e
    have e1 := List.getElem?_eq_getElem e
    have k := exk e1
    unfold exK at k
    rw [Bool.and_eq_true] at k
    have k1 := k.1
    rw [xtn_at e1]
    show mg _ = some (exvO K t x) ∨ _ ∧ _ ∧ exvO K t x = _
    by_cases q : (t.exs[x]).own = true
    · rw [if_pos q] at k1
      simp only [Bool.and_eq_true] at k1
      rw [exvO_own e1 q]
      exact .inl (He.glo_ok X G k1.1)
    · rw [if_neg q] at k1
      simp only [Bool.and_eq_true, decide_eq_true_eq] at k1
      rw [exvO_no e1 q]
      exact .inr ⟨He.free_ok X G k1.2, k1.1, rfl⟩
  · have e : (match t.exs[x]? with
      | some e => if (e.rse && decide (y < t.exs.length)) = true then some (e.sup.contains y) else none
      | none => none) = some b := e
    split at e
    · rename_i p e1
      split at e
      · rename_i hq
        cases e
        rw [Bool.and_eq_true, decide_eq_true_eq] at hq
        have k := exk e1
        unfold exK at k
        rw [Bool.and_eq_true] at k
        have k2 := k.2
        rw [hq.1] at k2
        simp only [Bool.not_true, Bool.false_or, Bool.and_eq_true, decide_eq_true_eq] at k2
        obtain ⟨h1, h2, ⟨h3, h4⟩, ⟨h5, h6⟩, h7⟩ := k2
        obtain ⟨f1, f2, f3, f4⟩ := He.exc_ok h2
        have k1 := k.1
        rw [if_pos h1] at k1
        simp only [Bool.and_eq_true, decide_eq_true_eq] at k1
        have h8 := List.all_eq_true.mp h7 y (List.mem_range.mpr hq.2)
        rw [Bool.and_eq_true, decide_eq_true_eq, decide_eq_true_eq] at h8
        rw [ecl_ e1]
        exact ⟨decide_eq_true hq.2, rfl, ⟨He.eqO_ok h3, He.eqO_ok h4, f3, k1.2.2.1, He.eqO_ok h5, He.eqO_ok kg, of_decide_eq_true kt, h6⟩, h8.1, h8.2⟩
      · cases e
    · cases e
  · have e : x < t.exs.length := of_decide_eq_true e
    have e1 := List.getElem?_eq_getElem e
    have k := exk e1
    unfold exK at k
    rw [Bool.and_eq_true] at k
    have k1 := k.1
    rw [xow_at e1]
    show (_ ∧ ∃ C, exvO K t x = .ref C ∧ _) ∨ (_ ∧ exvO K t x = _)
    by_cases q : (t.exs[x]).own = true
    · rw [if_pos q] at k1
      simp only [Bool.and_eq_true, decide_eq_true_eq] at k1
      exact .inl ⟨q, He.ga K (t.exs[x]).name, exvO_own e1 q, k1.2.1, k1.2.2.1, k1.2.2.2⟩
    · exact .inr ⟨by simpa using q, exvO_no e1 q⟩
  · obtain ⟨l, e1, e2⟩ := Option.bind_eq_some_iff.mp (show (t.cls[c]?).bind (fun l => (l.mths.find? fun p => decide (p.1 = n)).map (·.2)) = some f from e)
    have hm := find_mem e2
    have s1 := (st e1).1
    unfold clsS at s1
    simp only [Bool.and_eq_true] at s1
    have q1 := List.all_eq_true.mp s1.2.1 _ hm
    simp only [Bool.and_eq_true, Bool.not_eq_true'] at q1
    exact q1.2.2
  · obtain ⟨l, e1, rfl⟩ := ini_ e
    have s1 := (st e1).1
    unfold clsS at s1
    simp only [Bool.and_eq_true] at s1
    have q := s1.2.2.2.2.2.2
    show (match t.dfs[l.ini]? with | some d => d.fsh | none => false) = false
    split at q
    · rename_i d e2
      simpa using q
    · cases q
/-! ### the Hook -/
/-- the objects that can be had from the module's names, in few steps: a set of addresses is a number's bits -/
def frN {α : Type} (n : Nat) (k : Nat → α) : α := match n with
  | 0 => k 0
  | m + 1 => k (m + 1)
def insP {β : Type} : List Addr → Nat → List Addr → (Nat → List Addr → β) → β
  | [], seen, acc, k => k seen acc
  | b :: bs, seen, acc, k => frN b fun b => match Nat.beq (Nat.land (Nat.shiftRight seen b) 1) 1 with
    | true => insP bs seen acc k
    | false => frN (Nat.lor seen (Nat.shiftLeft 1 b)) fun seen => insP bs seen (b :: acc) k
def expP {β : Type} (g : Addr → Option Obj) : List Addr → Nat → List Addr → (Nat → List Addr → β) → β
  | [], seen, acc, k => k seen acc
  | a :: as, seen, acc, k => match g a with
    | some o => insP (He.refsD o) seen acc fun seen acc => expP g as seen acc k
    | none => expP g as seen acc k
def bfsP (g : Addr → Option Obj) : Nat → Nat → List Addr → List Addr → List Addr
  | 0, _, _, all => all
  | n + 1, seen, fr, all => expP g fr seen [] fun seen new => bfsP g n seen new (all ++ new)
def asP (g : Addr → Option Obj) (n : Nat) : List Addr := bfsP g n (Nat.shiftLeft 1 mainGlobals) [mainGlobals] [mainGlobals]
abbrev AlP : Type := Bool × He.AlD
def obsP (t : TL) (fn : List He.DefD) (K : PySem.W.Frag) : AlP := (txB K t, He.obsD [] fn K)
def valP (fn : List He.DefD) : AlP := (true, He.valD fn)
def obsPG (n : Nat) (t : TL) (fn : List He.DefD) (g : Addr → Option Obj) : AlP := obsP t fn (He.frG g (asP g n))
def hookP (n : Nat) (t : TL) (fn : List He.DefD) : PySem.W.Hook where
  α := AlP
  obs := fun s => obsPG n t fn s.heap.get?
  val := fun _ => valP fn
  says := fun _ h => ∃ K : PySem.W.Frag, K.In h ∧ obsP t fn K = valP fn
  of := fun _ _ e => ⟨_, He.frG_in, e⟩
  keeps := fun _ _ _ ⟨K, hK, c⟩ k => ⟨K, PySem.W.Frag.In.keeps hK k, c⟩
theorem obsPG_eq {n : Nat} {t : TL} {fn : List He.DefD} {g : Addr → Option Obj} {s : Shared} (h : ∀ a, g a = s.heap.get? a) : obsPG n t fn g = (hookP n t fn).obs s := by
  have e : g = s.heap.get? := funext h
  rw [e] <;> rfl
theorem saysP {t : TL} {fn : List He.DefD} {K : PySem.W.Frag} (c : obsP t fn K = valP fn) : txB K t = true ∧ He.SaysD [] fn K := ⟨congrArg (fun z : AlP => z.1) c, congrArg (fun z : AlP => z.2) c⟩
end Pm
end
end
section
set_option Elab.async false
set_option linter.all false
set_option maxRecDepth 100000
set_option maxHeartbeats 4000000
/-! Pm30: from the tables to the law's promise. -/
noncomputable section
namespace Pm
open PySem PySem.Spec L2
structure Row where
  d : He.DefD
  N : List Str
  ps : List Str
  fn : Fn
def rowB (K : PySem.W.Frag) (t : TL) (i : Nat) (r : Row) : Bool := chkSs (zeOf K t) r.N r.fn.fr r.fn.body r.d.scope r.d.body && (decide (r.fn.siz = r.N.length) && (decide (r.fn.par = r.ps.length) && (C8.scC r.N r.ps r.d.scope && (match t.dfs[i]? with
  | some e => decide (r.ps.length = e.pars) && ((r.fn.fr == e.fsh) && decide (r.d.at_ = e.at_))
  | none => false))))
def rowsB (K : PySem.W.Frag) (t : TL) : Nat → List Row → Bool
  | _, [] => true
  | i, r :: rs => rowB K t i r && rowsB K t (i + 1) rs
theorem rowsB_at {K : PySem.W.Frag} {t : TL} : ∀ {rs : List Row} {j i : Nat} {r : Row}, rowsB K t j rs = true → rs[i]? = some r → rowB K t (j + i) r = true
  | [], j, i, r, _, h => by simp at h
  | r0 :: rs, j, 0, r, h, e => by
    unfold rowsB at h
    rw [Bool.and_eq_true] at h
    simp at e
    subst e
    exact h.1
  | r0 :: rs, j, i + 1, r, h, e => by
    unfold rowsB at h
    rw [Bool.and_eq_true] at h
    have := rowsB_at (j := j + 1) (i := i) h.2 (by simpa using e)
    rwa [Nat.add_assoc, Nat.add_comm 1] at this
/-- the defs' objects -/
structure DfOk (K : PySem.W.Frag) (rows : List Row) (Df : Defs) : Prop where
  fd : ∀ (i : Nat) (r : Row), rows[i]? = some r → FunD K r.d.name r.d.qual r.d.params r.d.body r.d.scope (r.d.dvs K) (r.d.kws K) (He.fAd K r.d.at_) (Df.fd i)
  ps : ∀ (i : Nat) (r : Row), rows[i]? = some r → Df.ps i = r.ps
theorem df_of {K : PySem.W.Frag} {rows : List Row} (c : He.SaysD [] (rows.map (·.d)) K) (h0 : rows ≠ []) : ∃ Df, DfOk K rows Df := by
  have ex : ∀ (i : Nat) (r : Row), rows[i]? = some r → ∃ fd, FunD K r.d.name r.d.qual r.d.params r.d.body r.d.scope (r.d.dvs K) (r.d.kws K) (He.fAd K r.d.at_) fd := fun i r e => c.def_ i (d := r.d) (by rw [List.getElem?_map, e]; rfl)
  have ne : Nonempty FuncData := by
    cases rows with
    | nil => exact absurd rfl h0
    | cons r rs => obtain ⟨fd, _⟩ := ex 0 r rfl; exact ⟨fd⟩
  classical
  have pick : ∀ i : Nat, ∃ fd : FuncData, ∀ r : Row, rows[i]? = some r → FunD K r.d.name r.d.qual r.d.params r.d.body r.d.scope (r.d.dvs K) (r.d.kws K) (He.fAd K r.d.at_) fd := fun i => by
    cases e : rows[i]? with
    | none => exact ⟨Classical.choice ne, fun r h => by cases h⟩
    | some r => obtain ⟨fd, F⟩ := ex i r e; exact ⟨fd, fun r' h => by cases h; exact F⟩
  refine ⟨⟨fun i => Classical.choose (pick i), fun i => match rows[i]? with | some r => r.ps | none => []⟩, fun i r e => Classical.choose_spec (pick i) r e, fun i r e => ?_⟩
  show (match rows[i]? with | some r => r.ps | none => []) = _
  rw [e]
section
variable {K : PySem.W.Frag} {t : TL} {rows : List Row} {Df : Defs}
/-- a def that may be a key has a key's body -/
def keyR (t : TL) (f : Nat) (r : Row) : Bool := match t.dfs[f]? with
  | some e => !e.key || (decide (r.d.at_ = e.at_) && (C8.scC r.N r.ps r.d.scope && keyB r.ps r.d.body r.d.scope))
  | none => true
theorem keyR_ok (d : DfOk K rows Df) {f : Nat} {r : Row} (e : rows[f]? = some r) (h : keyR t f r = true) : (zeOf K t).kyf f = true → KeyD (zeOf K t).K ((zeOf K t).fad f) (Df.fd f) (Df.ps f) := by
  intro hy
  have hy : (match t.dfs[f]? with | some d => d.key | none => false) = true := hy
  unfold keyR at h
  split at hy
  · rename_i dl e2
    rw [e2] at h
    simp only [hy, Bool.not_true, Bool.false_or, Bool.and_eq_true, decide_eq_true_eq] at h
    obtain ⟨h1, h2, h3⟩ := h
    have ea : (zeOf K t).fad f = He.fAd K r.d.at_ := by
      show He.fAd K (t.at_ f) = _
      unfold TL.at_
      rw [e2, h1]
    rw [ea, d.ps f r e]
    exact ⟨_, _, _, _, _, _, _, _, d.fd f r e, C8.fnScope_by h2, h3⟩
  · cases hy
/-- n values, keywords; no defaults -/
theorem pat0 (d : DfOk K rows Df) {f n : Nat} {ks : List Str} {r : Row} (e : rows[f]? = some r) (hd : r.d.dfl = []) (hk : r.d.kwd = []) (hl : n + ks.length = prsOf t f) (hky : keyR t f r = true)
    (h : ∀ (kV doc pm : Value) (an : Option Addr) (cdv ct : Value) (us ws : List Value), us.length = n → ws.length = ks.length → bindArgs (PySem.W.fnOf r.d.name r.d.qual r.d.params r.d.body r.d.scope .none kV doc pm an cdv ct) ⟨us, ks.zip ws⟩ = pure (r.ps.zip (us ++ ws))) : PatOk (zeOf K t) Df f n ks [] := by
  refine ⟨hl, keyR_ok d e hky, [], [], .nil, fun _ _ => .nil, fun s us ws X l1 l2 => ?_⟩
  obtain ⟨oc, od, dV, kV, doc, pm, an, cdv, ct, osl, e1, lk, hcd, hD, hK⟩ := (d.fd f r e).ex
  have e0 : r.d.dvs K = [] := by unfold He.DefD.dvs; rw [hd]; rfl
  rw [e0] at hD
  rcases hD with ⟨_, rfl⟩ | ⟨z, _⟩
  · rw [e1, d.ps f r e, List.append_nil]
    exact .of_eq (h kV doc pm an cdv ct us ws l1 l2)
  · exact absurd rfl z
/-- n values, the last defaults fill up -/
theorem pat1 (d : DfOk K rows Df) {f n : Nat} (j : Nat) {ds : List D} {r : Row} (e : rows[f]? = some r) (hd : r.d.dfl ≠ []) (hl : n + ds.length = prsOf t f) (hr : ∀ G as, Rps (zeOf K t).toZt G as ds ((r.d.dvs K).drop j)) (hn : n + (r.d.dfl.length - j) = r.ps.length) (hky : keyR t f r = true)
    (h : ∀ (T : Addr) (kV doc pm : Value) (an : Option Addr) (cdv ct : Value) (us its : List Value), us.length = n → its.length = r.d.dfl.length →
      ∃ k, bindArgs (PySem.W.fnOf r.d.name r.d.qual r.d.params r.d.body r.d.scope (.ref T) kV doc pm an cdv ct) ⟨us, []⟩ = seqItems? (.ref T) >>= k ∧ k (some its.toArray) = pure (r.ps.zip (us ++ its.drop j))) : PatOk (zeOf K t) Df f n [] ds := by
  have el : (r.d.dvs K).length = r.d.dfl.length := by unfold He.DefD.dvs; rw [List.length_map]
  obtain ⟨dus, h1, h2⟩ := FunD.binds1 (ps := r.ps) (d.fd f r e) n j (by intro z; apply hd; unfold He.DefD.dvs at z; exact List.map_eq_nil_iff.mp z) (by rw [el]; exact hn) (fun T kV doc pm an cdv ct us its l1 l2 => h T kV doc pm an cdv ct us its l1 (l2.trans el))
  refine ⟨by rw [List.length_nil, Nat.add_zero]; exact hl, keyR_ok d e hky, (r.d.dvs K).drop j, dus, h1, hr, fun s us ws X l1 l2 => ?_⟩
  have e2 : ws = [] := List.eq_nil_of_length_eq_zero l2
  subst e2
  rw [d.ps f r e, List.append_nil]
  refine h2 s us X ?_
  have := h1.length
  rw [List.length_drop, el] at this
  rw [List.length_append, l1, ← this, hn]
/-- n values and all further ones by their names, none of the defaults -/
theorem pat2 (d : DfOk K rows Df) {f n : Nat} {ks : List Str} {r : Row} (e : rows[f]? = some r) (hd : r.d.dfl ≠ []) (hl : n + ks.length = prsOf t f) (hky : keyR t f r = true)
    (h : ∀ (T : Addr) (kV doc pm : Value) (an : Option Addr) (cdv ct : Value) (us ws its : List Value), us.length = n → ws.length = ks.length → its.length = r.d.dfl.length →
      ∃ k, bindArgs (PySem.W.fnOf r.d.name r.d.qual r.d.params r.d.body r.d.scope (.ref T) kV doc pm an cdv ct) ⟨us, ks.zip ws⟩ = seqItems? (.ref T) >>= k ∧ k (some its.toArray) = pure (r.ps.zip (us ++ ws))) : PatOk (zeOf K t) Df f n ks [] := by
  refine ⟨hl, keyR_ok d e hky, [], [], .nil, fun _ _ => .nil, fun s us ws X l1 l2 => ?_⟩
  obtain ⟨oc, od, dV, kV, doc, pm, an, cdv, ct, osl, e1, lk, hcd, hD, hK⟩ := (d.fd f r e).ex
  have el : (r.d.dvs K).length = r.d.dfl.length := by unfold He.DefD.dvs; rw [List.length_map]
  rcases hD with ⟨z, _⟩ | ⟨_, T, o, its, m, rfl, lT, oT, rT⟩
  · exact absurd z (by intro z; apply hd; unfold He.DefD.dvs at z; exact List.map_eq_nil_iff.mp z)
  · rw [e1, d.ps f r e, List.append_nil]
    obtain ⟨k, q1, q2⟩ := h T kV doc pm an cdv ct us ws its l1 l2 (rT.length.symm.trans el)
    refine BindsTo.of_looks fun M => ?_
    rw [q1]
    exact looks_items X lT oT (.of_pure q2)
theorem rp_dt (hk : txB K t = true) {p : (Str × Option Str) × Nat} (hp : p ∈ t.dts) (G : Hp) (as : List Addr) : Rp (zeOf K t).toZt G as (.tup []) (.ref (He.dflAt p.1 p.2 K)) := by
  unfold txB at hk
  rw [Bool.and_eq_true, Bool.and_eq_true] at hk
  exact dtB_ok (List.all_eq_true.mp hk.1.1 p hp)
theorem fd_ok (d : DfOk K rows Df) (hb : rowsB K t 0 rows = true) : ∀ i fn, (rows.map (·.fn))[i]? = some fn → FDok (zeOf K t) Df i fn := by
  intro i fn e
  rw [List.getElem?_map] at e
  obtain ⟨r, e1, rfl⟩ := Option.map_eq_some_iff.mp e
  have h := rowsB_at hb e1
  rw [Nat.zero_add] at h
  unfold rowB at h
  simp only [Bool.and_eq_true, decide_eq_true_eq] at h
  obtain ⟨h1, h2, h3, h4, h5⟩ := h
  split at h5
  · rename_i dl e2
    simp only [Bool.and_eq_true, decide_eq_true_eq, beq_iff_eq] at h5
    have ep := d.ps i r e1
    have ea : (zeOf K t).fad i = He.fAd K r.d.at_ := by
      show He.fAd K (t.at_ i) = _
      unfold TL.at_
      rw [e2, h5.2.2]
    refine ⟨⟨_, _, _, _, _, r.N, _, _, by rw [ea]; exact d.fd i r e1, by rw [ep]; exact C8.fnScope_by h4, h1, h2⟩, by rw [ep]; exact h3, ?_, ?_⟩
    · rw [ep, h5.1]
      show dl.pars = (match t.dfs[i]? with | some d => d.pars | none => 0)
      rw [e2]
    · rw [h5.2.1]
      show dl.fsh = (match t.dfs[i]? with | some d => d.fsh | none => false)
      rw [e2]
  · cases h5
end
/-- a law's def keeps its promise at every script that the machine says yes to -/
theorem law_ok {K : PySem.W.Frag} {t : TL} {rows : List Row} {Df : Defs} {h : Heap} {mg : Str → Option Value} {prog : Program} {w : World} {fu J li : Nat} (SA : ∀ C k, SrtAll (zeOf K t) C k) (X : K.In h) (G : h.Ns mainGlobals mg) (hs : stB_ t = true) (hk : txB K t = true) (d : DfOk K rows Df) (hb : rowsB K t 0 rows = true)
    (hp : ∀ p ∈ t.pats, PatOk (zeOf K t) Df p.1 p.2.1 p.2.2.1 p.2.2.2) {r : Row} (hl : rows[li]? = some r) (base : Heap) :
    FnOk prog w K mg base (L2.CX prog w) (8 * J) (He.fAd K r.d.at_) (Df.fd li) r.ps (SpM (zeOf K t) (evP (tabOf t) (rows.map (·.fn)) fu J) li) := by
  obtain ⟨tx, zo⟩ := txt_of X G hs hk
  have F := fn_all (prog := prog) (w := w) (base := base) (fu := fu) zo SA tx (fd_ok d hb) (fun f n ks ds q => hp _ (TL.pat_mem q)) J li
  have h := rowsB_at hb hl
  rw [Nat.zero_add] at h
  unfold rowB at h
  simp only [Bool.and_eq_true, decide_eq_true_eq] at h
  obtain ⟨h1, h2, h3, h4, h5⟩ := h
  split at h5
  · rename_i dl e2
    simp only [Bool.and_eq_true, decide_eq_true_eq, beq_iff_eq] at h5
    have ea : (zeOf K t).fad li = He.fAd K r.d.at_ := by
      show He.fAd K (t.at_ li) = _
      unfold TL.at_
      rw [e2, h5.2.2]
    rw [ea, d.ps li r hl] at F
    exact F
  · cases h5
/-- at a script -/
theorem sp_law {K : PySem.W.Frag} {t : TL} {P : List Fn} {fu J li : Nat} {H : Hp} {a : Addr} {ns : List Int} (hq : SqL K H a (ns.map V.int)) (hp : (zeOf K t).pars li = 1) (hf : (zeOf K t).fsh li = false) (he : ∃ m, evP (tabOf t) P fu J li [.scr (ns.map .int)] [] = .ok (.bl true) m) :
    SpM (zeOf K t) (evP (tabOf t) P fu J) li [.ref a] H (fun v _ => v = .bl true) fun _ _ _ => False := by
  obtain ⟨m, he⟩ := he
  have nsR : ∀ ns : List Int, Rps (zeOf K t).toZt H [] (ns.map D.int) (ns.map V.int) := fun ns => by
    induction ns with
    | nil => exact .nil
    | cons n ns ih => exact .cons (by unfold Rp; rfl) ih
  refine ⟨{ G := H, F := fun _ => none, as := [], os := [] }, [.scr (ns.map .int)], [], rfl, ⟨Ex.rfl', fun a o e => (by cases e), fun a e => absurd rfl e, rfl, rfl, rfl, fun i x e => by simp at e, fun k cl a e => by simp at e, fun a ha => ?_, by simp⟩, ?_, ?_, hp.symm⟩
  · rcases ha with ha | ha <;> simp at ha
  · refine .cons ?_ .nil
    unfold Rp
    exact ⟨a, ns.map V.int, rfl, hq, nsR ns⟩
  · rw [hf, he]
    intro c' v H' _ _ _ rr
    unfold RetRel at rr
    rw [if_neg (by simp)] at rr
    unfold Rp at rr
    exact rr
theorem cx_none {P : Program} {w : World} (H : Hp) (s : Shared) (e : Value) (s' : Shared) (h : L2.CX P w [] H s (fun _ _ _ => False) e s') : False := by
  obtain ⟨_, _, _, _, _, _, _, _, _, _, _, _, z⟩ := h
  exact z
end Pm
end
end
section
set_option Elab.async false
set_option linter.all false
set_option maxRecDepth 100000
set_option maxHeartbeats 4000000
/-! Pm31: sorted. -/
noncomputable section
namespace PySem.W
open PySem PyProof.Rows
section
variable {prog : Program} {w : World} {A : Around} {E : Value → Shared → Prop} {s : Shared}
theorem pm_oneLt_tup {l b : Addr} {items items2 : Array Value} {ns ms : List Int} {Q : Bool → Shared → Prop} (hl : s.heap.IsTuple l items) (hb : s.heap.IsTuple b items2) (hi : IntsAre items.toList ns) (hj : IntsAre items2.toList ms) (hu : A.units < cLine) (h : Q (HT.lexLt ns ms) s) :
    wpAny (model prog w) A (oneLt' true (.ref l) (.ref b)) Q E s := by
  obtain ⟨⟨cls, dd, data, sl⟩, ho, hc, n, hd⟩ := id hl
  obtain ⟨⟨cls2, dd2, data2, sl2⟩, ho2, hc2, n2, hd2⟩ := id hb
  simp only at hc hd hc2 hd2
  subst hc hd hc2 hd2
  rw [oneLt'_eq]
  simp only [if_true]
  refine wpAny_bind (wpAny_cRoomFor hu ?_)
  refine wpAny_bind (wpAny_callSpecialIfBound?_slot ⟨_, ho, rfl⟩ PySem.F.slot_tuple_lt (call_meets PySem.F.slot_tuple_lt ⟨_, ho, rfl⟩ PySem.F.entry_tuple_lt (PySem.F.args_tuple_lt_2 _ _) (HT.tuple_lt_ints l b items items2 n n2 dd dd2 sl sl2 ns ms hi hj) ⟨ho, ho2, ?_⟩))
  exact wpAny_truthy_bool h
theorem pm_mapM {α β : Type} {M : Model} {f : α → Sem β} {g : α → β} : ∀ (l : List α) {Q : List β → Shared → Prop}, (∀ v ∈ l, ∀ (Q' : β → Shared → Prop), Q' (g v) s → wpAny M A (f v) Q' E s) → Q (l.map g) s → wpAny M A (l.mapM f) Q E s
  | [], _, _, h => by rw [List.mapM_nil]; exact wpAny_pure h
  | x :: l, Q, hf, h => by
    rw [List.mapM_cons]
    exact wpAny_bind (hf x (.head _) _ (wpAny_bind (pm_mapM l (Q := fun bs s' => wpAny M A (pure (g x :: bs)) Q E s') (fun v hv => hf v (.tail _ hv)) (wpAny_pure h))))
/-- a tuple of ints, as it lies -/
def PmTup (h : Heap) (v : Value) (ns : List Int) : Prop := ∃ a items, v = .ref a ∧ h.IsTuple a items ∧ IntsAre items.toList ns
theorem pm_ints {h : Heap} : ∀ {ns : List Int} {l : List Value} {as : List Addr}, ReadsAll h l (ns.map .int) as → IntsAre l ns
  | [], _, _, r => by cases r; exact .nil
  | n :: ns, _, _, r => by
    cases r with
    | cons r1 r2 =>
      cases r1
      exact .cons _ _ (pm_ints r2)
theorem pmTup_of {h : Heap} : ∀ {v : Value} {ns : List Int} {as : List Addr}, Reads h v (.tuple (ns.map .int)) as → PmTup h v ns := by
  intro v ns as r
  cases r with
  | @tuple a o xs n _ _ h1 h2 h3 h4 => exact ⟨a, xs, rfl, ⟨o, h1, h2, n, h3⟩, pm_ints h4⟩
theorem pm_kind {vs : List Value} {Q : SortKind → Shared → Prop} {M : Model} (h2 : 2 ≤ vs.length) (hv : ∀ v ∈ vs, ∃ ns, PmTup s.heap v ns) (h0 : ∃ v, vs.head? = some v ∧ PmTup s.heap v []) (h : Q oneType' s) : wpAny M A (keyKind' vs.toArray) Q E s := by
  obtain ⟨v0, e0, a0, it0, rfl, ht0, hi0⟩ := h0
  obtain ⟨rest, rfl⟩ : ∃ rest, vs = .ref a0 :: rest := by
    cases vs with
    | nil => cases e0
    | cons v rest => simp at e0; subst e0; exact ⟨rest, rfl⟩
  have hn0 : it0 = #[] := by
    have : it0.toList = [] := by cases q : it0.toList with | nil => rfl | cons x l => rw [q] at hi0; cases hi0
    simpa using this
  -- what the first look gives
  have first : ∀ v ∈ (Value.ref a0 :: rest), ∃ r : Option Value, (v = .ref a0 → r = none) ∧ ∀ (Q' : Option Value → Shared → Prop), Q' r s → wpAny M A (firstOfTuple' v) Q' E s := fun v hm => by
    obtain ⟨ns, a, items, rfl, ⟨o, ho, hc, n, hd⟩, hi⟩ := hv v hm
    refine ⟨items[0]?, fun e => ?_, fun Q' hq => ?_⟩
    · cases e
      obtain ⟨o0, k0, _, n0, kd⟩ := ht0
      rw [ho] at k0
      cases k0
      rw [hd] at kd
      injection kd with kd _
      subst kd
      subst hn0
      rfl
    · rw [kas_first_eq]
      refine wpAny_bind (wpAny_typeOf ⟨o, ho, hc⟩ ?_)
      rw [if_neg (by decide)]
      exact wpAny_bind (listItems_at ho hd (wpAny_pure hq))
  classical
  rw [keyKind'_eq, List.mapM_toArray, map_eq_pure_bind]
  refine wpAny_bind (wpAny_bind (pm_mapM (g := fun v => if hm : v ∈ (Value.ref a0 :: rest) then Classical.choose (first v hm) else none) _ (fun v hm Q' hq => ?_) (wpAny_pure ?_)))
  · rw [dif_pos hm] at hq
    exact (Classical.choose_spec (first v hm)).2 Q' hq
  · have hz : (if hm : Value.ref a0 ∈ (Value.ref a0 :: rest) then Classical.choose (first _ hm) else none) = none := by
      rw [dif_pos List.mem_cons_self]
      exact (Classical.choose_spec (first _ List.mem_cons_self)).1 rfl
    rw [List.map_cons, hz, if_neg (by simp), if_neg (by simp)]
    rw [oneTypeOnly'_eq, List.mapM_toArray, map_eq_pure_bind]
    refine wpAny_bind (wpAny_bind (wpAny_bind (kas_mapM (r := Value.type "tuple") _ (fun v hm Q' hq => ?_) (wpAny_pure ?_))))
    · obtain ⟨ns, a, items, rfl, ⟨o, ho, hc, n, hd⟩, hi⟩ := hv v hm
      exact wpAny_typeOf ⟨o, ho, hc⟩ hq
    · have hall : ((List.map (fun _ => Value.type "tuple") (Value.ref a0 :: rest)).toArray.all fun x => x == Value.type "tuple") = true := by
        simp only [List.all_toArray, List.all_map, List.all_eq_true]
        intro _ _
        rfl
      have h0 : (List.map (fun _ => Value.type "tuple") (Value.ref a0 :: rest)).toArray[0]? = some (Value.type "tuple") := by simp
      rw [h0]
      simp only [hall, if_true]
      exact wpAny_pure (wpAny_pure h)
theorem pm_alike : ∀ xs ys : List Int, alikeAll (xs.map .int) (ys.map .int) = true := alike_ints
theorem pm_dataLt : ∀ xs ys : List Int, dataLt (.tuple (xs.map .int)) (.tuple (ys.map .int)) = HT.lexLt xs ys := by
  intro xs ys
  rw [dataLt_tuple]
  induction xs generalizing ys with
  | nil =>
    cases ys with
    | nil => exact lex_irrefl _
    | cons y ys => rfl
  | cons x xs ih =>
    cases ys with
    | nil => rfl
    | cons y ys =>
      rw [List.map_cons, List.map_cons, dataLt_cons (by simp [alike]), HT.lexLt_cons]
      by_cases q : x = y
      · rw [if_pos (by simp [PyData.eqv, q]), if_pos q]; exact ih ys
      · rw [if_neg (by simp [PyData.eqv, q]), if_neg q, dataLt_int]
theorem pm_sorts {vs : List Value} {ds : List PyData} (e : EachIs (fun v d => ∃ as, Reads s.heap v d as) vs ds) (hi : ∀ d ∈ ds, ∃ ns : List Int, d = .tuple (ns.map .int)) (h0 : ds.head? = some (.tuple [])) (hu : A.units < cLine) : SortsAt prog w A s (dataKind s.heap ds) vs := by
  have hal : AllAlike ds := fun d hd d' hd' => by
    obtain ⟨ns, rfl⟩ := hi d hd
    obtain ⟨ms, rfl⟩ := hi d' hd'
    unfold alike
    exact pm_alike ns ms
  refine ⟨fun v hv => ?_, oneType', ?_, fun h2 E Q hq => ?_⟩
  · obtain ⟨d, hd, as, r⟩ := e.left v hv
    exact ⟨_, dataKind_some hal hd r⟩
  · intro E x y a b Q ha hb hq
    obtain ⟨d, as, hd, ra, rfl⟩ := dataKind_inv ha
    obtain ⟨d', as', hd', rb, rfl⟩ := dataKind_inv hb
    obtain ⟨ns, rfl⟩ := hi d hd
    obtain ⟨ms, rfl⟩ := hi d' hd'
    obtain ⟨p, it, rfl, t1, i1⟩ := pmTup_of ra
    obtain ⟨p', it', rfl, t2, i2⟩ := pmTup_of rb
    have hq' : Q (dataLt (.tuple (ns.map .int)) (.tuple (ms.map .int))) s := hq
    rw [pm_dataLt] at hq'
    rw [keyLt'_oneType]
    exact pm_oneLt_tup t1 t2 i1 i2 hu hq'
  · refine pm_kind h2 (fun v hv => ?_) ?_ hq
    · obtain ⟨d, hd, as, r⟩ := e.left v hv
      obtain ⟨ns, rfl⟩ := hi d hd
      exact ⟨ns, pmTup_of r⟩
    · cases e with
      | nil => cases h0
      | @cons v d vs ds h t =>
        obtain ⟨as, r⟩ := h
        have e1 : d = .tuple [] := by simpa using h0
        subst e1
        exact ⟨v, rfl, pmTup_of (ns := []) r⟩
end
end PySem.W
namespace Pm
open PySem PySem.Spec L2
section
variable {Z : Ze} {C : CF} {k : Nat} {N : List Str} {X : Cx} {sc : Scope} {W : WX}
variable {pins : List (Addr × Obj)} {σ τ : L2.St} {H : Hp} {sh : Shared} {cf : Cfg} {s : List S} {m : Mu}
abbrev RvR (Z : Ze) (cf : Cfg) (u : Value) (d : D) : Prop := ∃ v, RelV v u ∧ Rp Z.toZt cf.G cf.as d v
theorem each_of : ∀ {ds : List D} {vs : List V} {us : List Value}, Rps Z.toZt cf.G cf.as ds vs → Vals vs us → PySem.W.EachIs (RvR Z cf) us ds
  | [], _, _, r, v => by
    rw [r.nil_inv] at v
    cases v
    exact .nil
  | d :: ds, _, _, r, v => by
    obtain ⟨x, t, rfl, h1, h2⟩ := r.cons_inv
    cases v with
    | cons q1 q2 => exact .cons ⟨x, q1, h1⟩ (each_of h2 q2)
theorem each_back : ∀ {us : List Value} {ds : List D}, PySem.W.EachIs (RvR Z cf) us ds → ∃ vs, Vals vs us ∧ Rps Z.toZt cf.G cf.as ds vs
  | _, _, .nil => ⟨[], .nil, .nil⟩
  | _, _, .cons ⟨v, q1, q2⟩ t => by
    obtain ⟨vs, h1, h2⟩ := each_back t
    exact ⟨v :: vs, .cons q1 h1, .cons q2 h2⟩
theorem srtOk_flt {xs : List D} (h : srtOk xs = true) : xs.length ≤ lim ∧ ((xs.head? = some (.tup []) ∧ ∀ x ∈ xs, ∃ ns : List Int, x = .tup (ns.map .int)) ∨ ((∀ x ∈ xs, flp x = true) ∧ (∀ x ∈ xs, ∀ y ∈ xs, PySem.W.alike (pd x) (pd y) = true) ∧ ((∀ x ∈ xs, neTup x = true) ∨ ∀ x ∈ xs, notTN x = true))) := by
  unfold srtOk at h
  simp only [Bool.and_eq_true, Bool.or_eq_true, decide_eq_true_eq, List.all_eq_true] at h
  obtain ⟨h1, h2⟩ := h
  refine ⟨h1, ?_⟩
  rcases h2 with h2 | ⟨a, b, c⟩
  · refine .inl ?_
    split at h2
    · rename_i r
      refine ⟨rfl, fun x hx => ?_⟩
      have q := List.all_eq_true.mp h2 x hx
      cases x with
      | tup ys =>
        have q : (intsOf ys).isSome = true := q
        obtain ⟨ns, e⟩ := Option.isSome_iff_exists.mp q
        refine ⟨ns, ?_⟩
        have : ∀ {ys : List D} {ns : List Int}, intsOf ys = some ns → ys = ns.map .int := fun {ys} => by
          induction ys with
          | nil => intro ns e; cases e; rfl
          | cons y ys ih =>
            intro ns e
            cases y with
            | int i =>
              obtain ⟨ms, e1, rfl⟩ := Option.map_eq_some_iff.mp (show (intsOf ys).map (i :: ·) = some ns from e)
              rw [ih e1]; rfl
            | _ => cases e
        rw [this e]
      | _ => cases q
    · cases h2
  · exact .inr ⟨a, b, c⟩
theorem pds_ints (ns : List Int) : pds (ns.map D.int) = ns.map PyData.int := by
  induction ns with
  | nil => rfl
  | cons n ns ih => rw [List.map_cons, List.map_cons, ← ih]; rfl
theorem flts_ints (ns : List Int) : flts (ns.map D.int) = true := by
  induction ns with
  | nil => rfl
  | cons n ns ih => rw [List.map_cons]; unfold flts; rw [ih]; rfl
theorem case_srt {a : IE} (ha : SE Z C k a) : SF Z C k (.srt a) := by
  intro N X sc W c e h
  unfold chkF at h
  split at h
  · rename_i x p o pos
    simp only [Bool.and_eq_true, decide_eq_true_eq] at h
    obtain ⟨⟨rfl, h2⟩, h3⟩ := h
    obtain ⟨g1, g2, g3⟩ := c.gl h2
    have cr : CallR X (.builtin "sorted") (fun vs H Q => ∃ cf s m τ x v xs, vs = [v] ∧ Sim Z.toZt cf s m τ H ∧ Rep Z.toZt cf s x v ∧ lstOf m x = some xs ∧ srtOk xs = true ∧ ∀ p us, H p = none → Rps Z.toZt cf.G cf.as (srtD xs) us → Q (.ref p) (upd H p (.lst us))) := by
      intro pins sh σ H vs us Q I r h
      obtain ⟨cf, s, m, τ, x, v, xs, rfl, S1, rx, ex, ok, q⟩ := h
      obtain ⟨a1, vs, rfl, h1, h2⟩ := S1.lstOf rx ex
      obtain ⟨u, rfl, ru⟩ := vals1 r
      cases ru
      obtain ⟨its, rv, hl, hz⟩ := I.list (by rw [c.eK]; exact h1)
      obtain ⟨hlim, cases_⟩ := srtOk_flt ok
      have hu : X.A.units + 100 < cLine := by have := c.room.un; omega
      have fl : ∀ d ∈ xs, flt d = true := fun d hd => by
        rcases cases_ with ⟨_, z⟩ | ⟨z, _⟩
        · obtain ⟨ns, rfl⟩ := z d hd
          unfold flt
          exact flts_ints ns
        · exact flp_flt (z d hd)
      have eR := each_of h2 rv
      have eD : PySem.W.EachIs (fun v b => ∃ as, Reads sh.heap v (pd b) as) its xs := (PySem.W.each_mem eR).mono fun v b ⟨⟨w, q1, q2⟩, hb⟩ => Dp.reads I (pd b) w v (by rw [c.eK]; exact dp_of S1.exG (fl b hb) q2) q1
      have zl : xs.length ≤ sizeLine := Nat.le_trans (show xs.length ≤ 100000 from hlim) line_lim
      have fin : ∀ out : List Value, out.length = xs.length → PySem.W.EachIs (RvR Z cf) out (srtD xs) → EP X pins σ Q (.ref (sh.heap.objs.size + 1)) { sh with heap := PyProof.Rows.sortedAll sh.heap its out.toArray } := fun out hlo eo => by
        obtain ⟨ws, q1, q2⟩ := each_back eo
        obtain ⟨ep, he'⟩ := PyProof.Rows.sortedAll_at sh.heap its out.toArray
        exact ⟨.ref _, upd H (sh.heap.objs.size + 1) (.lst ws), I.laid (t' := sh.toks) (fun _ _ => PyProof.Rows.sortedAll_old) (Nat.le_succ _) ⟨by rw [q1.length, hlo]; exact zl, out, ep, q1, he'⟩, rfl, q _ ws (I.hok.fresh (Nat.le_succ _)) q2⟩
      rcases cases_ with ⟨hh, hi⟩ | ⟨hf, hal, hk⟩
      · -- tuples of ints, the first one empty
        have kr : ∀ (b : Addr) (o : Obj), sh.heap.get? b = some o → (PySem.W.sortingHeap (PySem.W.copyHeap sh.heap its) (sh.heap.objs.size + 1) its).get? b = some o := fun b o e => PySem.W.sorting_copy_old e
        have er' : PySem.W.EachIs (fun v b => ∃ as, Reads (PySem.W.sortingHeap (PySem.W.copyHeap sh.heap its) (sh.heap.objs.size + 1) its) v (pd b) as) its xs := eD.mono fun _ _ ⟨as, r⟩ => ⟨as, PyProof.Rows.Reads.keeps kr r⟩
        have hid : ∀ d ∈ xs.map pd, ∃ ns : List Int, d = .tuple (ns.map .int) := fun d hd => by
          obtain ⟨x, hx, rfl⟩ := List.mem_map.mp hd
          obtain ⟨ns, rfl⟩ := hi x hx
          exact ⟨ns, by show PyData.tuple (pds _) = _; rw [pds_ints]⟩
        have h0 : (xs.map pd).head? = some (.tuple []) := by
          rw [List.head?_map, hh]; rfl
        have hala : PySem.W.AllAlike (xs.map pd) := fun d hd d' hd' => by
          obtain ⟨ns, rfl⟩ := hid d hd
          obtain ⟨ms, rfl⟩ := hid d' hd'
          unfold PySem.W.alike
          exact PySem.W.pm_alike ns ms
        refine PySem.W.sorted_vals hl.isList (PySem.W.pm_sorts (s := { sh with heap := PySem.W.sortingHeap (PySem.W.copyHeap sh.heap its) (sh.heap.objs.size + 1) its }) (PySem.W.each_map (R := fun v d => ∃ as, Reads (PySem.W.sortingHeap (PySem.W.copyHeap sh.heap its) (sh.heap.objs.size + 1) its) v d as) pd er') hid h0 (by show X.A.units + 1 + 1 < cLine; omega)) (by rw [← rv.length, ← h2.length]; exact zl)
          (fin _ (by rw [PySem.W.sortVals_length false rfl]; exact eR.length) (PySem.W.sortVals_data false eR er' hala))
      · refine PySem.W.sorted_data hl.isList eR eD (fun d hd d' hd' => ?_) ?_ zl (fun b hb => ?_) fun out hlo eo => fin out hlo eo
        · obtain ⟨x, hx, rfl⟩ := List.mem_map.mp hd
          obtain ⟨y, hy, rfl⟩ := List.mem_map.mp hd'
          exact hal x hx y hy
        · rcases hk with hk | hk
          · refine .inl fun d hd => ?_
            obtain ⟨x, hx, rfl⟩ := List.mem_map.mp hd
            have := hk x hx
            cases x with
            | tup ys =>
              cases ys with
              | nil => cases this
              | cons y ys => exact ⟨pd y, pds ys, rfl⟩
            | _ => cases this
          · refine .inr fun d hd => ?_
            obtain ⟨x, hx, rfl⟩ := List.mem_map.mp hd
            have h1 := hk x hx
            have h2 := fl x hx
            cases x <;> first | (cases h1; done) | (cases h2; done) | exact ⟨(fun z => by cases z), fun xs z => by cases z⟩
        · rw [pd_dep]
          have := hf b hb
          unfold flp at this
          simp only [Bool.and_eq_true, decide_eq_true_eq] at this
          omega
    refine PE.of (pe_callB cr g1 (c.txt.blt _ (by decide +kernel)) (by decide +kernel) (pa_cons (ha c o h3).1 pa_nil (star_one (noStar h3))) g3 g2 (star_one (noStar h3)) rfl) fun σ H Q q => ?_
    obtain ⟨cf, s, m, S1, q⟩ := q
    simp only [evF] at q
    refine ⟨cf, s, m, S1, q.bind fun x m1 c1 vx H1 l S2 rx q2 => ?_⟩
    split at q2
    · rename_i xs ex
      split at q2
      · rename_i ok
        exact ⟨c1, s, m1, σ, x, vx, xs, rfl, S2, rx, ex, ok, fun p us hp hr => out_fre S2 hr q2 p hp⟩
      · exact q2.elim
    · exact q2.elim
  · cases h
theorem srt_one (Z : Ze) (C : CF) (k : Nat) (a : IE) (ha : SE Z C k a) : SF Z C k (.srt a) := case_srt ha
end
end Pm
end
end
section
set_option Elab.async false
set_option linter.all false
set_option maxRecDepth 100000
set_option maxHeartbeats 4000000
/-! Pm32: the head's end (after walk_ofE, what a def may let out by the world). -/
noncomputable section
namespace Pm
open PySem PySem.Spec PyProof.Rows L2
theorem walk_ofP {l : PySem.W.OpenLaw} {n k : Nat} {q : Program} {loose : List Str} {XP : (Str → Option Value) → Heap → Prop} {YP : World → Heap → Prop} {d : DefRec} {x : Str}
    (hn : l.most = some n) (hn2 : n ≤ sizeLine) (hdf : d.params.defaults = []) (hr : Room k callerA)
    (F : ∀ (w : World) (mg : Str → Option Value) (fa : Addr) (h : Heap), YP w h → h.Ns mainGlobals mg → mg d.name = some (.ref fa) →
      ∃ (K : PySem.W.Frag) (fd : FuncData) (sp : Sp), K.In h ∧ (∀ (s : Shared) (u : Value), BindsTo s fd ⟨[u], []⟩ [(x, u)]) ∧
        (∀ (H : Hp) (a : Addr) (ns : List Int), ns.length ≤ n → Only H → SqL K H a (ns.map V.int) → sp [.ref a] H (fun v _ => v = .bl true) fun _ _ _ => False) ∧
        ∀ base : Heap, K.In base → base.Ns mainGlobals mg → FnOk l.prog w K mg base (L2.CX l.prog w) k fa fd [x] sp) :
    PySem.W.WalkO q loose XP YP l.row.toRowW d [] (fun f vs => PySem.call f vs) := by
  refine Att.attach_call hn hdf fun w s₀ s₁ mg mb fa o pm cd doc a vs ns G Y ho hd hcd hmg hobj hints hlen hg => ?_
  obtain ⟨K, fd, sp, KX, hb, hsp, hF⟩ := F w mg fa _ Y G.T.g hmg
  exact law_call KX G.T.g G.T.b G.T.builtins G.T.nolimit hg hobj hints (Nat.le_trans hlen hn2) hr hF hb (fun H hO hS => hsp H a ns hlen hO hS) fun H e s' z => cx_none H s₁ e s' z
end Pm
end
end
section
set_option Elab.async false
set_option linter.all false
set_option maxRecDepth 100000
set_option maxHeartbeats 4000000
/-! Pm33: sorted(set(list of ints)). -/
noncomputable section
namespace Pm
open PySem PySem.Spec PyProof.Rows L2
abbrev freshO (w : World) : Obj := { cls := .type "set", dict := none, data := .set #[] 0 (.fresh 0 0 (!w.params.followText "set-order")) }
section
variable {P : Program} {w : World} {A : Around} {E : Value → Shared → Prop} {s : Shared}
/-- set(l) of a list of ints, with its order -/
theorem set_of_list {l : Addr} {items : Array Value} (ns : List Int) {Q : Value → Shared → Prop} (nh : A.handled = none) (isl : s.heap.IsList l items) (ia : IntsAre items.toList ns) (few : ns.length + 1 < scanBound)
    (fin : ∀ (h' : Heap) (tk c : Nat), SetR w h' s.heap.objs.size (fun j => decide (j ∈ ns)) c → c ≤ ns.length → (∀ b o, s.heap.get? b = some o → h'.get? b = some o) → Q (.ref s.heap.objs.size) { s with heap := h', toks := tk }) : wpAny (model P w) A (call (.type "set") [.ref l]) Q E s := by
  have isz : items.size = ns.length := by have q := IntsAre.length ia; rwa [Array.length_toList] at q
  obtain ⟨mr, tl, hmro⟩ := F.called_set.mro
  have c1 := F.called_set.made; have c2 := F.called_set.sub; have c3 := F.called_set.notType; have c4 := F.called_set.canCreate
  refine wpAny_call (codeAny_of_tree (show wpAny _ _ (callAny (.type "set") _) _ _ _ from wpAny_pure ⟨Code.quiet_builtin _ (by decide +kernel), codeAny_builtin F.entry_type_call ?_⟩))
  rw [Around.under_plain (weight_type_call_type "set" [.ref l] []) rfl]
  have c5 := F.typeCall_set_1 (.ref l)
  repeat (any_goals (first | assumption | wp_step))
  refine codeAny_mono (code_set_led1 (.ref l) (E := E) (Q₁ := fun ob s₁ => ob = .ref s.heap.objs.size ∧ s₁ = { s with heap := s.heap.push (freshO w) }) ⟨rfl, rfl⟩) fun r s₁ hr => ?_
  cases r with
  | error e => exact hr
  | ok fl =>
    cases fl <;> try exact hr.elim
    obtain ⟨rfl, rfl⟩ := hr
    have g0 : (s.heap.push (freshO w)).get? s.heap.objs.size = some (freshO w) := Heap.get?_push_size _ rfl
    have ty : Shared.TypeIs { s with heap := s.heap.push (freshO w) } (.ref s.heap.objs.size) "set" := ⟨_, g0, rfl⟩
    have i1 := F.called_set.init.lookup; have i2 := F.called_set.init.bind (.ref s.heap.objs.size)
    repeat (any_goals (first | assumption | wp_step))
    refine codeAny_mono (codeAny_call_builtin (R := wants (fun r s₂ => r = .none ∧ ∃ h' tk c, s₂ = { s with heap := h', toks := tk } ∧ SetR w h' s.heap.objs.size (fun j => decide (j ∈ ns)) c ∧ c ≤ ns.length ∧ (∀ b o, s.heap.get? b = some o → h'.get? b = some o)) E) F.called_set.init.plain F.entry_set_init (check_set_init_1 ty ?_)) fun r₂ s₂ hr₂ => ?_
    · obtain ⟨⟨oc, od, odt, osl⟩, ol1, hcl, nl, hdl⟩ := isl
      simp only at hcl hdl
      subst hcl hdl
      have ol2 : (s.heap.push (freshO w)).get? l = some { cls := .type "list", dict := od, data := .seq items nl, slots := osl } := Heap.get?_push_of_some _ ol1
      have b1 := F.sub_list_set; have b2 := F.sub_list_frozenset
      have b3 : (Value.type "list" == Value.type "dict") = false := by decide
      have il : (s.heap.push (freshO w)).IsList l items := ⟨_, ol2, rfl, nl, rfl⟩
      unfold Builtin.«set.__init__» noKeywords Builtin.Frozenset.updateFrom
      generalize ePI : pyIter = PI
      wp_walk
      subst ePI
      refine wpAny_pyIter_list il (wpAny_bind (wpAny_runValue ?_))
      have lt1 : l < s.heap.objs.size := Heap.lt_size ol1
      have nh3 : A.in1.in1.in1.handled = none := by simp [nh]
      have sz1 : (s.heap.push (freshO w)).objs.size = s.heap.objs.size + 1 := Heap.size_push ..
      have ne1 : l ≠ (s.heap.push (freshO w)).objs.size := by rw [sz1]; exact Nat.ne_of_lt (Nat.lt_succ_of_lt lt1)
      have ap : s.heap.objs.size ∉ [(s.heap.push (freshO w)).objs.size, l] := by
        rw [sz1]
        intro z
        rcases List.mem_cons.mp z with z | z
        · exact Nat.ne_of_lt (Nat.lt_succ_self _) z
        · exact Nat.ne_of_gt lt1 (List.mem_singleton.mp z)
      have vals : ∀ (i : Nat) (v : Value), items[i]? = some v → ∃ k t, ns[i]? = some k ∧ v = .int k t := fun i v hv => by
        have hi : i < ns.length := by rw [← isz]; exact (Array.getElem?_eq_some_iff.mp hv).1
        obtain ⟨t, e⟩ := IntsAre.int_at ia i v (by rw [Array.getElem?_toList]; exact hv)
        exact ⟨ns[i], t, List.getElem?_eq_getElem hi, by rw [e, List.getD_eq_getElem?_getD, List.getElem?_eq_getElem hi] <;> rfl⟩
      refine set_update_ints ((Walks.list nh3 _ l ne1 items).toS) s.heap.objs.size ap ns isz few vals (items.size - 0) 0 _ (by omega) (Nat.zero_le _) ⟨⟨_, Heap.get?_push_size _ rfl, rfl, rfl⟩, (il.push _)⟩ ⟨0, Nat.le_refl 0, setR_new_at (Heap.get?_push_of_some _ g0)⟩ ?_
      intro s' c' mv le R
      obtain ⟨h', g2, d', tk', os'⟩ := s'
      have eg : g2 = s.gens := mv.gens
      have ed : d' = s.drawn := mv.drawn
      have eo : os' = s.os := mv.os
      subst eg ed eo
      rw [isz] at le
      show wpAny _ _ _ _ _ _
      refine wpAny_pure (show wpAny _ _ (ret Value.none) _ _ _ from wpAny_pure ⟨rfl, h', tk', c', rfl, R, le, fun b o e => ?_⟩)
      have lb : b < s.heap.objs.size := Heap.lt_size e
      refine mv.heap b o (fun z => ?_) (Heap.get?_push_of_some _ (Heap.get?_push_of_some _ e))
      rcases List.mem_cons.mp z with z | z
      · exact Nat.ne_of_lt lb z
      · exact Nat.ne_of_lt (Nat.lt_succ_of_lt lb) ((List.mem_singleton.mp z).trans sz1)
    · cases r₂ with
      | error e => exact hr₂
      | ok fl₂ =>
        cases fl₂ <;> try exact hr₂.elim
        obtain ⟨rfl, h', tk, c', rfl, R, le, kp⟩ := hr₂
        repeat (any_goals (first | assumption | wp_step))
        exact fin _ _ _ R le kp
end
/-! what the sorted list holds -/
theorem insI_mem (k x : Int) : ∀ ns : List Int, x ∈ insI k ns ↔ x = k ∨ x ∈ ns
  | [] => by simp [insI]
  | n :: ns => by
    unfold insI
    split
    · simp
    · split
      · rename_i e
        subst e
        simp
      · rw [List.mem_cons, insI_mem k x ns, List.mem_cons]
        constructor
        · rintro (a | a | a)
          · exact .inr (.inl a)
          · exact .inl a
          · exact .inr (.inr a)
        · rintro (a | a | a)
          · exact .inr (.inl a)
          · exact .inl a
          · exact .inr (.inr a)
theorem insI_asc (k : Int) : ∀ {ns : List Int}, ns.Pairwise (· < ·) → (insI k ns).Pairwise (· < ·)
  | [], _ => by simp [insI]
  | n :: ns, h => by
    rw [List.pairwise_cons] at h
    unfold insI
    split
    · rename_i c
      rw [List.pairwise_cons, List.pairwise_cons]
      refine ⟨fun y hy => ?_, h⟩
      rcases List.mem_cons.mp hy with rfl | hy
      · exact c
      · have := h.1 y hy
        omega
    · split
      · rw [List.pairwise_cons]
        exact h
      · rename_i c1 c2
        rw [List.pairwise_cons]
        refine ⟨fun y hy => ?_, insI_asc k h.2⟩
        rcases (insI_mem k y ns).mp hy with rfl | hy
        · omega
        · exact h.1 y hy
theorem sstI_mem (x : Int) : ∀ ns : List Int, x ∈ sstI ns ↔ x ∈ ns
  | [] => Iff.rfl
  | n :: ns => by
    show x ∈ insI n (sstI ns) ↔ _
    rw [insI_mem, sstI_mem x ns, List.mem_cons]
theorem sstI_asc : ∀ ns : List Int, (sstI ns).Pairwise (· < ·)
  | [] => .nil
  | n :: ns => insI_asc n (sstI_asc ns)
theorem asc_eq : ∀ {a b : List Int}, a.Pairwise (· < ·) → b.Pairwise (· < ·) → (∀ x, x ∈ a ↔ x ∈ b) → a = b
  | [], [], _, _, _ => rfl
  | [], y :: b, _, _, h => by have := (h y).mpr List.mem_cons_self; cases this
  | x :: a, [], _, _, h => by have := (h x).mp List.mem_cons_self; cases this
  | x :: a, y :: b, ha, hb, h => by
    rw [List.pairwise_cons] at ha hb
    have e : x = y := by
      rcases List.mem_cons.mp ((h x).mp List.mem_cons_self) with e | e
      · exact e
      · rcases List.mem_cons.mp ((h y).mpr List.mem_cons_self) with e2 | e2
        · exact e2.symm
        · have := ha.1 y e2
          have := hb.1 x e
          omega
    subst e
    rw [asc_eq ha.2 hb.2 fun z => ?_]
    constructor
    · intro hz
      rcases List.mem_cons.mp ((h z).mp (List.mem_cons_of_mem _ hz)) with e | e
      · have := ha.1 z hz
        omega
      · exact e
    · intro hz
      rcases List.mem_cons.mp ((h z).mpr (List.mem_cons_of_mem _ hz)) with e | e
      · have := hb.1 z hz
        omega
      · exact e
theorem rps_ints {Z : Zt} {G : Hp} {as : List Addr} : ∀ ns : List Int, Rps Z G as (ns.map D.int) (ns.map V.int)
  | [] => .nil
  | n :: ns => .cons (by unfold Rp; rfl) (rps_ints ns)
theorem ints_rps {Z : Zt} {G : Hp} {as : List Addr} : ∀ {xs : List D} {ns : List Int} {vs : List V}, intsOf xs = some ns → Rps Z G as xs vs → vs = ns.map V.int
  | [], ns, vs, e, r => by cases e; exact r.nil_inv
  | x :: xs, ns, vs, e, r => by
    cases x with
    | int i =>
      obtain ⟨ms, e1, rfl⟩ := Option.map_eq_some_iff.mp (show (intsOf xs).map (i :: ·) = some ns from e)
      obtain ⟨v, t, rfl, h1, h2⟩ := r.cons_inv
      unfold Rp at h1
      subst h1
      rw [ints_rps e1 h2]
      rfl
    | _ => cases e
section
variable {Z : Ze} {C : CF} {k : Nat}
theorem case_sst {a : IE} (ha : SE Z C k a) : SF Z C k (.sst a) := by
  intro N X sc W c e h
  unfold chkF at h
  split at h
  · rename_i x p y p2 o q2 pos
    simp only [Bool.and_eq_true, decide_eq_true_eq] at h
    obtain ⟨⟨⟨rfl, h2⟩, rfl, h3⟩, h4⟩ := h
    obtain ⟨g1, g2, g3⟩ := c.gl h2
    obtain ⟨g4, g5, g6⟩ := c.gl h3
    have cs : CallR X (.type "set") (fun vs H Q => ∃ (l : Addr) (ns : List Int), vs = [.ref l] ∧ SqL X.K H l (ns.map V.int) ∧ ns.length < 60 ∧ ∀ p n, H p = none → n ≤ ns.length → Q (.ref p) (upd H p (SetO X.w p (fun j => decide (j ∈ ns)) n))) := by
      intro pins sh σ H vs us Q I r h
      obtain ⟨l, ns, rfl, hq, few, q⟩ := h
      rw [Vals.ref1 r]
      obtain ⟨its, rv, pl, hz⟩ := I.list hq
      refine set_of_list ns (I.ok.hd c.calm) pl.isList (by simpa using RZ.intsAre_vals rv) (by unfold scanBound; omega) fun h' tk n R le kp => ?_
      have new : H sh.heap.objs.size = none := I.hok.fresh (Nat.le_refl _)
      exact ⟨.ref _, upd H sh.heap.objs.size (SetO X.w sh.heap.objs.size (fun j => decide (j ∈ ns)) n), I.laid (t' := tk) (fun b u e => kp b u e) (Nat.le_refl _) (setO_new R), rfl, q _ _ new le⟩
    refine PE.of (pe_callB (cr_sortedSet c.calm) g1 (c.txt.blt _ (by decide +kernel)) (by decide +kernel) (pa_cons (pe_callTy cs g4 (c.txt.blt _ (by decide +kernel)) (show bootBuiltins (Str.ofString "set") = _ by decide +kernel) (pa_cons (ha c o h4).1 pa_nil (star_one (noStar h4))) g6 g5 (star_one (noStar h4)) rfl) pa_nil rfl) g3 g2 rfl rfl) fun σ H Q q => ?_
    obtain ⟨cf, s, m, S1, q⟩ := q
    simp only [evF] at q
    refine ⟨cf, s, m, S1, q.bind fun x m1 c1 vx H1 l S2 rx q2 => ?_⟩
    split at q2
    · rename_i ns en
      split at q2
      · rename_i few
        obtain ⟨ys, ey, ei⟩ := Option.bind_eq_some_iff.mp en
        obtain ⟨l1, vs, rfl, h1, h2⟩ := S2.lstOf rx ey
        have := ints_rps ei h2
        subst this
        refine ⟨l1, ns, rfl, by rw [c.eK]; exact h1, few, fun p n hp le => ?_⟩
        refine ⟨p, _, n, rfl, upd_same, by omega, fun ms p2 asc mem len hp2 => ?_⟩
        have e : ms = sstI ns := asc_eq asc (sstI_asc ns) (fun x => by rw [mem, sstI_mem]; simp)
        subst e
        exact out_fre (S2.new (o := SetO X.w p (fun j => decide (j ∈ ns)) n) hp) (rps_ints _) q2 p2 hp2
      · exact q2.elim
    · exact q2.elim
  · cases h
end
end Pm
end
end
section
set_option Elab.async false
set_option linter.all false
set_option maxRecDepth 100000
set_option maxHeartbeats 4000000
/-! Pm36: sorted(list of tuples, key=f), f: return (len(p), p). -/
noncomputable section
namespace Pm
open PySem PySem.Spec PyProof.Rows L2
section
variable {X : Cx} {pins : List (Addr × Obj)} {σ : L2.St} {H : Hp} {s : Shared}
/-- a local name's value, the state as it is -/
theorem nm_at {A : Around} {M : Model} {E : Value → Shared → Prop} {i : Nat} {x : Str} {v : V} {pos : Pos} {Q : Value → Shared → Prop} (I : Inv X pins σ H s) (hN : X.N[i]? = some x) (hv : Vis X.env.scope x) (e : σ[i]? = some (some v))
    (hd : (x == ("__debug__" : Str)) = false) (hcd : (x == ("__classdict__" : Str)) = false) (h : ∀ u, RelV v u → Q u s) : wpAny (model X.prog X.w) X.A (eval (.Name x pos) X.env) Q E s := by
  obtain ⟨m, hn, hl⟩ := I.loc
  obtain ⟨u, r, l⟩ := hl i x v hN e hv
  rcases l with ⟨hk, hm⟩ | ⟨hk, c, hc, hcell⟩
  · exact wpAny_Name (wpAny_loadName_local I.ok.kind hk hn hm (h u r)) hd
  · rcases hk with hk | hk
    · exact wpAny_Name (wpAny_loadName_cell I.ok.kind hk hc hcell (h u r)) hd
    · exact wpAny_Name (wpAny_loadName_free I.ok.kind hk hc hcell (h u r) hcd) hd
end
/-- data without lists keep no addresses -/
def keyE (a : Addr) (n : Nat) (s : Shared) (v : Value) (s' : Shared) : Prop := ∃ h' tk t c o, s' = { s with heap := h', toks := tk } ∧ (∀ b o, s.heap.get? b = some o → h'.get? b = some o) ∧ v = .ref c ∧ h'.get? c = some o ∧ o.cls = .type "tuple" ∧ o.data = .seq #[.int n t, .ref a] 0
theorem key_run {P : Program} {w : World} {K : PySem.W.Frag} {mg : Str → Option Value} {base : Heap} {f : Addr} {fd : FuncData} {p : Str} (D : KeyD K f fd [p]) (hb : ∀ (s : Shared) (u : Value), K.In s.heap → BindsTo s fd ⟨[u], []⟩ [(p, u)])
    {A : Around} {outer : List Env} {s : Shared} (hr : Room 1 A) (e0 : Env0 P w K mg base A outer s fun _ => none) (mL : mg "len" = none) {a : Addr} {its : Array Value} (ht : PyProof.Rows.IsTup s.heap a its) (hz : its.size ≤ sizeLine) :
    wpAny (model P w) A (call (.ref f) [.ref a]) (keyE a its.size s) (fun _ _ => False) s := by
  obtain ⟨x, qual, params, body, scope, N, dvs, kws, F, S, kb⟩ := D
  obtain ⟨oc, od, dV, kV, doc, pm, an, cdv, ct, osl, rfl, lk, hcd, _, _⟩ := F.ex
  unfold keyB at kb
  split at kb
  case h_2 => cases kb
  rename_i p' l p1 q p2 p3 r p4 x1 p5 p6 e1
  cases e1
  simp only [Bool.and_eq_true, decide_eq_true_eq] at kb
  obtain ⟨⟨rfl, hgl⟩, ⟨rfl, rfl⟩, hv, hdb⟩ := kb
  have hdb : (r == ("__debug__" : Str)) = false ∧ (r == ("__classdict__" : Str)) = false := by
    unfold dbgB at hdb
    simpa using hdb
  have KX : K.In s.heap := e0.mod.kin.keeps fun b o e => (e0.bs b o e).1
  have lim : s.heap.NoLimit := e0.mod.nolimit.keeps fun b o e => (e0.bs b o e).1
  have hkind : ∀ y ∈ [r].zip [Value.ref a], scope.names.lookup y.1 = some .local ∨ (scope.names.lookup y.1 = some .cell ∧ ((cellsFrom (s.heap.objs.size + 1) scope.names []).lookup y.1).isSome = true) := fun ⟨n, v⟩ hy => by
    rcases S.par n (List.of_mem_zip hy).1 with q | q
    · exact .inl q
    · exact .inr ⟨q, PySem.W.cellsFrom_some _ _ _ (.inl q)⟩
  refine wpAny_call (codeAny_call_function hr.depth (KX _ _ lk) rfl S.co S.gen rfl (PySem.W.codeRec_of KX hcd) (hb _ _ KX _ _ _ _ ?_))
  refine wpAny_newFunctionEnv_cells S.kind hkind fun env he s1 x => ?_
  subst he
  refine ⟨lim.keeps x.toInCall.keep, codeAny_func ?_⟩
  have I : Inv (cxOf (L2.CX P w) P w K mg base N qual scope f cdv A outer s (fun _ => none) fun _ _ _ => False) [] (L2.start N [.ref a]) (fun _ => none) s1 := inv_start S hr.hd e0 rfl (.cons rfl .nil) x
  obtain ⟨h1, tk1, rfl, hk1⟩ := x.done
  have hN : N[0]? = some r := by
    have e := S.pre
    cases N with
    | nil => cases e
    | cons n N => simp at e; rw [e]; rfl
  have hs : (L2.start N [.ref a])[0]? = some (some (V.ref a)) := rfl
  have gl : Gl (cxOf (L2.CX P w) P w K mg base N qual scope f cdv A outer s (fun _ => none) fun _ _ _ => False) "len" := by
    unfold glB at hgl
    simp only [Bool.and_eq_true, decide_eq_true_eq] at hgl
    exact hgl.1
  have hn := line63
  refine wpAny_execs_cons (wpAny_Return_some (wpAny_Tuple_spliced ?_))
  refine Calls.spliced_cons (wpAny_Call_Name_kw (ld_blt (u := .builtin "len") I gl mL rfl (PyProof.Rows.callWith_builtin1 (Calls.spliced_cons (nm_at (M := model P w) (A := A) I hN (vis_of hv) hs hdb.1 hdb.2 fun u ru => Calls.spliced_nil ?_)) rfl rfl)))
  cases ru
  refine len_tuple (ht.keeps hk1) (by omega) ?_
  refine Calls.spliced_cons (nm_at (M := model P w) (A := A) (I.tok _) hN (vis_of hv) hs hdb.1 hdb.2 fun u ru => Calls.spliced_nil ⟨by show 2 ≤ sizeLine; rw [sizeLine_eq]; decide, ?_⟩)
  cases ru
  exact ⟨_, _, _, _, _, rfl, fun b o e => Heap.get?_push_of_some _ (hk1 b o e), rfl, Heap.get?_push_size _ rfl, rfl, rfl⟩
/-! data without lists keep no addresses -/
mutual
theorem reads_nil {h : Heap} : ∀ (d : D) {v : Value} {as : List Addr}, noL d = true → Reads h v (pd d) as → as = []
  | .int _, _, _, _, r => by cases r; rfl
  | .str _, _, _, _, r => by cases r; rfl
  | .tup xs, _, _, n, r => by
    have r : Reads _ _ (.tuple (pds xs)) _ := r
    cases r with
    | tuple _ _ _ q => exact reads_nils xs (by simpa [noL] using n) q
  | .non, _, _, n, _ => by simp [noL] at n
  | .bl _, _, _, n, _ => by simp [noL] at n
  | .lst _, _, _, n, _ => by simp [noL] at n
  | .scr _, _, _, n, _ => by simp [noL] at n
  | .obj _ _, _, _, n, _ => by simp [noL] at n
  | .ref _, _, _, n, _ => by simp [noL] at n
  | .bor _, _, _, n, _ => by simp [noL] at n
theorem reads_nils {h : Heap} : ∀ (ds : List D) {vs : List Value} {as : List Addr}, noLs ds = true → ReadsAll h vs (pds ds) as → as = []
  | [], _, _, _, r => by cases r; rfl
  | d :: ds, _, _, n, r => by
    have r : ReadsAll _ _ (pd d :: pds ds) _ := r
    simp only [noLs, Bool.and_eq_true] at n
    cases r with
    | cons r1 r2 => rw [reads_nil d n.1 r1, reads_nils ds n.2 r2]; rfl
end
theorem reads_len {h : Heap} : ∀ {ds : List D} {vs : List Value} {as : List Addr}, ReadsAll h vs (pds ds) as → vs.length = ds.length
  | [], _, _, r => by cases r; rfl
  | d :: ds, _, _, r => by
    have r : ReadsAll _ _ (pd d :: pds ds) _ := r
    cases r with
    | cons r1 r2 => exact congrArg (· + 1) (reads_len r2)
section
variable {Z : Ze} {C : CF} {k : Nat}
theorem case_slf {f : Nat} {a : IE} (ha : SE Z C k a) : SF Z C k (.slf f a) := by
  intro N X sc W c e h
  unfold chkF at h
  split at h
  · rename_i x p o kn y p2 p3 pos
    simp only [Bool.and_eq_true, decide_eq_true_eq] at h
    obtain ⟨⟨rfl, h2⟩, ⟨rfl, ⟨⟨hg, hy⟩, hp⟩, rfl, h4⟩, h3⟩ := h
    obtain ⟨g1, g2, g3⟩ := c.gl h2
    obtain ⟨g4, g5, g6⟩ := c.gl h4
    obtain ⟨m1, m2⟩ := c.txt.gfn f hg
    obtain ⟨fd, q0, KD, hb⟩ := (c.fns f 1 [] [] hp).key hy rfl rfl
    have mL : X.mg "len" = none := c.txt.blt _ (by decide +kernel)
    have cr : CallRK X (.builtin "sorted") [Str.ofString "key"] (fun vs zs H Q => zs = [.ref (Z.fad f)] ∧ ∃ cf s m τ x v xs, vs = [v] ∧ Sim Z.toZt cf s m τ H ∧ Rep Z.toZt cf s x v ∧ lstOf m x = some xs ∧ slfOk xs = true ∧ ∀ p us, H p = none → Rps Z.toZt cf.G cf.as (slfD xs) us → Q (.ref p) (upd H p (.lst us))) := by
      intro pins sh σ H vs zs us ws Q I r rz h
      obtain ⟨rfl, cf, s, m, τ, x, v, xs, rfl, S1, rx, ex, ok, q⟩ := h
      obtain ⟨a1, vs, rfl, h1, h2⟩ := S1.lstOf rx ex
      obtain ⟨u, rfl, ru⟩ := vals1 r
      cases ru
      obtain ⟨w1, rfl, e1⟩ := vals1 rz
      cases e1
      obtain ⟨its, rv, hl, hz⟩ := I.list (by rw [c.eK]; exact h1)
      unfold slfOk at ok
      simp only [Bool.and_eq_true, decide_eq_true_eq, List.all_eq_true] at ok
      obtain ⟨hlim, hf, hal⟩ := ok
      have hu : X.A.units + 100 < cLine := by have := c.room.un; omega
      have eR := each_of h2 rv
      have zl : xs.length ≤ sizeLine := Nat.le_trans (show xs.length ≤ 100000 from hlim) line_lim
      refine PySem.W.sorted_key_data (b := false) (fun x : D => pd (slfK x)) hl.isList eR (fun d hd d' hd' => ?_) (PySem.W.Sortable.tuples fun x => ⟨_, _, rfl⟩) zl (fun x hx => ?_) (PyProof.Rows.ksk_s1 _ _) (fun _ => PyProof.Rows.ksk_l1 _ _) (fun _ => PyProof.Rows.ksk_t1 _ _) (fun v x hR hx h tk kp => ?_) fun out cc h' tk kp _ hD hlo eo => ?_
      · obtain ⟨x, hx, rfl⟩ := List.mem_map.mp hd
        obtain ⟨y, hy, rfl⟩ := List.mem_map.mp hd'
        exact hal x hx y hy
      · rw [pd_dep]
        have := (hf x hx).2
        unfold flp at this
        simp only [Bool.and_eq_true, decide_eq_true_eq] at this
        omega
      · obtain ⟨h5, h6⟩ := hf x hx
        obtain ⟨w, q1, q2⟩ := hR
        cases x with
        | tup ys =>
          unfold isTupD at h5
          simp only [Bool.and_eq_true, decide_eq_true_eq] at h5
          have hfl : flt (.tup ys) = true := by
            have := flp_flt h6
            unfold slfK flt flts flts at this
            simp only [Bool.and_eq_true] at this
            exact this.2.1
          obtain ⟨as, rd⟩ := Dp.reads I (pd (.tup ys)) w v (by rw [c.eK]; exact dp_of S1.exG hfl q2) q1
          have e0 := reads_nil _ (by unfold noL; exact h5.2) rd
          subst e0
          have rd' : Reads sh.heap v (.tuple (pds ys)) [] := rd
          generalize ez : ([] : List Addr) = zs at rd'
          cases rd' with
          | @tuple a0 ob xs0 n0 _ _ k1 k2 k3 k4 =>
            subst ez
            have ln := reads_len k4
            rw [Array.length_toList] at ln
            have ek : Env0 X.prog X.w X.K X.mg X.base X.A.in1.in1 X.stack { sh with heap := h, toks := tk } fun _ => none := by
              have e := I.env0
              obtain ⟨mm, ⟨o', es, ep, ho', _⟩, _⟩ := I.loc
              exact ⟨e.frames, e.mod, fun b o z => ⟨kp b o (e.bs b o z).1, rfl⟩, Nat.le_trans (Nat.le_trans I.ok.bsz I.ok.above) (Nat.le_of_lt (Heap.lt_size (kp _ _ ho'))), e.funs.of_keeps fun b o z _ => ⟨o, kp b o z, rfl⟩, fun b _ => rfl, fun b u z => (by cases z), e.bare⟩
            have rr : Room 1 X.A.in1.in1 := (Room.in1 (Room.in1 (c.room.mono (show 3 ≤ k + 7 by omega))))
            refine wpAny_mono (key_run (K := X.K) (by rw [c.eK]; exact KD) (fun s u z => hb s u (by rw [← c.eK]; exact z)) rr ek mL (a := a0) (its := xs0) ⟨ob, kp _ _ k1, k2, n0, k3⟩ (by rw [ln]; have := line_lim; have := h5.1; unfold lim at this; omega)) (fun v' s' hk => ?_) fun _ _ z => z
            obtain ⟨h', tk', t, cc, oo, rfl, kk, rfl, b1, b2, b3⟩ := hk
            refine ⟨h', tk', rfl, kk, ?_⟩
            show Reads h' (.ref cc) (.tuple [.int (ys.length : Int), pd (.tup ys)]) []
            rw [← ln]
            exact Reads.tuple b1 b2 b3 (ReadsAll.cons (as := []) (bs := []) (.int _ _) (.cons (as := []) (bs := []) (PyProof.Rows.Reads.keeps kk (PyProof.Rows.Reads.keeps kp rd)) .nil))
        | _ => cases h5
      · obtain ⟨ws, q1, q2⟩ := each_back eo
        exact ⟨.ref _, upd H (sh.heap.objs.size + 1) (.lst ws), I.laid (t' := tk) kp (Nat.le_succ _) ⟨by rw [q1.length, hlo]; exact zl, out, cc, q1, hD⟩, rfl, q _ ws (I.hok.fresh (Nat.le_succ _)) q2⟩
    refine PE.of (pe_callBK cr g1 (c.txt.blt _ (by decide +kernel)) (by decide +kernel) (pa_cons (ha c o h3).1 pa_nil (star_one (noStar h3))) (pk_cons (pe_glob g4 m1 (v := .ref (Z.fad f)) rfl g5) pk_nil) g3 g2 (by rw [star_one (noStar h3)]; rfl) (by rw [star_one (noStar h3)]; rfl)) fun σ H Q q => ?_
    obtain ⟨cf, s, m, S1, q⟩ := q
    simp only [evF] at q
    refine ⟨cf, s, m, S1, q.bind fun x m1 c1 vx H1 l S2 rx q2 => ?_⟩
    split at q2
    · rename_i xs ex
      split at q2
      · rename_i ok
        exact ⟨rfl, c1, s, m1, σ, x, vx, xs, rfl, S2, rx, ex, ok, fun p us hp hr => out_fre S2 hr q2 p hp⟩
      · exact q2.elim
    · exact q2.elim
  · cases h
theorem srt_all (Z : Ze) (C : CF) (k : Nat) : SrtAll Z C k := ⟨srt_one Z C k, fun _ ha => case_sst ha, fun _ _ ha => case_slf ha⟩
end
end Pm
end
end
section
set_option Elab.async false
set_option linter.all false
set_option maxRecDepth 100000
set_option maxHeartbeats 0
set_option exponentiation.threshold 5000
namespace Lw
open PySem PySem.Spec PyProof.Rows L2
def top (i : Nat) : Stmt := PySem.Challenge.pw_nogroupleaves_k26_best_splits.main.body.getD i (.Pass ⟨0, 0, 0, 0⟩)
abbrev f_num : Nat := 0
abbrev f_den : Nat := 1
abbrev f_count : Nat := 2
abbrev f_rows : Nat := 3
abbrev f_earning : Nat := 4
abbrev f_less : Nat := 5
abbrev f_over : Nat := 6
abbrev f_whole : Nat := 7
abbrev f_inner : Nat := 8
abbrev k_Ratio : Nat := 0
abbrev k_Table : Nat := 1
abbrev i_wall : Nat := 0
abbrev i_common : Nat := 1
abbrev i_Ratio_init : Nat := 2
abbrev i_Ratio_eq : Nat := 3
abbrev i_Ratio_add : Nat := 4
abbrev i_Ratio_sub : Nat := 5
abbrev i_Ratio_mul : Nat := 6
abbrev i_Ratio_str : Nat := 7
abbrev i_Ratio_less : Nat := 8
abbrev i_Ratio_over : Nat := 9
abbrev i_added : Nat := 10
abbrev i_is_group : Nat := 11
abbrev i_Table_init : Nat := 12
abbrev i_Table_eq : Nat := 13
abbrev i_Table_earning : Nat := 14
abbrev i_Table_whole : Nat := 15
abbrev i_Table_inner : Nat := 16
abbrev i_splits : Nat := 17
abbrev i_best_split : Nat := 18
abbrev i_len_first : Nat := 19
abbrev i_l_pool : Nat := 20
abbrev i_l_draw : Nat := 21
abbrev i_l_same : Nat := 22
abbrev i_l_less : Nat := 23
abbrev i_l_plus : Nat := 24
abbrev i_l_minus : Nat := 25
abbrev i_l_below : Nat := 26
abbrev i_l_sum : Nat := 27
abbrev i_l_groups : Nat := 28
abbrev i_l_joined : Nat := 29
abbrev i_l_forest : Nat := 30
abbrev i_l_family : Nat := 31
abbrev i_l_amount : Nat := 32
abbrev i_l_table_of : Nat := 33
abbrev i_l_table : Nat := 34
abbrev i_l_made : Nat := 35
abbrev i_l_splits : Nat := 36
abbrev i_law : Nat := 37
abbrev s_wall : Stmt := top 0
def d_wall : He.DefD := ⟨(("_wall" : PySem.Str), none), ("_wall" : PySem.Str), ("_wall" : PySem.Str), defArgs s_wall, defBody s_wall, defScope s_wall, [], []⟩
def n_wall : List Str := [("k" : PySem.Str)]
def t_wall_1 : Pm.IE := (.con (.bl true))
def w_wall_1 : Pm.ISs := (.cons .pas .nil)
def b_wall : Pm.ISs := (.cons (.whl t_wall_1 w_wall_1) .nil)
def r_wall : Pm.Row := ⟨d_wall, n_wall, [("k" : PySem.Str)], ⟨1, 1, false, b_wall⟩⟩
abbrev s_common : Stmt := top 6
def d_common : He.DefD := ⟨(("common" : PySem.Str), none), ("common" : PySem.Str), ("common" : PySem.Str), defArgs s_common, defBody s_common, defScope s_common, [], []⟩
def n_common : List Str := [("one" : PySem.Str), ("other" : PySem.Str)]
def t_common_1 : Pm.IE := (.var 1)
def w_common_1 : Pm.ISs := (.cons (.par 0 1 (.var 1) (.bop .mod (.var 0) (.var 1))) .nil)
def b_common : Pm.ISs := (.cons (.whl t_common_1 w_common_1) (.cons (.ret (.var 0)) .nil))
def r_common : Pm.Row := ⟨d_common, n_common, [("one" : PySem.Str), ("other" : PySem.Str)], ⟨2, 2, false, b_common⟩⟩
abbrev s_Ratio_init : Stmt := inClass (top 7) 0
def d_Ratio_init : He.DefD := ⟨(("Ratio" : PySem.Str), some ("__init__" : PySem.Str)), ("__init__" : PySem.Str), ("Ratio.__init__" : PySem.Str), defArgs s_Ratio_init, defBody s_Ratio_init, defScope s_Ratio_init, [.int (1)], []⟩
def n_Ratio_init : List Str := [("self" : PySem.Str), ("num" : PySem.Str), ("den" : PySem.Str), ("shared" : PySem.Str)]
def b_Ratio_init : Pm.ISs := (.cons (.ite (.cmp .le (.var 2) (.con (.int (0)))) (.cons .nev .nil) .nil) (.cons (.asg 3 (.call i_common (.cons (.bif .abs (.cons (.var 1) .nil)) (.cons (.var 2) .nil)) .nil [])) (.cons (.sta (.var 0) f_num (.bop .fdv (.var 1) (.var 3))) (.cons (.sta (.var 0) f_den (.bop .fdv (.var 2) (.var 3))) .nil))))
def r_Ratio_init : Pm.Row := ⟨d_Ratio_init, n_Ratio_init, [("self" : PySem.Str), ("num" : PySem.Str), ("den" : PySem.Str)], ⟨3, 4, false, b_Ratio_init⟩⟩
abbrev s_Ratio_eq : Stmt := inClass (top 7) 1
def d_Ratio_eq : He.DefD := ⟨(("Ratio" : PySem.Str), some ("__eq__" : PySem.Str)), ("__eq__" : PySem.Str), ("Ratio.__eq__" : PySem.Str), defArgs s_Ratio_eq, defBody s_Ratio_eq, defScope s_Ratio_eq, [], []⟩
def n_Ratio_eq : List Str := [("self" : PySem.Str), ("other" : PySem.Str)]
def b_Ratio_eq : Pm.ISs := (.cons (.ret (.bol true (.cons (.isi (.var 1) [(.cls k_Ratio)]) (.cons (.cmp .eq (.tup (.cons (.att (.var 0) f_num) (.cons (.att (.var 0) f_den) .nil))) (.tup (.cons (.att (.var 1) f_num) (.cons (.att (.var 1) f_den) .nil)))) .nil)))) .nil)
def r_Ratio_eq : Pm.Row := ⟨d_Ratio_eq, n_Ratio_eq, [("self" : PySem.Str), ("other" : PySem.Str)], ⟨2, 2, false, b_Ratio_eq⟩⟩
abbrev s_Ratio_add : Stmt := inClass (top 7) 2
def d_Ratio_add : He.DefD := ⟨(("Ratio" : PySem.Str), some ("__add__" : PySem.Str)), ("__add__" : PySem.Str), ("Ratio.__add__" : PySem.Str), defArgs s_Ratio_add, defBody s_Ratio_add, defScope s_Ratio_add, [], []⟩
def n_Ratio_add : List Str := [("self" : PySem.Str), ("other" : PySem.Str)]
def b_Ratio_add : Pm.ISs := (.cons (.ret (.new k_Ratio (.cons (.bop .add (.bop .mul (.att (.var 0) f_num) (.att (.var 1) f_den)) (.bop .mul (.att (.var 1) f_num) (.att (.var 0) f_den))) (.cons (.bop .mul (.att (.var 0) f_den) (.att (.var 1) f_den)) .nil)) .nil [])) .nil)
def r_Ratio_add : Pm.Row := ⟨d_Ratio_add, n_Ratio_add, [("self" : PySem.Str), ("other" : PySem.Str)], ⟨2, 2, false, b_Ratio_add⟩⟩
abbrev s_Ratio_sub : Stmt := inClass (top 7) 3
def d_Ratio_sub : He.DefD := ⟨(("Ratio" : PySem.Str), some ("__sub__" : PySem.Str)), ("__sub__" : PySem.Str), ("Ratio.__sub__" : PySem.Str), defArgs s_Ratio_sub, defBody s_Ratio_sub, defScope s_Ratio_sub, [], []⟩
def n_Ratio_sub : List Str := [("self" : PySem.Str), ("other" : PySem.Str)]
def b_Ratio_sub : Pm.ISs := (.cons (.ret (.new k_Ratio (.cons (.bop .sub (.bop .mul (.att (.var 0) f_num) (.att (.var 1) f_den)) (.bop .mul (.att (.var 1) f_num) (.att (.var 0) f_den))) (.cons (.bop .mul (.att (.var 0) f_den) (.att (.var 1) f_den)) .nil)) .nil [])) .nil)
def r_Ratio_sub : Pm.Row := ⟨d_Ratio_sub, n_Ratio_sub, [("self" : PySem.Str), ("other" : PySem.Str)], ⟨2, 2, false, b_Ratio_sub⟩⟩
abbrev s_Ratio_mul : Stmt := inClass (top 7) 4
def d_Ratio_mul : He.DefD := ⟨(("Ratio" : PySem.Str), some ("__mul__" : PySem.Str)), ("__mul__" : PySem.Str), ("Ratio.__mul__" : PySem.Str), defArgs s_Ratio_mul, defBody s_Ratio_mul, defScope s_Ratio_mul, [], []⟩
def n_Ratio_mul : List Str := [("self" : PySem.Str), ("other" : PySem.Str)]
def b_Ratio_mul : Pm.ISs := (.cons (.ret (.new k_Ratio (.cons (.bop .mul (.att (.var 0) f_num) (.att (.var 1) f_num)) (.cons (.bop .mul (.att (.var 0) f_den) (.att (.var 1) f_den)) .nil)) .nil [])) .nil)
def r_Ratio_mul : Pm.Row := ⟨d_Ratio_mul, n_Ratio_mul, [("self" : PySem.Str), ("other" : PySem.Str)], ⟨2, 2, false, b_Ratio_mul⟩⟩
abbrev s_Ratio_str : Stmt := inClass (top 7) 5
def d_Ratio_str : He.DefD := ⟨(("Ratio" : PySem.Str), some ("__str__" : PySem.Str)), ("__str__" : PySem.Str), ("Ratio.__str__" : PySem.Str), defArgs s_Ratio_str, defBody s_Ratio_str, defScope s_Ratio_str, [], []⟩
def n_Ratio_str : List Str := [("self" : PySem.Str)]
def b_Ratio_str : Pm.ISs := (.cons (.ite (.cmp .eq (.att (.var 0) f_den) (.con (.int (1)))) (.cons (.ret (.bif .str (.cons (.att (.var 0) f_num) .nil))) .nil) .nil) (.cons (.ret (.fst (.cons (.att (.var 0) f_num) (.cons (.con (.str ("/" : PySem.Str))) (.cons (.att (.var 0) f_den) .nil))))) .nil))
def r_Ratio_str : Pm.Row := ⟨d_Ratio_str, n_Ratio_str, [("self" : PySem.Str)], ⟨1, 1, false, b_Ratio_str⟩⟩
abbrev s_Ratio_less : Stmt := inClass (top 7) 6
def d_Ratio_less : He.DefD := ⟨(("Ratio" : PySem.Str), some ("less" : PySem.Str)), ("less" : PySem.Str), ("Ratio.less" : PySem.Str), defArgs s_Ratio_less, defBody s_Ratio_less, defScope s_Ratio_less, [], []⟩
def n_Ratio_less : List Str := [("self" : PySem.Str), ("other" : PySem.Str)]
def b_Ratio_less : Pm.ISs := (.cons (.ret (.cmp .lt (.bop .mul (.att (.var 0) f_num) (.att (.var 1) f_den)) (.bop .mul (.att (.var 1) f_num) (.att (.var 0) f_den)))) .nil)
def r_Ratio_less : Pm.Row := ⟨d_Ratio_less, n_Ratio_less, [("self" : PySem.Str), ("other" : PySem.Str)], ⟨2, 2, false, b_Ratio_less⟩⟩
abbrev s_Ratio_over : Stmt := inClass (top 7) 7
def d_Ratio_over : He.DefD := ⟨(("Ratio" : PySem.Str), some ("over" : PySem.Str)), ("over" : PySem.Str), ("Ratio.over" : PySem.Str), defArgs s_Ratio_over, defBody s_Ratio_over, defScope s_Ratio_over, [], []⟩
def n_Ratio_over : List Str := [("self" : PySem.Str), ("other" : PySem.Str)]
def b_Ratio_over : Pm.ISs := (.cons (.exp (.call i_wall (.cons (.con (.int (0))) .nil) .nil [])) .nil)
def r_Ratio_over : Pm.Row := ⟨d_Ratio_over, n_Ratio_over, [("self" : PySem.Str), ("other" : PySem.Str)], ⟨2, 2, false, b_Ratio_over⟩⟩
abbrev s_added : Stmt := top 8
def d_added : He.DefD := ⟨(("added" : PySem.Str), none), ("added" : PySem.Str), ("added" : PySem.Str), defArgs s_added, defBody s_added, defScope s_added, [], []⟩
def n_added : List Str := [("ratios" : PySem.Str), ("result" : PySem.Str), ("ratio" : PySem.Str)]
def w_added_1 : Pm.ISs := (.cons (.asg 1 (.bop .add (.var 1) (.var 2))) .nil)
def b_added : Pm.ISs := (.cons (.asg 1 (.new k_Ratio (.cons (.con (.int (0))) .nil) .nil [.int (1)])) (.cons (.for_ (.nam 2) (.exp (.var 0)) w_added_1) (.cons (.ret (.var 1)) .nil)))
def r_added : Pm.Row := ⟨d_added, n_added, [("ratios" : PySem.Str)], ⟨1, 3, false, b_added⟩⟩
abbrev s_is_group : Stmt := top 11
def d_is_group : He.DefD := ⟨(("is_group" : PySem.Str), none), ("is_group" : PySem.Str), ("is_group" : PySem.Str), defArgs s_is_group, defBody s_is_group, defScope s_is_group, [], []⟩
def n_is_group : List Str := [("group" : PySem.Str), ("count" : PySem.Str), ("index" : PySem.Str)]
def c_is_group_1 : Pm.IEs := (.cons (.cmp .isin (.var 2) (.var 0)) .nil)
def e_is_group_1 : Pm.IE := (.var 2)
def b_is_group : Pm.ISs := (.cons (.ret (.bol true (.cons (.cmp .gt (.bif .len (.cons (.var 0) .nil)) (.con (.int (0)))) (.cons (.cmp .eq (.frz (.lis (.var 0))) (.frz (.lc [2] (.nam 2) (.rng (.var 1)) c_is_group_1 e_is_group_1))) .nil)))) .nil)
def r_is_group : Pm.Row := ⟨d_is_group, n_is_group, [("group" : PySem.Str), ("count" : PySem.Str)], ⟨2, 3, false, b_is_group⟩⟩
abbrev s_Table_init : Stmt := inClass (top 12) 0
def d_Table_init : He.DefD := ⟨(("Table" : PySem.Str), some ("__init__" : PySem.Str)), ("__init__" : PySem.Str), ("Table.__init__" : PySem.Str), defArgs s_Table_init, defBody s_Table_init, defScope s_Table_init, [], []⟩
def n_Table_init : List Str := [("self" : PySem.Str), ("count" : PySem.Str), ("rows" : PySem.Str), ("groups" : PySem.Str), ("group" : PySem.Str), ("_" : PySem.Str), ("index" : PySem.Str), ("one" : PySem.Str), ("other" : PySem.Str)]
def c_Table_init_1 : Pm.IEs := .nil
def e_Table_init_1 : Pm.IE := (.var 4)
def c_Table_init_2 : Pm.IEs := .nil
def e_Table_init_2 : Pm.IE := (.call i_is_group (.cons (.var 4) (.cons (.var 1) .nil)) .nil [])
def c_Table_init_3 : Pm.IEs := .nil
def e_Table_init_3 : Pm.IE := (.cmp .lt (.var 7) (.var 8))
def c_Table_init_4 : Pm.IEs := .nil
def e_Table_init_4 : Pm.IE := (.cmp .isin (.tup (.cons (.var 6) .nil)) (.var 3))
def b_Table_init : Pm.ISs := (.cons (.ite (.not_ (.chn .le .le (.con (.int (1))) (.var 1) (.glb 0))) (.cons .nev .nil) .nil) (.cons (.asg 3 (.frz (.lc [4, 5] (.tup [(.nam 4), (.nam 5)]) (.exp (.var 2)) c_Table_init_1 e_Table_init_1))) (.cons (.ite (.not_ (.bif .all (.cons (.frz (.lc [4] (.nam 4) (.exp (.var 3)) c_Table_init_2 e_Table_init_2)) .nil))) (.cons .nev .nil) .nil) (.cons (.ite (.not_ (.bif .all (.cons (.frz (.lc [7, 8] (.tup [(.nam 7), (.nam 8)]) (.zip (.var 3) (.slc (.var 3) (.con (.int (1))) (.con .non))) c_Table_init_3 e_Table_init_3)) .nil))) (.cons .nev .nil) .nil) (.cons (.ite (.not_ (.bif .all (.cons (.frz (.lc [6] (.nam 6) (.rng (.var 1)) c_Table_init_4 e_Table_init_4)) .nil))) (.cons .nev .nil) .nil) (.cons (.ite (.cmp .nin (.tpr (.var 1)) (.var 3)) (.cons .nev .nil) .nil) (.cons (.sta (.var 0) f_count (.var 1)) (.cons (.sta (.var 0) f_rows (.bif .tuple (.cons (.var 2) .nil))) .nil))))))))
def r_Table_init : Pm.Row := ⟨d_Table_init, n_Table_init, [("self" : PySem.Str), ("count" : PySem.Str), ("rows" : PySem.Str)], ⟨3, 9, false, b_Table_init⟩⟩
abbrev s_Table_eq : Stmt := inClass (top 12) 1
def d_Table_eq : He.DefD := ⟨(("Table" : PySem.Str), some ("__eq__" : PySem.Str)), ("__eq__" : PySem.Str), ("Table.__eq__" : PySem.Str), defArgs s_Table_eq, defBody s_Table_eq, defScope s_Table_eq, [], []⟩
def n_Table_eq : List Str := [("self" : PySem.Str), ("other" : PySem.Str)]
def b_Table_eq : Pm.ISs := (.cons (.ret (.bol true (.cons (.isi (.var 1) [(.cls k_Table)]) (.cons (.cmp .eq (.tup (.cons (.att (.var 0) f_count) (.cons (.att (.var 0) f_rows) .nil))) (.tup (.cons (.att (.var 1) f_count) (.cons (.att (.var 1) f_rows) .nil)))) .nil)))) .nil)
def r_Table_eq : Pm.Row := ⟨d_Table_eq, n_Table_eq, [("self" : PySem.Str), ("other" : PySem.Str)], ⟨2, 2, false, b_Table_eq⟩⟩
abbrev s_Table_earning : Stmt := inClass (top 12) 2
def d_Table_earning : He.DefD := ⟨(("Table" : PySem.Str), some ("earning" : PySem.Str)), ("earning" : PySem.Str), ("Table.earning" : PySem.Str), defArgs s_Table_earning, defBody s_Table_earning, defScope s_Table_earning, [], []⟩
def n_Table_earning : List Str := [("self" : PySem.Str), ("group" : PySem.Str), ("other" : PySem.Str), ("earning" : PySem.Str)]
def w_Table_earning_1 : Pm.ISs := (.cons (.ite (.cmp .eq (.var 2) (.var 1)) (.cons (.ret (.var 3)) .nil) .nil) .nil)
def b_Table_earning : Pm.ISs := (.cons (.for_ (.tup [(.nam 2), (.nam 3)]) (.exp (.att (.var 0) f_rows)) w_Table_earning_1) (.cons (.ret (.con (.non))) .nil))
def r_Table_earning : Pm.Row := ⟨d_Table_earning, n_Table_earning, [("self" : PySem.Str), ("group" : PySem.Str)], ⟨2, 4, false, b_Table_earning⟩⟩
abbrev s_Table_whole : Stmt := inClass (top 12) 3
def d_Table_whole : He.DefD := ⟨(("Table" : PySem.Str), some ("whole" : PySem.Str)), ("whole" : PySem.Str), ("Table.whole" : PySem.Str), defArgs s_Table_whole, defBody s_Table_whole, defScope s_Table_whole, [], []⟩
def n_Table_whole : List Str := [("self" : PySem.Str)]
def b_Table_whole : Pm.ISs := (.cons (.ret (.meth (.var 0) f_earning (.cons (.tpr (.att (.var 0) f_count)) .nil))) .nil)
def r_Table_whole : Pm.Row := ⟨d_Table_whole, n_Table_whole, [("self" : PySem.Str)], ⟨1, 1, false, b_Table_whole⟩⟩
abbrev s_Table_inner : Stmt := inClass (top 12) 4
def d_Table_inner : He.DefD := ⟨(("Table" : PySem.Str), some ("inner" : PySem.Str)), ("inner" : PySem.Str), ("Table.inner" : PySem.Str), defArgs s_Table_inner, defBody s_Table_inner, defScope s_Table_inner, [], []⟩
def n_Table_inner : List Str := [("self" : PySem.Str)]
def b_Table_inner : Pm.ISs := (.cons (.exp (.call i_wall (.cons (.con (.int (1))) .nil) .nil [])) .nil)
def r_Table_inner : Pm.Row := ⟨d_Table_inner, n_Table_inner, [("self" : PySem.Str)], ⟨1, 1, false, b_Table_inner⟩⟩
abbrev s_splits : Stmt := top 13
def d_splits : He.DefD := ⟨(("splits" : PySem.Str), none), ("splits" : PySem.Str), ("splits" : PySem.Str), defArgs s_splits, defBody s_splits, defScope s_splits, [], []⟩
def n_splits : List Str := [("table" : PySem.Str), ("left" : PySem.Str), ("found" : PySem.Str), ("group" : PySem.Str), ("_" : PySem.Str), ("rest" : PySem.Str), ("index" : PySem.Str), ("split" : PySem.Str)]
def c_splits_1 : Pm.IEs := .nil
def e_splits_1 : Pm.IE := (.cmp .isin (.var 6) (.var 1))
def c_splits_2 : Pm.IEs := (.cons (.cmp .nin (.var 6) (.var 3)) .nil)
def e_splits_2 : Pm.IE := (.var 6)
def c_splits_3 : Pm.IEs := .nil
def e_splits_3 : Pm.IE := (.bop .add (.tup (.cons (.var 3) .nil)) (.var 7))
def w_splits_4 : Pm.ISs := (.cons (.ite (.bol true (.cons (.cmp .eq (.sub (.var 3) (.con (.int (0)))) (.sub (.var 1) (.con (.int (0))))) (.cons (.bif .all (.cons (.frz (.lc [6] (.nam 6) (.exp (.var 3)) c_splits_1 e_splits_1)) .nil)) .nil))) (.cons (.asg 5 (.frz (.lc [6] (.nam 6) (.exp (.var 1)) c_splits_2 e_splits_2))) (.cons (.exd 2 (.frz (.lc [7] (.nam 7) (.exp (.call i_splits (.cons (.var 0) (.cons (.var 5) .nil)) .nil [])) c_splits_3 e_splits_3))) .nil)) .nil) .nil)
def b_splits : Pm.ISs := (.cons (.ite (.not_ (.var 1)) (.cons (.ret (.frz (.lst (.cons (.tup .nil) .nil)))) .nil) .nil) (.cons (.aso 2 (.lst .nil)) (.cons (.for_ (.tup [(.nam 3), (.nam 4)]) (.exp (.att (.var 0) f_rows)) w_splits_4) (.cons (.rto 2) .nil))))
def r_splits : Pm.Row := ⟨d_splits, n_splits, [("table" : PySem.Str), ("left" : PySem.Str)], ⟨2, 8, false, b_splits⟩⟩
abbrev s_best_split : Stmt := top 14
def d_best_split : He.DefD := ⟨(("best_split" : PySem.Str), none), ("best_split" : PySem.Str), ("best_split" : PySem.Str), defArgs s_best_split, defBody s_best_split, defScope s_best_split, [], []⟩
def n_best_split : List Str := [("table" : PySem.Str), ("best" : PySem.Str), ("split" : PySem.Str), ("amount" : PySem.Str), ("group" : PySem.Str)]
def c_best_split_1 : Pm.IEs := .nil
def e_best_split_1 : Pm.IE := (.meth (.var 0) f_earning (.cons (.var 4) .nil))
def w_best_split_2 : Pm.ISs := (.cons (.asg 3 (.call i_added (.cons (.frz (.lc [4] (.nam 4) (.exp (.var 2)) c_best_split_1 e_best_split_1)) .nil) .nil [])) (.cons (.ite (.bol false (.cons (.cmp .is_ (.var 1) (.con (.non))) (.cons (.meth (.sub (.var 1) (.con (.int (0)))) f_less (.cons (.var 3) .nil)) .nil))) (.cons (.asg 1 (.tup (.cons (.var 3) (.cons (.var 2) .nil)))) .nil) .nil) .nil))
def b_best_split : Pm.ISs := (.cons (.asg 1 (.con (.non))) (.cons (.for_ (.nam 2) (.exp (.frz (.slf i_len_first (.call i_splits (.cons (.var 0) (.cons (.frz (.lrg (.att (.var 0) f_count))) .nil)) .nil [])))) w_best_split_2) (.cons (.ret (.var 1)) .nil)))
def r_best_split : Pm.Row := ⟨d_best_split, n_best_split, [("table" : PySem.Str)], ⟨1, 5, false, b_best_split⟩⟩
abbrev s_len_first : Stmt := top 15
def d_len_first : He.DefD := ⟨(("len_first" : PySem.Str), none), ("len_first" : PySem.Str), ("len_first" : PySem.Str), defArgs s_len_first, defBody s_len_first, defScope s_len_first, [], []⟩
def n_len_first : List Str := [("split" : PySem.Str)]
def b_len_first : Pm.ISs := (.cons (.ret (.tup (.cons (.bif .len (.cons (.var 0) .nil)) (.cons (.var 0) .nil)))) .nil)
def r_len_first : Pm.Row := ⟨d_len_first, n_len_first, [("split" : PySem.Str)], ⟨1, 1, false, b_len_first⟩⟩
abbrev s_l_pool : Stmt := top 17
def d_l_pool : He.DefD := ⟨(("_law_pool" : PySem.Str), none), ("_law_pool" : PySem.Str), ("_law_pool" : PySem.Str), defArgs s_l_pool, defBody s_l_pool, defScope s_l_pool, [], []⟩
def n_l_pool : List Str := [("_law_script" : PySem.Str), ("_law_budget" : PySem.Str)]
def b_l_pool : Pm.ISs := (.cons (.ret (.cel (.lst (.cons (.frz (.lis (.var 0))) (.cons (.con (.int (0))) (.cons (.con (.int (0))) (.cons (.con (.int (1))) (.cons (.con (.int (0))) (.cons (.var 1) .nil))))))))) .nil)
def r_l_pool : Pm.Row := ⟨d_l_pool, n_l_pool, [("_law_script" : PySem.Str), ("_law_budget" : PySem.Str)], ⟨2, 2, false, b_l_pool⟩⟩
abbrev s_l_draw : Stmt := top 18
def d_l_draw : He.DefD := ⟨(("_law_draw" : PySem.Str), none), ("_law_draw" : PySem.Str), ("_law_draw" : PySem.Str), defArgs s_l_draw, defBody s_l_draw, defScope s_l_draw, [], []⟩
def n_l_draw : List Str := [("_law_pool_here" : PySem.Str), ("_law_size" : PySem.Str), ("_law_cell" : PySem.Str), ("_law_value" : PySem.Str)]
def b_l_draw : Pm.ISs := (.cons (.ite (.bol true (.cons (.cmp .le (.sub (.var 0) (.con (.int (2)))) (.con (.int (0)))) (.cons (.cmp .le (.sub (.var 0) (.con (.int (4)))) (.con (.int (0)))) (.cons (.cmp .lt (.sub (.var 0) (.con (.int (1)))) (.bif .len (.cons (.sub (.var 0) (.con (.int (0)))) .nil))) .nil)))) (.cons (.asg 2 (.sub (.sub (.var 0) (.con (.int (0)))) (.sub (.var 0) (.con (.int (1)))))) (.cons (.sts (.var 0) (.con (.int (1))) (.bop .add (.sub (.var 0) (.con (.int (1)))) (.con (.int (1))))) (.cons (.sts (.var 0) (.con (.int (3))) (.bop .mod (.bif .int (.cons (.bop .add (.bop .mul (.sub (.var 0) (.con (.int (3)))) (.con (.int (31)))) (.var 2)) .nil)) (.con (.int (2147483647))))) (.cons (.sts (.var 0) (.con (.int (4))) (.con (.int (7)))) (.cons (.ite (.cmp .ge (.var 2) (.bop .pow (.con (.int (10))) (.con (.int (18))))) (.cons (.sts (.var 0) (.con (.int (2))) (.var 2)) .nil) .nil) .nil))))) .nil) (.cons (.ite (.cmp .gt (.sub (.var 0) (.con (.int (2)))) (.con (.int (0)))) (.cons (.asg 3 (.bop .mod (.bif .int (.cons (.sub (.var 0) (.con (.int (2)))) .nil)) (.var 1))) (.cons (.sts (.var 0) (.con (.int (2))) (.bop .fdv (.sub (.var 0) (.con (.int (2)))) (.var 1))) (.cons (.sts (.var 0) (.con (.int (4))) (.con (.int (0)))) (.cons (.ret (.var 3)) .nil)))) .nil) (.cons (.sts (.var 0) (.con (.int (4))) (.bop .sub (.sub (.var 0) (.con (.int (4)))) (.con (.int (1))))) (.cons (.sts (.var 0) (.con (.int (3))) (.bop .mod (.bif .int (.cons (.bop .add (.bop .mul (.sub (.var 0) (.con (.int (3)))) (.con (.int (48271)))) (.con (.int (12345)))) .nil)) (.con (.int (2147483647))))) (.cons (.ret (.bop .mod (.bop .mod (.bif .int (.cons (.bop .add (.bop .mul (.sub (.var 0) (.con (.int (3)))) (.con (.int (69621)))) (.con (.int (7919)))) .nil)) (.con (.int (2147483647)))) (.var 1))) .nil)))))
def r_l_draw : Pm.Row := ⟨d_l_draw, n_l_draw, [("_law_pool_here" : PySem.Str), ("_law_size" : PySem.Str)], ⟨2, 4, false, b_l_draw⟩⟩
abbrev s_l_same : Stmt := top 19
def d_l_same : He.DefD := ⟨(("_law_same" : PySem.Str), none), ("_law_same" : PySem.Str), ("_law_same" : PySem.Str), defArgs s_l_same, defBody s_l_same, defScope s_l_same, [], []⟩
def n_l_same : List Str := [("_law_actual" : PySem.Str), ("_law_due" : PySem.Str), ("_law_k" : PySem.Str)]
def w_l_same_1 : Pm.ISs := (.cons (.ite (.not_ (.call i_l_same (.cons (.sub (.var 0) (.var 2)) (.cons (.sub (.var 1) (.var 2)) .nil)) .nil [])) (.cons (.ret (.con (.bl false))) .nil) .nil) .nil)
def b_l_same : Pm.ISs := (.cons (.ite (.bol false (.cons (.isi (.var 1) [.ttup]) (.cons (.isi (.var 1) [.tlst]) .nil))) (.cons (.ite (.bol false (.cons (.cmp .ne (.isi (.var 1) [.ttup]) (.isi (.var 0) [.ttup])) (.cons (.cmp .ne (.isi (.var 1) [.tlst]) (.isi (.var 0) [.tlst])) .nil))) (.cons (.ret (.con (.bl false))) .nil) .nil) (.cons (.ite (.cmp .ne (.bif .len (.cons (.var 0) .nil)) (.bif .len (.cons (.var 1) .nil))) (.cons (.ret (.con (.bl false))) .nil) .nil) (.cons (.for_ (.nam 2) (.rng (.bif .len (.cons (.var 1) .nil))) w_l_same_1) (.cons (.ret (.con (.bl true))) .nil)))) .nil) (.cons (.ite (.bol false (.cons (.cmp .is_ (.var 1) (.con (.non))) (.cons (.isi (.var 1) [.tbool]) .nil))) (.cons (.ret (.bol true (.cons (.cmp .eq (.cmp .is_ (.var 0) (.con (.non))) (.cmp .is_ (.var 1) (.con (.non)))) (.cons (.bol false (.cons (.cmp .is_ (.var 1) (.con (.non))) (.cons (.isi (.var 0) [.tbool]) .nil))) (.cons (.cmp .eq (.var 0) (.var 1)) .nil))))) .nil) .nil) (.cons (.ite (.isi (.var 1) [.tint]) (.cons (.ret (.bol true (.cons (.isi (.var 0) [.tint]) (.cons (.not_ (.isi (.var 0) [.tbool])) (.cons (.cmp .eq (.var 0) (.var 1)) .nil))))) .nil) .nil) (.cons (.ret (.bol true (.cons (.isi (.var 0) [.tstr]) (.cons (.cmp .eq (.var 0) (.var 1)) .nil)))) .nil))))
def r_l_same : Pm.Row := ⟨d_l_same, n_l_same, [("_law_actual" : PySem.Str), ("_law_due" : PySem.Str)], ⟨2, 3, false, b_l_same⟩⟩
abbrev s_l_less : Stmt := top 20
def d_l_less : He.DefD := ⟨(("_law_less" : PySem.Str), none), ("_law_less" : PySem.Str), ("_law_less" : PySem.Str), defArgs s_l_less, defBody s_l_less, defScope s_l_less, [], []⟩
def n_l_less : List Str := [("_law_num" : PySem.Str), ("_law_den" : PySem.Str), ("_law_a" : PySem.Str), ("_law_b" : PySem.Str), ("_law_k" : PySem.Str)]
def w_l_less_1 : Pm.ISs := (.cons (.ite (.cmp .eq (.var 3) (.con (.int (0)))) (.cons .brk .nil) .nil) (.cons (.par 2 3 (.var 3) (.bop .mod (.bif .int (.cons (.var 2) .nil)) (.var 3))) .nil))
def b_l_less : Pm.ISs := (.cons (.asg 2 (.bif .abs (.cons (.var 0) .nil))) (.cons (.asg 3 (.var 1)) (.cons (.for_ (.nam 4) (.rng (.con (.int (4000)))) w_l_less_1) (.cons (.ret (.tup (.cons (.bop .fdv (.var 0) (.var 2)) (.cons (.bop .fdv (.var 1) (.var 2)) .nil)))) .nil))))
def r_l_less : Pm.Row := ⟨d_l_less, n_l_less, [("_law_num" : PySem.Str), ("_law_den" : PySem.Str)], ⟨2, 5, false, b_l_less⟩⟩
abbrev s_l_plus : Stmt := top 21
def d_l_plus : He.DefD := ⟨(("_law_plus" : PySem.Str), none), ("_law_plus" : PySem.Str), ("_law_plus" : PySem.Str), defArgs s_l_plus, defBody s_l_plus, defScope s_l_plus, [], []⟩
def n_l_plus : List Str := [("_law_one" : PySem.Str), ("_law_other" : PySem.Str)]
def b_l_plus : Pm.ISs := (.cons (.ret (.call i_l_less (.cons (.bop .add (.bop .mul (.sub (.var 0) (.con (.int (0)))) (.sub (.var 1) (.con (.int (1))))) (.bop .mul (.sub (.var 1) (.con (.int (0)))) (.sub (.var 0) (.con (.int (1)))))) (.cons (.bop .mul (.sub (.var 0) (.con (.int (1)))) (.sub (.var 1) (.con (.int (1))))) .nil)) .nil [])) .nil)
def r_l_plus : Pm.Row := ⟨d_l_plus, n_l_plus, [("_law_one" : PySem.Str), ("_law_other" : PySem.Str)], ⟨2, 2, false, b_l_plus⟩⟩
abbrev s_l_minus : Stmt := top 22
def d_l_minus : He.DefD := ⟨(("_law_minus" : PySem.Str), none), ("_law_minus" : PySem.Str), ("_law_minus" : PySem.Str), defArgs s_l_minus, defBody s_l_minus, defScope s_l_minus, [], []⟩
def n_l_minus : List Str := [("_law_one" : PySem.Str), ("_law_other" : PySem.Str)]
def b_l_minus : Pm.ISs := (.cons (.ret (.call i_l_less (.cons (.bop .sub (.bop .mul (.sub (.var 0) (.con (.int (0)))) (.sub (.var 1) (.con (.int (1))))) (.bop .mul (.sub (.var 1) (.con (.int (0)))) (.sub (.var 0) (.con (.int (1)))))) (.cons (.bop .mul (.sub (.var 0) (.con (.int (1)))) (.sub (.var 1) (.con (.int (1))))) .nil)) .nil [])) .nil)
def r_l_minus : Pm.Row := ⟨d_l_minus, n_l_minus, [("_law_one" : PySem.Str), ("_law_other" : PySem.Str)], ⟨2, 2, false, b_l_minus⟩⟩
abbrev s_l_below : Stmt := top 23
def d_l_below : He.DefD := ⟨(("_law_below" : PySem.Str), none), ("_law_below" : PySem.Str), ("_law_below" : PySem.Str), defArgs s_l_below, defBody s_l_below, defScope s_l_below, [], []⟩
def n_l_below : List Str := [("_law_one" : PySem.Str), ("_law_other" : PySem.Str)]
def b_l_below : Pm.ISs := (.cons (.ret (.cmp .lt (.bop .mul (.sub (.var 0) (.con (.int (0)))) (.sub (.var 1) (.con (.int (1))))) (.bop .mul (.sub (.var 1) (.con (.int (0)))) (.sub (.var 0) (.con (.int (1))))))) .nil)
def r_l_below : Pm.Row := ⟨d_l_below, n_l_below, [("_law_one" : PySem.Str), ("_law_other" : PySem.Str)], ⟨2, 2, false, b_l_below⟩⟩
abbrev s_l_sum : Stmt := top 24
def d_l_sum : He.DefD := ⟨(("_law_sum" : PySem.Str), none), ("_law_sum" : PySem.Str), ("_law_sum" : PySem.Str), defArgs s_l_sum, defBody s_l_sum, defScope s_l_sum, [], []⟩
def n_l_sum : List Str := [("_law_ratios" : PySem.Str), ("_law_whole" : PySem.Str), ("_law_ratio" : PySem.Str)]
def w_l_sum_1 : Pm.ISs := (.cons (.asg 1 (.call i_l_plus (.cons (.var 1) (.cons (.var 2) .nil)) .nil [])) .nil)
def b_l_sum : Pm.ISs := (.cons (.asg 1 (.tup (.cons (.con (.int (0))) (.cons (.con (.int (1))) .nil)))) (.cons (.for_ (.nam 2) (.exp (.var 0)) w_l_sum_1) (.cons (.ret (.var 1)) .nil)))
def r_l_sum : Pm.Row := ⟨d_l_sum, n_l_sum, [("_law_ratios" : PySem.Str)], ⟨1, 3, false, b_l_sum⟩⟩
abbrev s_l_groups : Stmt := top 25
def d_l_groups : He.DefD := ⟨(("_law_groups" : PySem.Str), none), ("_law_groups" : PySem.Str), ("_law_groups" : PySem.Str), defArgs s_l_groups, defBody s_l_groups, defScope s_l_groups, [], []⟩
def n_l_groups : List Str := [("_law_count" : PySem.Str), ("_law_groups_here" : PySem.Str), ("_law_index" : PySem.Str), ("_law_group" : PySem.Str)]
def c_l_groups_1 : Pm.IEs := .nil
def e_l_groups_1 : Pm.IE := (.bop .add (.var 3) (.tup (.cons (.var 2) .nil)))
def w_l_groups_2 : Pm.ISs := (.cons (.asg 1 (.bop .add (.var 1) (.frz (.lc [3] (.nam 3) (.exp (.var 1)) c_l_groups_1 e_l_groups_1)))) .nil)
def b_l_groups : Pm.ISs := (.cons (.asg 1 (.frz (.lst (.cons (.tup .nil) .nil)))) (.cons (.for_ (.nam 2) (.rng (.var 0)) w_l_groups_2) (.cons (.ret (.slc (.frz (.srt (.var 1))) (.con (.int (1))) (.con .non))) .nil)))
def r_l_groups : Pm.Row := ⟨d_l_groups, n_l_groups, [("_law_count" : PySem.Str)], ⟨1, 4, false, b_l_groups⟩⟩
abbrev s_l_joined : Stmt := top 26
def d_l_joined : He.DefD := ⟨(("_law_joined" : PySem.Str), none), ("_law_joined" : PySem.Str), ("_law_joined" : PySem.Str), defArgs s_l_joined, defBody s_l_joined, defScope s_l_joined, [], []⟩
def n_l_joined : List Str := [("_law_group" : PySem.Str), ("_law_talks" : PySem.Str), ("_law_met" : PySem.Str), ("_law_turn" : PySem.Str), ("_law_one" : PySem.Str), ("_law_other" : PySem.Str)]
def w_l_joined_1 : Pm.ISs := (.cons (.ite (.bol true (.cons (.cmp .isin (.var 4) (.var 2)) (.cons (.cmp .isin (.var 5) (.var 0)) (.cons (.cmp .nin (.var 5) (.var 2)) .nil)))) (.cons (.app 2 (.var 5)) .nil) .nil) (.cons (.ite (.bol true (.cons (.cmp .isin (.var 5) (.var 2)) (.cons (.cmp .isin (.var 4) (.var 0)) (.cons (.cmp .nin (.var 4) (.var 2)) .nil)))) (.cons (.app 2 (.var 4)) .nil) .nil) .nil))
def w_l_joined_2 : Pm.ISs := (.cons (.for_ (.tup [(.nam 4), (.nam 5)]) (.exp (.var 1)) w_l_joined_1) .nil)
def b_l_joined : Pm.ISs := (.cons (.aso 2 (.lst (.cons (.sub (.var 0) (.con (.int (0)))) .nil))) (.cons (.for_ (.nam 3) (.rng (.bif .len (.cons (.var 0) .nil))) w_l_joined_2) (.cons (.ret (.cmp .eq (.bif .len (.cons (.var 2) .nil)) (.bif .len (.cons (.var 0) .nil)))) .nil)))
def r_l_joined : Pm.Row := ⟨d_l_joined, n_l_joined, [("_law_group" : PySem.Str), ("_law_talks" : PySem.Str)], ⟨2, 6, false, b_l_joined⟩⟩
abbrev s_l_forest : Stmt := top 27
def d_l_forest : He.DefD := ⟨(("_law_forest" : PySem.Str), none), ("_law_forest" : PySem.Str), ("_law_forest" : PySem.Str), defArgs s_l_forest, defBody s_l_forest, defScope s_l_forest, [], []⟩
def n_l_forest : List Str := [("_law_pool_here" : PySem.Str), ("_law_count" : PySem.Str), ("_law_talks" : PySem.Str), ("_law_index" : PySem.Str), ("_law_other" : PySem.Str)]
def w_l_forest_1 : Pm.ISs := (.cons (.asg 4 (.call i_l_draw (.cons (.var 0) (.cons (.bop .add (.var 3) (.con (.int (1)))) .nil)) .nil [])) (.cons (.ite (.cmp .lt (.var 4) (.var 3)) (.cons (.app 2 (.tup (.cons (.var 4) (.cons (.var 3) .nil)))) .nil) .nil) .nil))
def b_l_forest : Pm.ISs := (.cons (.aso 2 (.lst .nil)) (.cons (.for_ (.nam 3) (.rng2 (.con (.int (1))) (.var 1)) w_l_forest_1) (.cons (.rto 2) .nil)))
def r_l_forest : Pm.Row := ⟨d_l_forest, n_l_forest, [("_law_pool_here" : PySem.Str), ("_law_count" : PySem.Str)], ⟨2, 5, false, b_l_forest⟩⟩
abbrev s_l_family : Stmt := top 28
def d_l_family : He.DefD := ⟨(("_law_family" : PySem.Str), none), ("_law_family" : PySem.Str), ("_law_family" : PySem.Str), defArgs s_l_family, defBody s_l_family, defScope s_l_family, [], []⟩
def n_l_family : List Str := [("_law_pool_here" : PySem.Str), ("_law_count" : PySem.Str), ("_law_groups_here" : PySem.Str), ("_law_way" : PySem.Str), ("_law_whole" : PySem.Str), ("_law_talks" : PySem.Str), ("_law_group" : PySem.Str)]
def c_l_family_1 : Pm.IEs := (.cons (.bol false (.cons (.cmp .eq (.bif .len (.cons (.var 6) .nil)) (.con (.int (1)))) (.cons (.cmp .eq (.var 6) (.var 4)) (.cons (.cmp .eq (.call i_l_draw (.cons (.var 0) (.cons (.con (.int (2))) .nil)) .nil []) (.con (.int (0)))) .nil)))) .nil)
def e_l_family_1 : Pm.IE := (.var 6)
def c_l_family_2 : Pm.IEs := (.cons (.bol false (.cons (.cmp .eq (.var 6) (.var 4)) (.cons (.call i_l_joined (.cons (.var 6) (.cons (.var 5) .nil)) .nil []) .nil))) .nil)
def e_l_family_2 : Pm.IE := (.var 6)
def b_l_family : Pm.ISs := (.cons (.asg 2 (.call i_l_groups (.cons (.var 1) .nil) .nil [])) (.cons (.asg 3 (.call i_l_draw (.cons (.var 0) (.cons (.con (.int (4))) .nil)) .nil [])) (.cons (.asg 4 (.tpr (.var 1))) (.cons (.ite (.cmp .eq (.var 3) (.con (.int (0)))) (.cons (.ret (.frz (.lc [6] (.nam 6) (.exp (.var 2)) c_l_family_1 e_l_family_1))) .nil) .nil) (.cons (.ite (.cmp .eq (.var 3) (.con (.int (1)))) (.cons (.asg 5 (.call i_l_forest (.cons (.var 0) (.cons (.var 1) .nil)) .nil [])) (.cons (.ret (.frz (.lc [6] (.nam 6) (.exp (.var 2)) c_l_family_2 e_l_family_2))) .nil)) .nil) (.cons (.ret (.var 2)) .nil))))))
def r_l_family : Pm.Row := ⟨d_l_family, n_l_family, [("_law_pool_here" : PySem.Str), ("_law_count" : PySem.Str)], ⟨2, 7, false, b_l_family⟩⟩
abbrev s_l_amount : Stmt := top 29
def d_l_amount : He.DefD := ⟨(("_law_amount" : PySem.Str), none), ("_law_amount" : PySem.Str), ("_law_amount" : PySem.Str), defArgs s_l_amount, defBody s_l_amount, defScope s_l_amount, [], []⟩
def n_l_amount : List Str := [("_law_pool_here" : PySem.Str)]
def b_l_amount : Pm.ISs := (.cons (.ite (.cmp .eq (.call i_l_draw (.cons (.var 0) (.cons (.con (.int (6))) .nil)) .nil []) (.con (.int (0)))) (.cons (.ret (.call i_l_less (.cons (.bop .sub (.call i_l_draw (.cons (.var 0) (.cons (.con (.int (40))) .nil)) .nil []) (.con (.int (8)))) (.cons (.bop .add (.con (.int (1))) (.call i_l_draw (.cons (.var 0) (.cons (.con (.int (6))) .nil)) .nil [])) .nil)) .nil [])) .nil) .nil) (.cons (.ret (.tup (.cons (.bop .sub (.call i_l_draw (.cons (.var 0) (.cons (.con (.int (30))) .nil)) .nil []) (.con (.int (4)))) (.cons (.con (.int (1))) .nil)))) .nil))
def r_l_amount : Pm.Row := ⟨d_l_amount, n_l_amount, [("_law_pool_here" : PySem.Str)], ⟨1, 1, false, b_l_amount⟩⟩
abbrev s_l_table_of : Stmt := top 30
def d_l_table_of : He.DefD := ⟨(("_law_table_of" : PySem.Str), none), ("_law_table_of" : PySem.Str), ("_law_table_of" : PySem.Str), defArgs s_l_table_of, defBody s_l_table_of, defScope s_l_table_of, [], []⟩
def n_l_table_of : List Str := [("_law_pool_here" : PySem.Str), ("_law_count" : PySem.Str), ("_law_family_here" : PySem.Str), ("_law_way" : PySem.Str), ("_law_payments" : PySem.Str), ("_law_rows" : PySem.Str), ("_law_group" : PySem.Str), ("_law_earning" : PySem.Str), ("_law_index" : PySem.Str)]
def c_l_table_of_1 : Pm.IEs := .nil
def e_l_table_of_1 : Pm.IE := (.call i_l_amount (.cons (.var 0) .nil) .nil [])
def c_l_table_of_2 : Pm.IEs := .nil
def e_l_table_of_2 : Pm.IE := (.sub (.var 4) (.var 8))
def w_l_table_of_3 : Pm.ISs := (.cons (.asg 7 (.call i_l_amount (.cons (.var 0) .nil) .nil [])) (.cons (.ite (.cmp .eq (.var 3) (.con (.int (1)))) (.cons (.asg 7 (.tup (.cons (.bop .mul (.bif .len (.cons (.var 6) .nil)) (.call i_l_draw (.cons (.var 0) (.cons (.con (.int (6))) .nil)) .nil [])) (.cons (.con (.int (1))) .nil)))) .nil) .nil) (.cons (.ite (.cmp .gt (.var 3) (.con (.int (1)))) (.cons (.asg 7 (.call i_l_sum (.cons (.frz (.lc [8] (.nam 8) (.exp (.var 6)) c_l_table_of_2 e_l_table_of_2)) .nil) .nil [])) .nil) .nil) (.cons (.ite (.cmp .eq (.var 3) (.con (.int (4)))) (.cons (.asg 7 (.call i_l_minus (.cons (.var 7) (.cons (.tup (.cons (.bop .mul (.call i_l_draw (.cons (.var 0) (.cons (.con (.int (4))) .nil)) .nil []) (.bif .int (.cons (.bol false (.cons (.cmp .eq (.bif .len (.cons (.var 6) .nil)) (.var 1)) (.cons (.cmp .eq (.call i_l_draw (.cons (.var 0) (.cons (.con (.int (6))) .nil)) .nil []) (.con (.int (0)))) .nil))) .nil))) (.cons (.con (.int (1))) .nil))) .nil)) .nil [])) .nil) (.cons (.ite (.bol true (.cons (.cmp .gt (.var 3) (.con (.int (1)))) (.cons (.cmp .lt (.bif .len (.cons (.var 6) .nil)) (.var 1)) .nil))) (.cons (.asg 7 (.call i_l_minus (.cons (.var 7) (.cons (.call i_l_less (.cons (.bop .sub (.call i_l_draw (.cons (.var 0) (.cons (.con (.int (6))) .nil)) .nil []) (.bop .sub (.var 3) (.con (.int (2))))) (.cons (.bop .add (.con (.int (1))) (.call i_l_draw (.cons (.var 0) (.cons (.con (.int (2))) .nil)) .nil [])) .nil)) .nil []) .nil)) .nil [])) .nil) .nil) .nil)) (.cons (.app 5 (.tup (.cons (.var 6) (.cons (.var 7) .nil)))) .nil)))))
def b_l_table_of : Pm.ISs := (.cons (.asg 2 (.call i_l_family (.cons (.var 0) (.cons (.var 1) .nil)) .nil [])) (.cons (.asg 3 (.call i_l_draw (.cons (.var 0) (.cons (.con (.int (5))) .nil)) .nil [])) (.cons (.asg 4 (.frz (.lc [8] (.nam 8) (.rng (.var 1)) c_l_table_of_1 e_l_table_of_1))) (.cons (.aso 5 (.lst .nil)) (.cons (.for_ (.nam 6) (.exp (.var 2)) w_l_table_of_3) (.cons (.frz 5) (.cons (.ret (.tup (.cons (.var 1) (.cons (.var 5) .nil)))) .nil)))))))
def r_l_table_of : Pm.Row := ⟨d_l_table_of, n_l_table_of, [("_law_pool_here" : PySem.Str), ("_law_count" : PySem.Str)], ⟨2, 9, false, b_l_table_of⟩⟩
abbrev s_l_table : Stmt := top 31
def d_l_table : He.DefD := ⟨(("_law_table" : PySem.Str), none), ("_law_table" : PySem.Str), ("_law_table" : PySem.Str), defArgs s_l_table, defBody s_l_table, defScope s_l_table, [], []⟩
def n_l_table : List Str := [("_law_pool_here" : PySem.Str), ("_law_most" : PySem.Str)]
def b_l_table : Pm.ISs := (.cons (.ret (.call i_l_table_of (.cons (.var 0) (.cons (.bif .min2 (.cons (.var 1) (.cons (.sub (.tup (.cons (.con (.int (1))) (.cons (.con (.int (2))) (.cons (.con (.int (3))) (.cons (.con (.int (3))) (.cons (.con (.int (4))) (.cons (.con (.int (4))) (.cons (.con (.int (4))) (.cons (.con (.int (5))) .nil))))))))) (.call i_l_draw (.cons (.var 0) (.cons (.con (.int (8))) .nil)) .nil [])) .nil))) .nil)) .nil [])) .nil)
def r_l_table : Pm.Row := ⟨d_l_table, n_l_table, [("_law_pool_here" : PySem.Str), ("_law_most" : PySem.Str)], ⟨2, 2, false, b_l_table⟩⟩
abbrev s_l_made : Stmt := top 32
def d_l_made : He.DefD := ⟨(("_law_made" : PySem.Str), none), ("_law_made" : PySem.Str), ("_law_made" : PySem.Str), defArgs s_l_made, defBody s_l_made, defScope s_l_made, [], []⟩
def n_l_made : List Str := [("_law_table_here" : PySem.Str), ("_law_group" : PySem.Str), ("_law_num" : PySem.Str), ("_law_den" : PySem.Str)]
def c_l_made_1 : Pm.IEs := .nil
def e_l_made_1 : Pm.IE := (.tup (.cons (.var 1) (.cons (.new k_Ratio (.cons (.var 2) (.cons (.var 3) .nil)) .nil []) .nil)))
def b_l_made : Pm.ISs := (.cons (.ret (.new k_Table (.cons (.sub (.var 0) (.con (.int (0)))) (.cons (.frz (.lc [1, 2, 3] (.tup [(.nam 1), (.tup [(.nam 2), (.nam 3)])]) (.exp (.sub (.var 0) (.con (.int (1))))) c_l_made_1 e_l_made_1)) .nil)) .nil [])) .nil)
def r_l_made : Pm.Row := ⟨d_l_made, n_l_made, [("_law_table_here" : PySem.Str)], ⟨1, 4, false, b_l_made⟩⟩
abbrev s_l_splits : Stmt := top 33
def d_l_splits : He.DefD := ⟨(("_law_splits" : PySem.Str), none), ("_law_splits" : PySem.Str), ("_law_splits" : PySem.Str), defArgs s_l_splits, defBody s_l_splits, defScope s_l_splits, [], []⟩
def n_l_splits : List Str := [("_law_table_here" : PySem.Str), ("_law_found" : PySem.Str), ("_law_index" : PySem.Str), ("_law_known" : PySem.Str), ("_law_longer" : PySem.Str), ("_law_split" : PySem.Str), ("_law_k" : PySem.Str), ("_law_group" : PySem.Str), ("_law_earning" : PySem.Str)]
def w_l_splits_1 : Pm.ISs := (.cons (.app 4 (.bop .add (.bop .add (.slc (.var 5) (.con .non) (.var 6)) (.frz (.lst (.cons (.bop .add (.sub (.var 5) (.var 6)) (.tup (.cons (.var 2) .nil))) .nil)))) (.slc (.var 5) (.bop .add (.var 6) (.con (.int (1)))) (.con .non)))) .nil)
def w_l_splits_2 : Pm.ISs := (.cons (.app 4 (.bop .add (.var 5) (.frz (.lst (.cons (.tup (.cons (.var 2) .nil)) .nil))))) (.cons (.for_ (.nam 6) (.rng (.bif .len (.cons (.var 5) .nil))) w_l_splits_1) .nil))
def w_l_splits_3 : Pm.ISs := (.cons (.aso 4 (.lst .nil)) (.cons (.for_ (.nam 5) (.exp (.var 1)) w_l_splits_2) (.cons (.frz 4) (.cons (.asg 1 (.var 4)) .nil))))
def c_l_splits_4 : Pm.IEs := .nil
def e_l_splits_4 : Pm.IE := (.var 7)
def c_l_splits_5 : Pm.IEs := (.cons (.cmp .nin (.var 7) (.var 3)) .nil)
def e_l_splits_5 : Pm.IE := (.var 7)
def c_l_splits_6 : Pm.IEs := (.cons (.cmp .eq (.bif .len (.cons (.frz (.lc [7] (.nam 7) (.exp (.var 5)) c_l_splits_5 e_l_splits_5)) .nil)) (.con (.int (0)))) .nil)
def e_l_splits_6 : Pm.IE := (.bif .tuple (.cons (.var 5) .nil))
def b_l_splits : Pm.ISs := (.cons (.asg 1 (.frz (.lst (.cons (.frz (.lst .nil)) .nil)))) (.cons (.for_ (.nam 2) (.rng (.sub (.var 0) (.con (.int (0))))) w_l_splits_3) (.cons (.asg 3 (.frz (.lc [7, 8] (.tup [(.nam 7), (.nam 8)]) (.exp (.sub (.var 0) (.con (.int (1))))) c_l_splits_4 e_l_splits_4))) (.cons (.ret (.frz (.lc [5] (.nam 5) (.exp (.var 1)) c_l_splits_6 e_l_splits_6))) .nil))))
def r_l_splits : Pm.Row := ⟨d_l_splits, n_l_splits, [("_law_table_here" : PySem.Str)], ⟨1, 9, false, b_l_splits⟩⟩
abbrev s_law : Stmt := top 34
def d_law : He.DefD := ⟨(("law" : PySem.Str), none), ("law" : PySem.Str), ("law" : PySem.Str), defArgs s_law, defBody s_law, defScope s_law, [], []⟩
def n_law : List Str := [("_law_script" : PySem.Str), ("_law_pool_here" : PySem.Str), ("_law_table_here" : PySem.Str), ("_law_earnings" : PySem.Str), ("_law_best" : PySem.Str), ("_law_split" : PySem.Str), ("_law_made_here" : PySem.Str), ("_law_turn" : PySem.Str), ("_law_rows" : PySem.Str), ("_law_amount_here" : PySem.Str), ("_law_found" : PySem.Str), ("_law_group" : PySem.Str), ("_law_earning" : PySem.Str)]
def c_law_1 : Pm.IEs := .nil
def e_law_1 : Pm.IE := (.tup (.cons (.var 11) (.cons (.tup (.cons (.bop .mul (.bif .len (.cons (.var 11) .nil)) (.call i_l_draw (.cons (.var 1) (.cons (.con (.int (2))) .nil)) .nil [])) (.cons (.con (.int (1))) .nil))) .nil)))
def c_law_2 : Pm.IEs := .nil
def e_law_2 : Pm.IE := (.dge (.var 3) (.var 11))
def w_law_3 : Pm.ISs := (.cons (.asg 9 (.call i_l_sum (.cons (.frz (.lc [11] (.nam 11) (.exp (.var 5)) c_law_2 e_law_2)) .nil) .nil [])) (.cons (.ite (.bol false (.cons (.cmp .is_ (.var 4) (.con (.non))) (.cons (.call i_l_below (.cons (.sub (.var 4) (.con (.int (0)))) (.cons (.var 9) .nil)) .nil []) (.cons (.bol true (.cons (.cmp .eq (.var 9) (.sub (.var 4) (.con (.int (0))))) (.cons (.cmp .lt (.tup (.cons (.bif .len (.cons (.var 5) .nil)) (.cons (.var 5) .nil))) (.tup (.cons (.bif .len (.cons (.sub (.var 4) (.con (.int (1)))) .nil)) (.cons (.sub (.var 4) (.con (.int (1)))) .nil)))) .nil))) .nil)))) (.cons (.asg 4 (.tup (.cons (.var 9) (.cons (.var 5) .nil)))) .nil) .nil) .nil))
def w_law_4 : Pm.ISs := (.cons (.asg 10 (.sub (.tup (.cons (.call i_best_split (.cons (.var 6) .nil) .nil []) (.cons (.call i_best_split .nil (.cons (.var 6) .nil) []) .nil))) (.var 7))) (.cons (.ite (.bol false (.cons (.not_ (.isi (.var 10) [.ttup])) (.cons (.cmp .ne (.bif .len (.cons (.var 10) .nil)) (.con (.int (2)))) (.cons (.not_ (.isi (.sub (.var 10) (.con (.int (0)))) [(.cls k_Ratio)])) .nil)))) (.cons (.ret (.con (.bl false))) .nil) .nil) (.cons (.ite (.not_ (.call i_l_same (.cons (.frz (.lst (.cons (.att (.sub (.var 10) (.con (.int (0)))) f_num) (.cons (.att (.sub (.var 10) (.con (.int (0)))) f_den) (.cons (.sub (.var 10) (.con (.int (1)))) .nil))))) (.cons (.frz (.lst (.cons (.sub (.sub (.var 4) (.con (.int (0)))) (.con (.int (0)))) (.cons (.sub (.sub (.var 4) (.con (.int (0)))) (.con (.int (1)))) (.cons (.sub (.var 4) (.con (.int (1)))) .nil))))) .nil)) .nil [])) (.cons (.ret (.con (.bl false))) .nil) .nil) .nil)))
def c_law_5 : Pm.IEs := .nil
def e_law_5 : Pm.IE := (.tup (.cons (.var 11) (.cons (.tup (.cons (.att (.var 12) f_num) (.cons (.att (.var 12) f_den) .nil))) .nil)))
def b_law : Pm.ISs := (.cons (.asg 1 (.call i_l_pool (.cons (.var 0) (.cons (.con (.int (0))) .nil)) .nil [])) (.cons (.asg 2 (.call i_l_table (.cons (.var 1) (.cons (.con (.int (5))) .nil)) .nil [])) (.cons (.ite (.cmp .eq (.call i_l_draw (.cons (.var 1) (.cons (.con (.int (3))) .nil)) .nil []) (.con (.int (0)))) (.cons (.asg 2 (.tup (.cons (.sub (.var 2) (.con (.int (0)))) (.cons (.frz (.lc [11, 12] (.tup [(.nam 11), (.nam 12)]) (.exp (.sub (.var 2) (.con (.int (1))))) c_law_1 e_law_1)) .nil)))) .nil) .nil) (.cons (.asg 3 (.dpr (.sub (.var 2) (.con (.int (1)))))) (.cons (.asg 4 (.con (.non))) (.cons (.for_ (.nam 5) (.exp (.call i_l_splits (.cons (.var 2) .nil) .nil [])) w_law_3) (.cons (.asg 6 (.call i_l_made (.cons (.var 2) .nil) .nil [])) (.cons (.for_ (.nam 7) (.rng (.con (.int (2)))) w_law_4) (.cons (.asg 8 (.frz (.lc [11, 12] (.tup [(.nam 11), (.nam 12)]) (.exp (.att (.var 6) f_rows)) c_law_5 e_law_5))) (.cons (.ret (.bol true (.cons (.cmp .eq (.var 8) (.sub (.var 2) (.con (.int (1))))) (.cons (.call i_l_same (.cons (.cmp .eq (.var 6) (.call i_l_made (.cons (.var 2) .nil) .nil [])) (.cons (.con (.bl true)) .nil)) .nil []) .nil)))) .nil))))))))))
def r_law : Pm.Row := ⟨d_law, n_law, [("_law_script" : PySem.Str)], ⟨1, 13, false, b_law⟩⟩
def rows_0 : List Pm.Row := [r_wall, r_common, r_Ratio_init, r_Ratio_eq, r_Ratio_add, r_Ratio_sub, r_Ratio_mul, r_Ratio_str, r_Ratio_less, r_Ratio_over, r_added, r_is_group, r_Table_init, r_Table_eq, r_Table_earning, r_Table_whole, r_Table_inner, r_splits, r_best_split, r_len_first, r_l_pool, r_l_draw, r_l_same, r_l_less, r_l_plus, r_l_minus, r_l_below, r_l_sum, r_l_groups, r_l_joined]
def rows_1 : List Pm.Row := [r_l_forest, r_l_family, r_l_amount, r_l_table_of, r_l_table, r_l_made, r_l_splits, r_law]
def rows : List Pm.Row := rows_0 ++ rows_1
def nms_0 : List Str := [("num" : PySem.Str), ("den" : PySem.Str), ("count" : PySem.Str), ("rows" : PySem.Str), ("earning" : PySem.Str), ("less" : PySem.Str), ("over" : PySem.Str), ("whole" : PySem.Str), ("inner" : PySem.Str)]
def nms : List Str := nms_0
def cls_0 : List Pm.ClsL := [⟨("Ratio" : PySem.Str), [f_num, f_den], [(f_less, i_Ratio_less), (f_over, i_Ratio_over)], [(.add, i_Ratio_add), (.sub, i_Ratio_sub), (.mul, i_Ratio_mul)], some i_Ratio_eq, some i_Ratio_str, 2, true⟩, ⟨("Table" : PySem.Str), [f_count, f_rows], [(f_earning, i_Table_earning), (f_whole, i_Table_whole), (f_inner, i_Table_inner)], [], some i_Table_eq, none, 12, true⟩]
def cls : List Pm.ClsL := cls_0
def dfs_0 : List Pm.DefL := [⟨(("_wall" : PySem.Str), none), 1, false, false⟩, ⟨(("common" : PySem.Str), none), 2, false, false⟩, ⟨(("Ratio" : PySem.Str), some ("__init__" : PySem.Str)), 3, false, false⟩, ⟨(("Ratio" : PySem.Str), some ("__eq__" : PySem.Str)), 2, false, false⟩, ⟨(("Ratio" : PySem.Str), some ("__add__" : PySem.Str)), 2, false, false⟩, ⟨(("Ratio" : PySem.Str), some ("__sub__" : PySem.Str)), 2, false, false⟩, ⟨(("Ratio" : PySem.Str), some ("__mul__" : PySem.Str)), 2, false, false⟩, ⟨(("Ratio" : PySem.Str), some ("__str__" : PySem.Str)), 1, false, false⟩, ⟨(("Ratio" : PySem.Str), some ("less" : PySem.Str)), 2, false, false⟩, ⟨(("Ratio" : PySem.Str), some ("over" : PySem.Str)), 2, false, false⟩, ⟨(("added" : PySem.Str), none), 1, false, false⟩, ⟨(("is_group" : PySem.Str), none), 2, false, false⟩, ⟨(("Table" : PySem.Str), some ("__init__" : PySem.Str)), 3, false, false⟩, ⟨(("Table" : PySem.Str), some ("__eq__" : PySem.Str)), 2, false, false⟩, ⟨(("Table" : PySem.Str), some ("earning" : PySem.Str)), 2, false, false⟩, ⟨(("Table" : PySem.Str), some ("whole" : PySem.Str)), 1, false, false⟩, ⟨(("Table" : PySem.Str), some ("inner" : PySem.Str)), 1, false, false⟩, ⟨(("splits" : PySem.Str), none), 2, false, false⟩, ⟨(("best_split" : PySem.Str), none), 1, false, false⟩, ⟨(("len_first" : PySem.Str), none), 1, false, true⟩, ⟨(("_law_pool" : PySem.Str), none), 2, false, false⟩, ⟨(("_law_draw" : PySem.Str), none), 2, false, false⟩, ⟨(("_law_same" : PySem.Str), none), 2, false, false⟩, ⟨(("_law_less" : PySem.Str), none), 2, false, false⟩, ⟨(("_law_plus" : PySem.Str), none), 2, false, false⟩, ⟨(("_law_minus" : PySem.Str), none), 2, false, false⟩, ⟨(("_law_below" : PySem.Str), none), 2, false, false⟩, ⟨(("_law_sum" : PySem.Str), none), 1, false, false⟩, ⟨(("_law_groups" : PySem.Str), none), 1, false, false⟩, ⟨(("_law_joined" : PySem.Str), none), 2, false, false⟩]
def dfs_1 : List Pm.DefL := [⟨(("_law_forest" : PySem.Str), none), 2, false, false⟩, ⟨(("_law_family" : PySem.Str), none), 2, false, false⟩, ⟨(("_law_amount" : PySem.Str), none), 1, false, false⟩, ⟨(("_law_table_of" : PySem.Str), none), 2, false, false⟩, ⟨(("_law_table" : PySem.Str), none), 2, false, false⟩, ⟨(("_law_made" : PySem.Str), none), 1, false, false⟩, ⟨(("_law_splits" : PySem.Str), none), 1, false, false⟩, ⟨(("law" : PySem.Str), none), 1, false, false⟩]
def dfs : List Pm.DefL := dfs_0 ++ dfs_1
def pts_0 : List (Nat × Nat × List Str × List Pm.D) := [(1, 2, [], []), (2, 3, [], []), (0, 1, [], []), (2, 2, [], [.int (1)]), (11, 2, [], []), (17, 2, [], []), (19, 1, [], []), (10, 1, [], []), (22, 2, [], []), (23, 2, [], []), (24, 2, [], []), (21, 2, [], []), (28, 1, [], []), (30, 2, [], []), (29, 2, [], []), (31, 2, [], []), (32, 1, [], []), (27, 1, [], []), (25, 2, [], []), (33, 2, [], []), (12, 3, [], []), (20, 2, [], []), (34, 2, [], []), (36, 1, [], []), (26, 2, [], []), (35, 1, [], []), (18, 1, [], []), (18, 0, [("table" : PySem.Str)], []), (3, 2, [], []), (4, 2, [], [])]
def pts_1 : List (Nat × Nat × List Str × List Pm.D) := [(5, 2, [], []), (6, 2, [], []), (7, 1, [], []), (8, 2, [], []), (9, 2, [], []), (13, 2, [], []), (14, 2, [], []), (15, 1, [], []), (16, 1, [], [])]
def pts : List (Nat × Nat × List Str × List Pm.D) := pts_0 ++ pts_1
def dts_ : List ((Str × Option Str) × Nat) := []
def exs_ : List Pm.ExL := []
def tl : Pm.TL := ⟨nms, cls, dfs, [(("MOST_MEMBERS" : PySem.Str), 5)], exs_, pts, dts_⟩
def loose_0 : List Str := [("_wall" : PySem.Str), ("__name__" : PySem.Str), ("GroupError" : PySem.Str), ("BadTable" : PySem.Str), ("BadRatio" : PySem.Str), ("common" : PySem.Str), ("Ratio" : PySem.Str), ("added" : PySem.Str), ("MOST_MEMBERS" : PySem.Str), ("is_group" : PySem.Str), ("Table" : PySem.Str), ("splits" : PySem.Str), ("best_split" : PySem.Str), ("len_first" : PySem.Str), ("_law_pool" : PySem.Str), ("_law_draw" : PySem.Str), ("_law_same" : PySem.Str), ("_law_less" : PySem.Str), ("_law_plus" : PySem.Str), ("_law_minus" : PySem.Str), ("_law_below" : PySem.Str), ("_law_sum" : PySem.Str), ("_law_groups" : PySem.Str), ("_law_joined" : PySem.Str), ("_law_forest" : PySem.Str), ("_law_family" : PySem.Str), ("_law_amount" : PySem.Str), ("_law_table_of" : PySem.Str), ("_law_table" : PySem.Str), ("_law_made" : PySem.Str), ("_law_splits" : PySem.Str)]
def loose : List Str := loose_0
abbrev R : PySem.W.OpenRow := PySem.W.OpenLaw.row PySem.Challenge.rw_nogroupleaves_k26_best_splits
abbrev hk : PySem.W.Hook := Pm.hookP 5 tl (rows.map (·.d))
def ob (s : PySem.W.SharedT) : Pm.AlP := Pm.obsPG 5 tl (rows.map (·.d)) (HandSHeadRun.getT s)
theorem ob_eq (s : PySem.W.SharedT) : ob s = hk.obs s.abs := Pm.obsPG_eq (HandSHeadRun.getT_eq s)
theorem st_ok : Pm.stB_ tl = true := by kernel_rfl
theorem c0 (K : PySem.W.Frag) : Pm.rowB K tl 0 r_wall = true := by kernel_rfl
theorem c1 (K : PySem.W.Frag) : Pm.rowB K tl 1 r_common = true := by kernel_rfl
theorem c2 (K : PySem.W.Frag) : Pm.rowB K tl 2 r_Ratio_init = true := by kernel_rfl
theorem c3 (K : PySem.W.Frag) : Pm.rowB K tl 3 r_Ratio_eq = true := by kernel_rfl
theorem c4 (K : PySem.W.Frag) : Pm.rowB K tl 4 r_Ratio_add = true := by kernel_rfl
theorem c5 (K : PySem.W.Frag) : Pm.rowB K tl 5 r_Ratio_sub = true := by kernel_rfl
theorem c6 (K : PySem.W.Frag) : Pm.rowB K tl 6 r_Ratio_mul = true := by kernel_rfl
theorem c7 (K : PySem.W.Frag) : Pm.rowB K tl 7 r_Ratio_str = true := by kernel_rfl
theorem c8 (K : PySem.W.Frag) : Pm.rowB K tl 8 r_Ratio_less = true := by kernel_rfl
theorem c9 (K : PySem.W.Frag) : Pm.rowB K tl 9 r_Ratio_over = true := by kernel_rfl
theorem c10 (K : PySem.W.Frag) : Pm.rowB K tl 10 r_added = true := by kernel_rfl
theorem c11 (K : PySem.W.Frag) : Pm.rowB K tl 11 r_is_group = true := by kernel_rfl
theorem c12 (K : PySem.W.Frag) : Pm.rowB K tl 12 r_Table_init = true := by kernel_rfl
theorem c13 (K : PySem.W.Frag) : Pm.rowB K tl 13 r_Table_eq = true := by kernel_rfl
theorem c14 (K : PySem.W.Frag) : Pm.rowB K tl 14 r_Table_earning = true := by kernel_rfl
theorem c15 (K : PySem.W.Frag) : Pm.rowB K tl 15 r_Table_whole = true := by kernel_rfl
theorem c16 (K : PySem.W.Frag) : Pm.rowB K tl 16 r_Table_inner = true := by kernel_rfl
theorem c17 (K : PySem.W.Frag) : Pm.rowB K tl 17 r_splits = true := by kernel_rfl
theorem c18 (K : PySem.W.Frag) : Pm.rowB K tl 18 r_best_split = true := by kernel_rfl
theorem c19 (K : PySem.W.Frag) : Pm.rowB K tl 19 r_len_first = true := by kernel_rfl
theorem c20 (K : PySem.W.Frag) : Pm.rowB K tl 20 r_l_pool = true := by kernel_rfl
theorem c21 (K : PySem.W.Frag) : Pm.rowB K tl 21 r_l_draw = true := by kernel_rfl
theorem c22 (K : PySem.W.Frag) : Pm.rowB K tl 22 r_l_same = true := by kernel_rfl
theorem c23 (K : PySem.W.Frag) : Pm.rowB K tl 23 r_l_less = true := by kernel_rfl
theorem c24 (K : PySem.W.Frag) : Pm.rowB K tl 24 r_l_plus = true := by kernel_rfl
theorem c25 (K : PySem.W.Frag) : Pm.rowB K tl 25 r_l_minus = true := by kernel_rfl
theorem c26 (K : PySem.W.Frag) : Pm.rowB K tl 26 r_l_below = true := by kernel_rfl
theorem c27 (K : PySem.W.Frag) : Pm.rowB K tl 27 r_l_sum = true := by kernel_rfl
theorem c28 (K : PySem.W.Frag) : Pm.rowB K tl 28 r_l_groups = true := by kernel_rfl
theorem c29 (K : PySem.W.Frag) : Pm.rowB K tl 29 r_l_joined = true := by kernel_rfl
theorem c30 (K : PySem.W.Frag) : Pm.rowB K tl 30 r_l_forest = true := by kernel_rfl
theorem c31 (K : PySem.W.Frag) : Pm.rowB K tl 31 r_l_family = true := by kernel_rfl
theorem c32 (K : PySem.W.Frag) : Pm.rowB K tl 32 r_l_amount = true := by kernel_rfl
theorem c33 (K : PySem.W.Frag) : Pm.rowB K tl 33 r_l_table_of = true := by kernel_rfl
theorem c34 (K : PySem.W.Frag) : Pm.rowB K tl 34 r_l_table = true := by kernel_rfl
theorem c35 (K : PySem.W.Frag) : Pm.rowB K tl 35 r_l_made = true := by kernel_rfl
theorem c36 (K : PySem.W.Frag) : Pm.rowB K tl 36 r_l_splits = true := by kernel_rfl
theorem c37 (K : PySem.W.Frag) : Pm.rowB K tl 37 r_law = true := by kernel_rfl
theorem rows_ok (K : PySem.W.Frag) : Pm.rowsB K tl 0 rows = true := by
  show (Pm.rowB K tl 0 r_wall && ( Pm.rowB K tl 1 r_common && ( Pm.rowB K tl 2 r_Ratio_init && ( Pm.rowB K tl 3 r_Ratio_eq && ( Pm.rowB K tl 4 r_Ratio_add && ( Pm.rowB K tl 5 r_Ratio_sub && ( Pm.rowB K tl 6 r_Ratio_mul && ( Pm.rowB K tl 7 r_Ratio_str && ( Pm.rowB K tl 8 r_Ratio_less && ( Pm.rowB K tl 9 r_Ratio_over && ( Pm.rowB K tl 10 r_added && ( Pm.rowB K tl 11 r_is_group && ( Pm.rowB K tl 12 r_Table_init && ( Pm.rowB K tl 13 r_Table_eq && ( Pm.rowB K tl 14 r_Table_earning && ( Pm.rowB K tl 15 r_Table_whole && ( Pm.rowB K tl 16 r_Table_inner && ( Pm.rowB K tl 17 r_splits && ( Pm.rowB K tl 18 r_best_split && ( Pm.rowB K tl 19 r_len_first && ( Pm.rowB K tl 20 r_l_pool && ( Pm.rowB K tl 21 r_l_draw && ( Pm.rowB K tl 22 r_l_same && ( Pm.rowB K tl 23 r_l_less && ( Pm.rowB K tl 24 r_l_plus && ( Pm.rowB K tl 25 r_l_minus && ( Pm.rowB K tl 26 r_l_below && ( Pm.rowB K tl 27 r_l_sum && ( Pm.rowB K tl 28 r_l_groups && ( Pm.rowB K tl 29 r_l_joined && ( Pm.rowB K tl 30 r_l_forest && ( Pm.rowB K tl 31 r_l_family && ( Pm.rowB K tl 32 r_l_amount && ( Pm.rowB K tl 33 r_l_table_of && ( Pm.rowB K tl 34 r_l_table && ( Pm.rowB K tl 35 r_l_made && ( Pm.rowB K tl 36 r_l_splits && ( Pm.rowB K tl 37 r_law && ( true))))))))))))))))))))))))))))))))))))))) = true
  rw [c0, c1, c2, c3, c4, c5, c6, c7, c8, c9, c10, c11, c12, c13, c14, c15, c16, c17, c18, c19, c20, c21, c22, c23, c24, c25, c26, c27, c28, c29, c30, c31, c32, c33, c34, c35, c36, c37]
  rfl
theorem pats_ok {K : PySem.W.Frag} {Df : Pm.Defs} (hk : Pm.txB K tl = true) (d : Pm.DfOk K rows Df) : ∀ p ∈ tl.pats, Pm.PatOk (Pm.zeOf K tl) Df p.1 p.2.1 p.2.2.1 p.2.2.2 := by
  show ∀ p ∈ pts, _
  unfold pts pts_0 pts_1
  intro p hp
  simp only [List.cons_append, List.nil_append, List.mem_cons, List.not_mem_nil, or_false] at hp
  rcases hp with rfl | rfl | rfl | rfl | rfl | rfl | rfl | rfl | rfl | rfl | rfl | rfl | rfl | rfl | rfl | rfl | rfl | rfl | rfl | rfl | rfl | rfl | rfl | rfl | rfl | rfl | rfl | rfl | rfl | rfl | rfl | rfl | rfl | rfl | rfl | rfl | rfl | rfl | rfl
  · exact Pm.pat0 (r := r_common) d rfl rfl rfl (by kernel_rfl) (by kernel_rfl) fun _ _ _ _ _ _ us ws hu hw => match us, ws, hu, hw with | [_, _], [], _, _ => rfl
  · exact Pm.pat1 (r := r_Ratio_init) d 1 rfl (by intro z; cases z) (by kernel_rfl) (fun _ _ => Pm.Rps.nil) (by kernel_rfl) (by kernel_rfl) fun _ _ _ _ _ _ _ us its hu hi => match us, its, hu, hi with | [_, _, _], [_], _, _ => ⟨_, rfl, rfl⟩
  · exact Pm.pat0 (r := r_wall) d rfl rfl rfl (by kernel_rfl) (by kernel_rfl) fun _ _ _ _ _ _ us ws hu hw => match us, ws, hu, hw with | [_], [], _, _ => rfl
  · exact Pm.pat1 (r := r_Ratio_init) d 0 rfl (by intro z; cases z) (by kernel_rfl) (fun _ _ => (.cons (by unfold Pm.Rp; rfl) Pm.Rps.nil)) (by kernel_rfl) (by kernel_rfl) fun _ _ _ _ _ _ _ us its hu hi => match us, its, hu, hi with | [_, _], [_], _, _ => ⟨_, rfl, rfl⟩
  · exact Pm.pat0 (r := r_is_group) d rfl rfl rfl (by kernel_rfl) (by kernel_rfl) fun _ _ _ _ _ _ us ws hu hw => match us, ws, hu, hw with | [_, _], [], _, _ => rfl
  · exact Pm.pat0 (r := r_splits) d rfl rfl rfl (by kernel_rfl) (by kernel_rfl) fun _ _ _ _ _ _ us ws hu hw => match us, ws, hu, hw with | [_, _], [], _, _ => rfl
  · exact Pm.pat0 (r := r_len_first) d rfl rfl rfl (by kernel_rfl) (by kernel_rfl) fun _ _ _ _ _ _ us ws hu hw => match us, ws, hu, hw with | [_], [], _, _ => rfl
  · exact Pm.pat0 (r := r_added) d rfl rfl rfl (by kernel_rfl) (by kernel_rfl) fun _ _ _ _ _ _ us ws hu hw => match us, ws, hu, hw with | [_], [], _, _ => rfl
  · exact Pm.pat0 (r := r_l_same) d rfl rfl rfl (by kernel_rfl) (by kernel_rfl) fun _ _ _ _ _ _ us ws hu hw => match us, ws, hu, hw with | [_, _], [], _, _ => rfl
  · exact Pm.pat0 (r := r_l_less) d rfl rfl rfl (by kernel_rfl) (by kernel_rfl) fun _ _ _ _ _ _ us ws hu hw => match us, ws, hu, hw with | [_, _], [], _, _ => rfl
  · exact Pm.pat0 (r := r_l_plus) d rfl rfl rfl (by kernel_rfl) (by kernel_rfl) fun _ _ _ _ _ _ us ws hu hw => match us, ws, hu, hw with | [_, _], [], _, _ => rfl
  · exact Pm.pat0 (r := r_l_draw) d rfl rfl rfl (by kernel_rfl) (by kernel_rfl) fun _ _ _ _ _ _ us ws hu hw => match us, ws, hu, hw with | [_, _], [], _, _ => rfl
  · exact Pm.pat0 (r := r_l_groups) d rfl rfl rfl (by kernel_rfl) (by kernel_rfl) fun _ _ _ _ _ _ us ws hu hw => match us, ws, hu, hw with | [_], [], _, _ => rfl
  · exact Pm.pat0 (r := r_l_forest) d rfl rfl rfl (by kernel_rfl) (by kernel_rfl) fun _ _ _ _ _ _ us ws hu hw => match us, ws, hu, hw with | [_, _], [], _, _ => rfl
  · exact Pm.pat0 (r := r_l_joined) d rfl rfl rfl (by kernel_rfl) (by kernel_rfl) fun _ _ _ _ _ _ us ws hu hw => match us, ws, hu, hw with | [_, _], [], _, _ => rfl
  · exact Pm.pat0 (r := r_l_family) d rfl rfl rfl (by kernel_rfl) (by kernel_rfl) fun _ _ _ _ _ _ us ws hu hw => match us, ws, hu, hw with | [_, _], [], _, _ => rfl
  · exact Pm.pat0 (r := r_l_amount) d rfl rfl rfl (by kernel_rfl) (by kernel_rfl) fun _ _ _ _ _ _ us ws hu hw => match us, ws, hu, hw with | [_], [], _, _ => rfl
  · exact Pm.pat0 (r := r_l_sum) d rfl rfl rfl (by kernel_rfl) (by kernel_rfl) fun _ _ _ _ _ _ us ws hu hw => match us, ws, hu, hw with | [_], [], _, _ => rfl
  · exact Pm.pat0 (r := r_l_minus) d rfl rfl rfl (by kernel_rfl) (by kernel_rfl) fun _ _ _ _ _ _ us ws hu hw => match us, ws, hu, hw with | [_, _], [], _, _ => rfl
  · exact Pm.pat0 (r := r_l_table_of) d rfl rfl rfl (by kernel_rfl) (by kernel_rfl) fun _ _ _ _ _ _ us ws hu hw => match us, ws, hu, hw with | [_, _], [], _, _ => rfl
  · exact Pm.pat0 (r := r_Table_init) d rfl rfl rfl (by kernel_rfl) (by kernel_rfl) fun _ _ _ _ _ _ us ws hu hw => match us, ws, hu, hw with | [_, _, _], [], _, _ => rfl
  · exact Pm.pat0 (r := r_l_pool) d rfl rfl rfl (by kernel_rfl) (by kernel_rfl) fun _ _ _ _ _ _ us ws hu hw => match us, ws, hu, hw with | [_, _], [], _, _ => rfl
  · exact Pm.pat0 (r := r_l_table) d rfl rfl rfl (by kernel_rfl) (by kernel_rfl) fun _ _ _ _ _ _ us ws hu hw => match us, ws, hu, hw with | [_, _], [], _, _ => rfl
  · exact Pm.pat0 (r := r_l_splits) d rfl rfl rfl (by kernel_rfl) (by kernel_rfl) fun _ _ _ _ _ _ us ws hu hw => match us, ws, hu, hw with | [_], [], _, _ => rfl
  · exact Pm.pat0 (r := r_l_below) d rfl rfl rfl (by kernel_rfl) (by kernel_rfl) fun _ _ _ _ _ _ us ws hu hw => match us, ws, hu, hw with | [_, _], [], _, _ => rfl
  · exact Pm.pat0 (r := r_l_made) d rfl rfl rfl (by kernel_rfl) (by kernel_rfl) fun _ _ _ _ _ _ us ws hu hw => match us, ws, hu, hw with | [_], [], _, _ => rfl
  · exact Pm.pat0 (r := r_best_split) d rfl rfl rfl (by kernel_rfl) (by kernel_rfl) fun _ _ _ _ _ _ us ws hu hw => match us, ws, hu, hw with | [_], [], _, _ => rfl
  · exact Pm.pat0 (r := r_best_split) d rfl rfl rfl (by kernel_rfl) (by kernel_rfl) fun _ _ _ _ _ _ us ws hu hw => match us, ws, hu, hw with | [], [_], _, _ => rfl
  · exact Pm.pat0 (r := r_Ratio_eq) d rfl rfl rfl (by kernel_rfl) (by kernel_rfl) fun _ _ _ _ _ _ us ws hu hw => match us, ws, hu, hw with | [_, _], [], _, _ => rfl
  · exact Pm.pat0 (r := r_Ratio_add) d rfl rfl rfl (by kernel_rfl) (by kernel_rfl) fun _ _ _ _ _ _ us ws hu hw => match us, ws, hu, hw with | [_, _], [], _, _ => rfl
  · exact Pm.pat0 (r := r_Ratio_sub) d rfl rfl rfl (by kernel_rfl) (by kernel_rfl) fun _ _ _ _ _ _ us ws hu hw => match us, ws, hu, hw with | [_, _], [], _, _ => rfl
  · exact Pm.pat0 (r := r_Ratio_mul) d rfl rfl rfl (by kernel_rfl) (by kernel_rfl) fun _ _ _ _ _ _ us ws hu hw => match us, ws, hu, hw with | [_, _], [], _, _ => rfl
  · exact Pm.pat0 (r := r_Ratio_str) d rfl rfl rfl (by kernel_rfl) (by kernel_rfl) fun _ _ _ _ _ _ us ws hu hw => match us, ws, hu, hw with | [_], [], _, _ => rfl
  · exact Pm.pat0 (r := r_Ratio_less) d rfl rfl rfl (by kernel_rfl) (by kernel_rfl) fun _ _ _ _ _ _ us ws hu hw => match us, ws, hu, hw with | [_, _], [], _, _ => rfl
  · exact Pm.pat0 (r := r_Ratio_over) d rfl rfl rfl (by kernel_rfl) (by kernel_rfl) fun _ _ _ _ _ _ us ws hu hw => match us, ws, hu, hw with | [_, _], [], _, _ => rfl
  · exact Pm.pat0 (r := r_Table_eq) d rfl rfl rfl (by kernel_rfl) (by kernel_rfl) fun _ _ _ _ _ _ us ws hu hw => match us, ws, hu, hw with | [_, _], [], _, _ => rfl
  · exact Pm.pat0 (r := r_Table_earning) d rfl rfl rfl (by kernel_rfl) (by kernel_rfl) fun _ _ _ _ _ _ us ws hu hw => match us, ws, hu, hw with | [_, _], [], _, _ => rfl
  · exact Pm.pat0 (r := r_Table_whole) d rfl rfl rfl (by kernel_rfl) (by kernel_rfl) fun _ _ _ _ _ _ us ws hu hw => match us, ws, hu, hw with | [_], [], _, _ => rfl
  · exact Pm.pat0 (r := r_Table_inner) d rfl rfl rfl (by kernel_rfl) (by kernel_rfl) fun _ _ _ _ _ _ us ws hu hw => match us, ws, hu, hw with | [_], [], _, _ => rfl
end Lw
end
section
set_option Elab.async false
set_option linter.all false
set_option maxRecDepth 100000
set_option maxHeartbeats 0
set_option exponentiation.threshold 5000
namespace Lw
open PySem PySem.Spec PyProof.Rows L2
theorem run (w : World) : HandSHeadRun.RunEq R (PySem.W.view R.prog [34]) hk ob 60000 loose w := by
  intro os
  kernel_rfl
end Lw
end
section
set_option Elab.async false
set_option linter.all false
set_option maxRecDepth 100000
set_option maxHeartbeats 4000000
/-! Pl1: the evaluator's equations, as rewrite rules. -/
noncomputable section
namespace Pm
open PySem
theorem call_at {T : Tab} {P : List Fn} {i : Nat} {f : Fn} (h : P[i]? = some f) (fu j : Nat) (xs : List D) (m : Mu) : evP T P fu (j + 1) i xs m = runF T (evP T P fu j) fu f xs m := by
  rw [evP, h]
@[simp] theorem isBor_int (i : Int) : (D.int i).isBor = false := rfl
@[simp] theorem isBor_tup (xs : List D) : (D.tup xs).isBor = false := rfl
@[simp] theorem isBor_lst (xs : List D) : (D.lst xs).isBor = false := rfl
@[simp] theorem isBor_obj (c : Nat) (xs : List D) : (D.obj c xs).isBor = false := rfl
@[simp] theorem isBor_ref (k : Nat) : (D.ref k).isBor = false := rfl
@[simp] theorem isBor_bl (k : Bool) : (D.bl k).isBor = false := rfl
@[simp] theorem isBor_non : D.non.isBor = false := rfl
@[simp] theorem isBor_str (x : Str) : (D.str x).isBor = false := rfl
@[simp] theorem isBor_scr (xs : List D) : (D.scr xs).isBor = false := rfl
@[simp] theorem isBor_bor (xs : List D) : (D.bor xs).isBor = true := rfl
/-! what comes next stands still (simp leaves it alone: a later argument's type names it) until what is ahead of it is known -/
structure Hold {α : Sort _} (a : α) : Type where
def optR {α β : Type} (o : Option α) (f : α → R β) (_ : Hold f := ⟨⟩) : R β := match o with
  | some a => f a
  | none => .bad
def optS {α : Type} (o : Option α) (f : α → RS) (_ : Hold f := ⟨⟩) : RS := match o with
  | some a => f a
  | none => .bad
def R.bindH {α β : Type} (r : R α) (f : α → Mu → R β) (_ : Hold f := ⟨⟩) : R β := r.bind f
def R.toSH {α : Type} (r : R α) (s : List S) (f : α → Mu → RS) (_ : Hold f := ⟨⟩) : RS := r.toS s f
def RS.seqH (r : RS) (f : List S → Mu → RS) (_ : Hold f := ⟨⟩) : RS := r.seq f
def obind {α β : Type} (o : Option α) (f : α → Option β) (_ : Hold f := ⟨⟩) : Option β := o.bind f
section
variable {α β : Type}
@[simp] theorem optR_some (a : α) (f : α → R β) (h : Hold f) : optR (some a) f h = f a := (rfl)
@[simp] theorem optR_none (f : α → R β) (h : Hold f) : optR none f h = .bad := (rfl)
@[simp] theorem optS_some (a : α) (f : α → RS) (h : Hold f) : optS (some a) f h = f a := (rfl)
@[simp] theorem optS_none (f : α → RS) (h : Hold f) : optS none f h = .bad := (rfl)
@[simp] theorem R.bindH_ok (a : α) (m : Mu) (f : α → Mu → R β) (h : Hold f) : (R.ok a m).bindH f h = f a m := (rfl)
@[simp] theorem R.bindH_exc (c : Nat) (p : D) (m : Mu) (f : α → Mu → R β) (h : Hold f) : (R.exc c p m : R α).bindH f h = .exc c p m := (rfl)
@[simp] theorem R.bindH_bad (f : α → Mu → R β) (h : Hold f) : (R.bad : R α).bindH f h = .bad := (rfl)
@[simp] theorem R.toSH_ok (s : List S) (a : α) (m : Mu) (f : α → Mu → RS) (h : Hold f) : (R.ok a m).toSH s f h = f a m := (rfl)
@[simp] theorem R.toSH_exc (s : List S) (c : Nat) (p : D) (m : Mu) (f : α → Mu → RS) (h : Hold f) : (R.exc c p m : R α).toSH s f h = .exc c p s m := (rfl)
@[simp] theorem R.toSH_bad (s : List S) (f : α → Mu → RS) (h : Hold f) : (R.bad : R α).toSH s f h = .bad := (rfl)
@[simp] theorem obind_some (a : α) (f : α → Option β) (h : Hold f) : obind (some a) f h = f a := (rfl)
@[simp] theorem obind_none (f : α → Option β) (h : Hold f) : obind none f h = none := (rfl)
@[simp] theorem RS.seqH_nx (s : List S) (m : Mu) (f : List S → Mu → RS) (h : Hold f) : (RS.nx s m).seqH f h = f s m := (rfl)
@[simp] theorem RS.seqH_rt (d : D) (m : Mu) (f : List S → Mu → RS) (h : Hold f) : (RS.rt d m).seqH f h = .rt d m := (rfl)
@[simp] theorem RS.seqH_bk (s : List S) (m : Mu) (f : List S → Mu → RS) (h : Hold f) : (RS.bk s m).seqH f h = .bk s m := (rfl)
@[simp] theorem RS.seqH_ct (s : List S) (m : Mu) (f : List S → Mu → RS) (h : Hold f) : (RS.ct s m).seqH f h = .ct s m := (rfl)
@[simp] theorem RS.seqH_exc (c : Nat) (p : D) (s : List S) (m : Mu) (f : List S → Mu → RS) (h : Hold f) : (RS.exc c p s m).seqH f h = .exc c p s m := (rfl)
@[simp] theorem RS.seqH_bad (f : List S → Mu → RS) (h : Hold f) : RS.bad.seqH f h = .bad := (rfl)
end
/-- how a def's body ends -/
def fin (fr : Bool) : RS → R D
  | .nx _ m1 => if fr = true then .bad else .ok .non m1
  | .rt d m1 => .ok d m1
  | .exc c p _ m1 => .exc c p m1
  | _ => .bad
@[simp] theorem fin_rt (fr : Bool) (d : D) (m : Mu) : fin fr (.rt d m) = .ok d m := rfl
@[simp] theorem fin_exc (fr : Bool) (c : Nat) (p : D) (s : List S) (m : Mu) : fin fr (.exc c p s m) = .exc c p m := rfl
@[simp] theorem fin_nx (s : List S) (m : Mu) : fin false (.nx s m) = .ok .non m := rfl
theorem runF_eq (T : Tab) (C : CF) (fu : Nat) (f : Fn) (xs : List D) (m : Mu) : runF T C fu f xs m = if xs.length = f.par then fin f.fr (exs T C fu f.body (enter f.siz xs) m) else .bad := by
  unfold runF
  split
  · cases exs T C fu f.body (enter f.siz xs) m <;> rfl
  · rfl
/-- a cell that is a list -/
def celL : Option Cell → Option (List D)
  | some (.lst xs) => some xs
  | _ => none
@[simp] theorem celL_ins (c : Nat) (fs : List (Nat × D)) : celL (some (.ins c fs)) = none := rfl
@[simp] theorem celL_none : celL none = none := rfl
@[simp] theorem celL_lst (xs : List D) : celL (some (.lst xs)) = some xs := rfl
def celI : Option Cell → Option (Nat × List (Nat × D))
  | some (.ins c fs) => some (c, fs)
  | _ => none
@[simp] theorem celI_lst (xs : List D) : celI (some (.lst xs)) = none := rfl
@[simp] theorem celI_none : celI none = none := rfl
@[simp] theorem celI_ins (c : Nat) (fs : List (Nat × D)) : celI (some (.ins c fs)) = some (c, fs) := rfl
def sloO : Option S → Option (List D)
  | some (.own xs) => some xs
  | _ => none
@[simp] theorem sloO_own (xs : List D) : sloO (some (.own xs)) = some xs := rfl
def sloV : Option S → Option D
  | some (.val d) => some d
  | some (.own xs) => some (.bor xs)
  | _ => none
@[simp] theorem sloV_val (d : D) : sloV (some (.val d)) = some d := rfl
@[simp] theorem sloV_own (xs : List D) : sloV (some (.own xs)) = some (.bor xs) := rfl
/-- a bound of a range (its test is by choice: the kernel is not to compute it) -/
def rngOk (j : Int) : Prop := -(2 ^ 62) ≤ j ∧ j < 2 ^ 62
theorem rngOk_nat {n : Nat} (h : n ≤ 100000) : rngOk (n : Int) := by unfold rngOk; omega
@[simp] theorem rngOk_lit (k : Nat) (h : k ≤ 100000) : rngOk (no_index (@OfNat.ofNat Int k instOfNat)) := rngOk_nat h
theorem rngOk_of {j : Int} (h1 : -100000 ≤ j) (h2 : j ≤ 100000) : rngOk j := by unfold rngOk; omega
/-! statements -/
set_option smartUnfolding false
section
variable (T : Tab) (C : CF) (fu : Nat) (s : List S) (m : Mu)
@[simp] theorem exs_nil : exs T C fu .nil s m = .nx s m := by rw [exs]
theorem exs_cons0 (a : IS) (r : ISs) : exs T C fu (.cons a r) s m = (ex T C fu a s m).seq (exs T C fu r) := by rw [exs]
@[simp] theorem exs_cons (a : IS) (r : ISs) : exs T C fu (.cons a r) s m = (ex T C fu a s m).seqH (exs T C fu r) := by apply exs_cons0
theorem ex_asg0 (i : Nat) (e : IE) : ex T C fu (.asg i e) s m = (ev T C e s m).toS s fun d m1 => optS (setV s i d) fun s1 => .nx s1 m1 := by first | (rw [ex]; done) | (rw [ex]; rfl)
@[simp] theorem ex_asg (i : Nat) (e : IE) : ex T C fu (.asg i e) s m = (ev T C e s m).toSH s fun d m1 => optS (setV s i d) fun s1 => .nx s1 m1 := by apply ex_asg0
theorem ex_aso0 (i : Nat) (f : FE) : ex T C fu (.aso i f) s m = (evF T C f s m).toS s fun xs m1 => if i < s.length then .nx (s.set i (.own xs)) m1 else .bad := by rw [ex]
@[simp] theorem ex_aso (i : Nat) (f : FE) : ex T C fu (.aso i f) s m = (evF T C f s m).toSH s fun xs m1 => if i < s.length then .nx (s.set i (.own xs)) m1 else .bad := by apply ex_aso0
theorem ex_par0 (i j : Nat) (a b : IE) : ex T C fu (.par i j a b) s m = (ev T C a s m).toS s fun x m1 => (ev T C b s m1).toS s fun y m2 => optS (setV s i x) fun s1 => optS (setV s1 j y) fun s2 => .nx s2 m2 := by first | (rw [ex]; done) | (rw [ex]; rfl)
@[simp] theorem ex_par (i j : Nat) (a b : IE) : ex T C fu (.par i j a b) s m = (ev T C a s m).toSH s fun x m1 => (ev T C b s m1).toSH s fun y m2 => optS (setV s i x) fun s1 => optS (setV s1 j y) fun s2 => .nx s2 m2 := by apply ex_par0
theorem ex_unp0 (tg : Tg) (e : IE) : ex T C fu (.unp tg e) s m = (ev T C e s m).toS s fun d m1 => optS (setT tg d s) fun s1 => .nx s1 m1 := by first | (rw [ex]; done) | (rw [ex]; rfl)
@[simp] theorem ex_unp (tg : Tg) (e : IE) : ex T C fu (.unp tg e) s m = (ev T C e s m).toSH s fun d m1 => optS (setT tg d s) fun s1 => .nx s1 m1 := by apply ex_unp0
theorem ex_sta0 (a e : IE) (f : Nat) : ex T C fu (.sta a f e) s m = (ev T C e s m).toS s fun d m1 => (ev T C a s m1).toS s fun x m2 => (match x with
    | .ref k => optS (celI m2[k]?) fun p => if d.isBor = false ∧ p.2.length < 900 ∧ (T.fld p.1).contains f = true then .nx s (m2.set k (.ins p.1 (fldPut f d p.2))) else .bad
    | _ => .bad) := by
  rw [ex]
  congr 1; funext d m1; congr 1; funext x m2
  cases x <;> try rfl
  rename_i k
  show (match m2[k]? with | some (.ins c fs) => _ | _ => _) = optS (celI m2[k]?) _
  cases m2[k]? with
  | none => rfl
  | some c => cases c <;> rfl
@[simp] theorem ex_sta (a e : IE) (f : Nat) : ex T C fu (.sta a f e) s m = (ev T C e s m).toSH s fun d m1 => (ev T C a s m1).toSH s fun x m2 => (match x with
    | .ref k => optS (celI m2[k]?) fun p => if d.isBor = false ∧ p.2.length < 900 ∧ (T.fld p.1).contains f = true then .nx s (m2.set k (.ins p.1 (fldPut f d p.2))) else .bad
    | _ => .bad) := by apply ex_sta0
theorem ex_sto0 (i : Nat) (x e : IE) : ex T C fu (.sto i x e) s m = (ev T C e s m).toS s fun d m1 => optS (sloO s[i]?) fun xs => (ev T C x s m1).toS s fun j m2 => (match j with
      | .int j => optS (L2.ixN xs.length j) fun n => if d.isBor then .bad else .nx (s.set i (.own (xs.set n d))) m2
      | _ => .bad) := by
  rw [ex]
  congr 1; funext d m1
  cases s[i]? with
  | none => rfl
  | some c => cases c <;> rfl
@[simp] theorem ex_sto (i : Nat) (x e : IE) : ex T C fu (.sto i x e) s m = (ev T C e s m).toSH s fun d m1 => optS (sloO s[i]?) fun xs => (ev T C x s m1).toSH s fun j m2 => (match j with
      | .int j => optS (L2.ixN xs.length j) fun n => if d.isBor then .bad else .nx (s.set i (.own (xs.set n d))) m2
      | _ => .bad) := by apply ex_sto0
theorem ex_sts0 (a x e : IE) : ex T C fu (.sts a x e) s m = (ev T C e s m).toS s fun d m1 => (ev T C a s m1).toS s fun o m2 => (ev T C x s m2).toS s fun j m3 => (match o, j with
    | .ref k, .int j => optS (celL m3[k]?) fun xs => optS (L2.ixN xs.length j) fun n => if d.isBor then .bad else .nx s (m3.set k (.lst (xs.set n d)))
    | _, _ => .bad) := by
  rw [ex]
  congr 1; funext d m1; congr 1; funext o m2; congr 1; funext j m3
  cases o <;> try rfl
  rename_i k
  cases j <;> try rfl
  dsimp only
  cases m3[k]? with
  | none => rfl
  | some c => cases c <;> rfl
@[simp] theorem ex_sts (a x e : IE) : ex T C fu (.sts a x e) s m = (ev T C e s m).toSH s fun d m1 => (ev T C a s m1).toSH s fun o m2 => (ev T C x s m2).toSH s fun j m3 => (match o, j with
    | .ref k, .int j => optS (celL m3[k]?) fun xs => optS (L2.ixN xs.length j) fun n => if d.isBor then .bad else .nx s (m3.set k (.lst (xs.set n d)))
    | _, _ => .bad) := by apply ex_sts0
theorem ex_aug0 (i : Nat) (o : Bop) (e : IE) : ex T C fu (.aug i o e) s m = (match s[i]? with
    | some (.val (.int x)) => (ev T C e s m).toS s fun d m1 => (match o, d with
      | .add, .int y => .nx (s.set i (.val (.int (x + y)))) m1
      | .sub, .int y => .nx (s.set i (.val (.int (x - y)))) m1
      | _, _ => .bad)
    | _ => .bad) := by first | (rw [ex]; done) | (rw [ex]; rfl)
@[simp] theorem ex_aug (i : Nat) (o : Bop) (e : IE) : ex T C fu (.aug i o e) s m = (match s[i]? with
    | some (.val (.int x)) => (ev T C e s m).toSH s fun d m1 => (match o, d with
      | .add, .int y => .nx (s.set i (.val (.int (x + y)))) m1
      | .sub, .int y => .nx (s.set i (.val (.int (x - y)))) m1
      | _, _ => .bad)
    | _ => .bad) := by apply ex_aug0
theorem ex_app0 (i : Nat) (e : IE) : ex T C fu (.app i e) s m = optS (sloO s[i]?) fun xs => (ev T C e s m).toS s fun d m1 => if d.isBor = false ∧ xs.length < lim then .nx (s.set i (.own (xs ++ [d]))) m1 else .bad := by
  rw [ex]
  cases s[i]? with
  | none => rfl
  | some c => cases c <;> rfl
@[simp] theorem ex_app (i : Nat) (e : IE) : ex T C fu (.app i e) s m = optS (sloO s[i]?) fun xs => (ev T C e s m).toSH s fun d m1 => if d.isBor = false ∧ xs.length < lim then .nx (s.set i (.own (xs ++ [d]))) m1 else .bad := by apply ex_app0
theorem ex_apc0 (a e : IE) : ex T C fu (.apc a e) s m = (ev T C a s m).toS s fun o m1 => (match o with
    | .ref k => optS (celL m1[k]?) fun _ => (ev T C e s m1).toS s fun d m2 => optS (celL m2[k]?) fun xs => if d.isBor = false ∧ xs.length < lim then .nx s (m2.set k (.lst (xs ++ [d]))) else .bad
    | _ => .bad) := by
  rw [ex]
  congr 1; funext o m1
  cases o <;> try rfl
  rename_i k
  dsimp only
  have e2 : ∀ (d : D) (m2 : Mu), (match m2[k]? with
        | some (.lst xs) => if d.isBor = false ∧ xs.length < lim then RS.nx s (m2.set k (.lst (xs ++ [d]))) else .bad
        | _ => .bad) = optS (celL m2[k]?) fun xs => if d.isBor = false ∧ xs.length < lim then .nx s (m2.set k (.lst (xs ++ [d]))) else .bad := fun d m2 => by
    cases m2[k]? with
    | none => rfl
    | some c => cases c <;> rfl
  cases m1[k]? with
  | none => rfl
  | some c =>
    cases c with
    | ins _ _ => rfl
    | dct _ _ => rfl
    | lst xs =>
      show (ev T C e s m1).toS s _ = (ev T C e s m1).toS s _
      congr 1; funext d m2
      exact e2 d m2
@[simp] theorem ex_apc (a e : IE) : ex T C fu (.apc a e) s m = (ev T C a s m).toSH s fun o m1 => (match o with
    | .ref k => optS (celL m1[k]?) fun _ => (ev T C e s m1).toSH s fun d m2 => optS (celL m2[k]?) fun xs => if d.isBor = false ∧ xs.length < lim then .nx s (m2.set k (.lst (xs ++ [d]))) else .bad
    | _ => .bad) := by apply ex_apc0
theorem ex_exd0 (i : Nat) (e : IE) : ex T C fu (.exd i e) s m = optS (sloO s[i]?) fun xs => (ev T C e s m).toS s fun d m1 => (match d with
      | .lst ys => if xs.length + ys.length ≤ lim then .nx (s.set i (.own (xs ++ ys))) m1 else .bad
      | _ => .bad) := by
  rw [ex]
  cases s[i]? with
  | none => rfl
  | some c => cases c <;> rfl
@[simp] theorem ex_exd (i : Nat) (e : IE) : ex T C fu (.exd i e) s m = optS (sloO s[i]?) fun xs => (ev T C e s m).toSH s fun d m1 => (match d with
      | .lst ys => if xs.length + ys.length ≤ lim then .nx (s.set i (.own (xs ++ ys))) m1 else .bad
      | _ => .bad) := by apply ex_exd0
theorem ex_exp0 (e : IE) : ex T C fu (.exp e) s m = (ev T C e s m).toS s fun _ m1 => .nx s m1 := by rw [ex]
@[simp] theorem ex_exp (e : IE) : ex T C fu (.exp e) s m = (ev T C e s m).toSH s fun _ m1 => .nx s m1 := by apply ex_exp0
theorem ex_ret0 (e : IE) : ex T C fu (.ret e) s m = (ev T C e s m).toS s fun d m1 => (match d with
    | .bor xs => .rt (.lst xs) m1
    | d => .rt d m1) := by first | (rw [ex]; done) | (rw [ex]; rfl)
@[simp] theorem ex_ret (e : IE) : ex T C fu (.ret e) s m = (ev T C e s m).toSH s fun d m1 => (match d with
    | .bor xs => .rt (.lst xs) m1
    | d => .rt d m1) := by apply ex_ret0
@[simp] theorem ex_rtn : ex T C fu .rtn s m = .rt .non m := by rw [ex]
theorem ex_rtf0 (f : FE) : ex T C fu (.rtf f) s m = (evF T C f s m).toS s fun xs m1 => .rt (.lst xs) m1 := by rw [ex]
@[simp] theorem ex_rtf (f : FE) : ex T C fu (.rtf f) s m = (evF T C f s m).toSH s fun xs m1 => .rt (.lst xs) m1 := by apply ex_rtf0
theorem ex_ite0 (t : IE) (a b : ISs) : ex T C fu (.ite t a b) s m = (tru T C t s m).toS s fun k m1 => if k = true then exs T C fu a s m1 else exs T C fu b s m1 := by rw [ex]
@[simp] theorem ex_ite (t : IE) (a b : ISs) : ex T C fu (.ite t a b) s m = (tru T C t s m).toSH s fun k m1 => if k = true then exs T C fu a s m1 else exs T C fu b s m1 := by apply ex_ite0
theorem ex_whl (t : IE) (b : ISs) : ex T C fu (.whl t b) s m = loopW (tru T C t) (exs T C fu b) fu s m := by rw [ex]
theorem ex_for0 (tg : Tg) (it : It) (b : ISs) : ex T C fu (.for_ tg it b) s m = (evI T C it s m).toS s fun xs m1 => if xs.2.isSl = false then loopS (xs.2.ok xs.1) (turnS T C fu tg b) xs.1 s m1 else .bad := by
  rw [ex]
  rfl
@[simp] theorem ex_for (tg : Tg) (it : It) (b : ISs) : ex T C fu (.for_ tg it b) s m = (evI T C it s m).toSH s fun xs m1 => if xs.2.isSl = false then loopS (xs.2.ok xs.1) (turnS T C fu tg b) xs.1 s m1 else .bad := by apply ex_for0
@[simp] theorem ex_brk : ex T C fu .brk s m = .bk s m := by rw [ex]
@[simp] theorem ex_cnt : ex T C fu .cnt s m = .ct s m := by rw [ex]
@[simp] theorem ex_pas : ex T C fu .pas s m = .nx s m := by rw [ex]
@[simp] theorem ex_nev : ex T C fu .nev s m = .bad := by rw [ex]
theorem ex_frz0 (i : Nat) : ex T C fu (.frz i) s m = optS (sloO s[i]?) fun xs => .nx (s.set i (.val (.lst xs))) m := by
  rw [ex]
  cases s[i]? with
  | none => rfl
  | some c => cases c <;> rfl
@[simp] theorem ex_frz (i : Nat) : ex T C fu (.frz i) s m = optS (sloO s[i]?) fun xs => .nx (s.set i (.val (.lst xs))) m := by apply ex_frz0
theorem ex_rto0 (i : Nat) : ex T C fu (.rto i) s m = optS (sloO s[i]?) fun xs => .rt (.lst xs) m := by
  rw [ex]
  cases s[i]? with
  | none => rfl
  | some c => cases c <;> rfl
@[simp] theorem ex_rto (i : Nat) : ex T C fu (.rto i) s m = optS (sloO s[i]?) fun xs => .rt (.lst xs) m := by apply ex_rto0
/-! expressions -/
theorem ev_var0 (i : Nat) : ev T C (.var i) s m = optR (sloV s[i]?) fun d => .ok d m := by
  rw [ev]
  cases s[i]? with
  | none => rfl
  | some c => cases c <;> rfl
@[simp] theorem ev_var (i : Nat) : ev T C (.var i) s m = optR (sloV s[i]?) fun d => .ok d m := by apply ev_var0
@[simp] theorem ev_con (d : D) : ev T C (.con d) s m = .ok d m := by rw [ev]
@[simp] theorem ev_glb (g : Nat) : ev T C (.glb g) s m = .ok (T.glb g) m := by rw [ev]
theorem ev_bop0 (o : Bop) (a b : IE) : ev T C (.bop o a b) s m = (ev T C a s m).bind fun x m1 => (ev T C b s m1).bind fun y m2 => bopD T C o x y m2 := by rw [ev]
@[simp] theorem ev_bop (o : Bop) (a b : IE) : ev T C (.bop o a b) s m = (ev T C a s m).bindH fun x m1 => (ev T C b s m1).bindH fun y m2 => bopD T C o x y m2 := by apply ev_bop0
theorem ev_neg0 (a : IE) : ev T C (.neg a) s m = (ev T C a s m).bind fun x m1 => (match x with
    | .int i => .ok (.int (-i)) m1
    | _ => .bad) := by first | (rw [ev]; done) | (rw [ev]; rfl)
@[simp] theorem ev_neg (a : IE) : ev T C (.neg a) s m = (ev T C a s m).bindH fun x m1 => (match x with
    | .int i => .ok (.int (-i)) m1
    | _ => .bad) := by apply ev_neg0
theorem ev_cmp0 (o : Cop) (a b : IE) : ev T C (.cmp o a b) s m = (ev T C a s m).bind fun x m1 => (ev T C b s m1).bind fun y m2 => R.ofB (cmpD T C o x y m2) m2 := by rw [ev]
@[simp] theorem ev_cmp (o : Cop) (a b : IE) : ev T C (.cmp o a b) s m = (ev T C a s m).bindH fun x m1 => (ev T C b s m1).bindH fun y m2 => R.ofB (cmpD T C o x y m2) m2 := by apply ev_cmp0
theorem ev_chn0 (o p : Cop) (a b c : IE) : ev T C (.chn o p a b c) s m = (ev T C a s m).bind fun x m1 => (ev T C b s m1).bind fun y m2 => optR (cmpD T C o x y m2) fun k => if k = true then (ev T C c s m2).bind fun z m3 => R.ofB (cmpD T C p y z m3) m3 else .ok (.bl false) m2 := by
  rw [ev]
  congr 1; funext x m1; congr 1; funext y m2
  cases cmpD T C o x y m2 with
  | none => rfl
  | some k => cases k <;> rfl
@[simp] theorem ev_chn (o p : Cop) (a b c : IE) : ev T C (.chn o p a b c) s m = (ev T C a s m).bindH fun x m1 => (ev T C b s m1).bindH fun y m2 => optR (cmpD T C o x y m2) fun k => if k = true then (ev T C c s m2).bindH fun z m3 => R.ofB (cmpD T C p y z m3) m3 else .ok (.bl false) m2 := by apply ev_chn0
@[simp] theorem ev_bol (k : Bool) (as : IEs) : ev T C (.bol k as) s m = evb T C k as s m := by rw [ev]
theorem ev_not0 (a : IE) : ev T C (.not_ a) s m = (ev T C a s m).bind fun x m1 => optR (truth m1 x) fun k => .ok (.bl (!k)) m1 := by first | (rw [ev]; done) | (rw [ev]; rfl)
@[simp] theorem ev_not (a : IE) : ev T C (.not_ a) s m = (ev T C a s m).bindH fun x m1 => optR (truth m1 x) fun k => .ok (.bl (!k)) m1 := by apply ev_not0
theorem ev_ite0 (t a b : IE) : ev T C (.ite t a b) s m = (ev T C t s m).bind fun x m1 => optR (truth m1 x) fun k => if k = true then ev T C a s m1 else ev T C b s m1 := by
  rw [ev]
  congr 1; funext x m1
  cases truth m1 x with
  | none => rfl
  | some k => cases k <;> rfl
@[simp] theorem ev_ite (t a b : IE) : ev T C (.ite t a b) s m = (ev T C t s m).bindH fun x m1 => optR (truth m1 x) fun k => if k = true then ev T C a s m1 else ev T C b s m1 := by apply ev_ite0
theorem ev_att0 (a : IE) (f : Nat) : ev T C (.att a f) s m = (ev T C a s m).bind fun x m1 => optR (attD T x f m1) fun d => .ok d m1 := by first | (rw [ev]; done) | (rw [ev]; rfl)
@[simp] theorem ev_att (a : IE) (f : Nat) : ev T C (.att a f) s m = (ev T C a s m).bindH fun x m1 => optR (attD T x f m1) fun d => .ok d m1 := by apply ev_att0
theorem ev_sub0 (a i : IE) : ev T C (.sub a i) s m = (ev T C a s m).bind fun x m1 => (ev T C i s m1).bind fun y m2 => optR (subD x y m2) fun d => .ok d m2 := by first | (rw [ev]; done) | (rw [ev]; rfl)
@[simp] theorem ev_sub (a i : IE) : ev T C (.sub a i) s m = (ev T C a s m).bindH fun x m1 => (ev T C i s m1).bindH fun y m2 => optR (subD x y m2) fun d => .ok d m2 := by apply ev_sub0
theorem ev_slc0 (a lo hi : IE) : ev T C (.slc a lo hi) s m = (ev T C a s m).bind fun x m1 => (ev T C lo s m1).bind fun y m2 => optR (partOf y) fun a => (ev T C hi s m2).bind fun z m3 => optR (partOf z) fun b => R.ofO (slcD x a b m3) m3 := by first | (rw [ev]; done) | (rw [ev]; rfl)
@[simp] theorem ev_slc (a lo hi : IE) : ev T C (.slc a lo hi) s m = (ev T C a s m).bindH fun x m1 => (ev T C lo s m1).bindH fun y m2 => optR (partOf y) fun a => (ev T C hi s m2).bindH fun z m3 => optR (partOf z) fun b => R.ofO (slcD x a b m3) m3 := by apply ev_slc0
theorem ev_tup0 (as : IEs) : ev T C (.tup as) s m = (evs T C as s m).bind fun xs m1 => if (xs.all fun x => !x.isBor) = true ∧ xs.length ≤ lim then .ok (.tup xs) m1 else .bad := by rw [ev]
@[simp] theorem ev_tup (as : IEs) : ev T C (.tup as) s m = (evs T C as s m).bindH fun xs m1 => if (xs.all fun x => !x.isBor) = true ∧ xs.length ≤ lim then .ok (.tup xs) m1 else .bad := by apply ev_tup0
theorem ev_call0 (f : Nat) (as ks : IEs) (ds : List D) : ev T C (.call f as ks ds) s m = (evs T C as s m).bind fun xs m1 => (evs T C ks s m1).bind fun ys m2 => if (xs.all fun x => !x.isBor) = true ∧ (ys.all fun x => !x.isBor) = true then C f (xs ++ ys ++ ds) m2 else .bad := by rw [ev]
@[simp] theorem ev_call (f : Nat) (as ks : IEs) (ds : List D) : ev T C (.call f as ks ds) s m = (evs T C as s m).bindH fun xs m1 => (evs T C ks s m1).bindH fun ys m2 => if (xs.all fun x => !x.isBor) = true ∧ (ys.all fun x => !x.isBor) = true then C f (xs ++ ys ++ ds) m2 else .bad := by apply ev_call0
theorem ev_meth0 (a : IE) (n : Nat) (as : IEs) : ev T C (.meth a n as) s m = (ev T C a s m).bind fun x m1 => optR ((clsOf x m1).bind fun c => T.mth c n) fun f => (evs T C as s m1).bind fun xs m2 => if (xs.all fun x => !x.isBor) = true then C f (x :: xs) m2 else .bad := by first | (rw [ev]; done) | (rw [ev]; rfl)
@[simp] theorem ev_meth (a : IE) (n : Nat) (as : IEs) : ev T C (.meth a n as) s m = (ev T C a s m).bindH fun x m1 => optR (obind (clsOf x m1) fun c => T.mth c n) fun f => (evs T C as s m1).bindH fun xs m2 => if (xs.all fun x => !x.isBor) = true then C f (x :: xs) m2 else .bad := by apply ev_meth0
theorem ev_new0 (c : Nat) (as ks : IEs) (ds : List D) : ev T C (.new c as ks ds) s m = (evs T C as s m).bind fun xs m1 => (evs T C ks s m1).bind fun ys m2 => if (xs.all fun x => !x.isBor) = true ∧ (ys.all fun x => !x.isBor) = true then newD T C c (xs ++ ys ++ ds) m2 else .bad := by rw [ev]
@[simp] theorem ev_new (c : Nat) (as ks : IEs) (ds : List D) : ev T C (.new c as ks ds) s m = (evs T C as s m).bindH fun xs m1 => (evs T C ks s m1).bindH fun ys m2 => if (xs.all fun x => !x.isBor) = true ∧ (ys.all fun x => !x.isBor) = true then newD T C c (xs ++ ys ++ ds) m2 else .bad := by apply ev_new0
theorem ev_bif0 (b : Bif) (as : IEs) : ev T C (.bif b as) s m = (evs T C as s m).bind fun xs m1 => bifD T C b xs m1 := by rw [ev]
@[simp] theorem ev_bif (b : Bif) (as : IEs) : ev T C (.bif b as) s m = (evs T C as s m).bindH fun xs m1 => bifD T C b xs m1 := by apply ev_bif0
theorem ev_isi0 (a : IE) (ts : List Ty) : ev T C (.isi a ts) s m = (ev T C a s m).bind fun x m1 => if okVx T x m1 = true then .ok (.bl (isiD m1 x ts)) m1 else .bad := by rw [ev]
@[simp] theorem ev_isi (a : IE) (ts : List Ty) : ev T C (.isi a ts) s m = (ev T C a s m).bindH fun x m1 => if okVx T x m1 = true then .ok (.bl (isiD m1 x ts)) m1 else .bad := by apply ev_isi0
@[simp] theorem ev_fst (as : IEs) : ev T C (.fst as) s m = evf T C as Str.empty s m := by rw [ev]
theorem ev_frz0 (f : FE) : ev T C (.frz f) s m = (evF T C f s m).bind fun xs m1 => .ok (.lst xs) m1 := by rw [ev]
@[simp] theorem ev_frz (f : FE) : ev T C (.frz f) s m = (evF T C f s m).bindH fun xs m1 => .ok (.lst xs) m1 := by apply ev_frz0
theorem ev_cel0 (f : FE) : ev T C (.cel f) s m = (evF T C f s m).bind fun xs m1 => .ok (.ref m1.length) (m1 ++ [.lst xs]) := by rw [ev]
@[simp] theorem ev_cel (f : FE) : ev T C (.cel f) s m = (evF T C f s m).bindH fun xs m1 => .ok (.ref m1.length) (m1 ++ [.lst xs]) := by apply ev_cel0
@[simp] theorem ev_nev : ev T C .nev s m = .bad := by rw [ev]
theorem ev_tpr0 (a : IE) : ev T C (.tpr a) s m = (ev T C a s m).bind fun x m1 => (match x with
    | .int j => if -(2 ^ 62) ≤ j ∧ j < 2 ^ 62 ∧ j.toNat ≤ lim then .ok (.tup (rngD 0 j.toNat)) m1 else .bad
    | _ => .bad) := by first | (rw [ev]; done) | (rw [ev]; rfl)
open Classical in
@[simp] theorem ev_tpr (a : IE) : ev T C (.tpr a) s m = (ev T C a s m).bindH fun x m1 => (match x with
    | .int j => if rngOk j ∧ j.toNat ≤ lim then .ok (.tup (rngD 0 j.toNat)) m1 else .bad
    | _ => .bad) := by
  rw [ev_tpr0]
  show R.bind _ _ = R.bind _ _
  congr 1; funext x m1
  cases x <;> try rfl
  rename_i j
  dsimp only
  by_cases h : (-(2 ^ 62) ≤ j ∧ j < 2 ^ 62) ∧ j.toNat ≤ lim
  · rw [if_pos ⟨h.1.1, h.1.2, h.2⟩, if_pos ⟨show rngOk j from h.1, h.2⟩]
  · rw [if_neg (fun z => h ⟨⟨z.1, z.2.1⟩, z.2.2⟩), if_neg (fun z => h ⟨z.1, z.2⟩)]
@[simp] theorem evs_nil : evs T C .nil s m = .ok [] m := by rw [evs]
theorem evs_cons0 (a : IE) (r : IEs) : evs T C (.cons a r) s m = (ev T C a s m).bind fun x m1 => (evs T C r s m1).bind fun xs m2 => .ok (x :: xs) m2 := by rw [evs]
@[simp] theorem evs_cons (a : IE) (r : IEs) : evs T C (.cons a r) s m = (ev T C a s m).bindH fun x m1 => (evs T C r s m1).bindH fun xs m2 => .ok (x :: xs) m2 := by apply evs_cons0
@[simp] theorem evb_one (k : Bool) (a : IE) : evb T C k (.cons a .nil) s m = ev T C a s m := by rw [evb]
theorem evb_cons0 (k : Bool) (a b : IE) (r : IEs) : evb T C k (.cons a (.cons b r)) s m = (ev T C a s m).bind fun x m1 => optR (truth m1 x) fun t => if t = k then evb T C k (.cons b r) s m1 else .ok x m1 := by first | (rw [evb]; done) | (rw [evb]; rfl)
@[simp] theorem evb_cons (k : Bool) (a b : IE) (r : IEs) : evb T C k (.cons a (.cons b r)) s m = (ev T C a s m).bindH fun x m1 => optR (truth m1 x) fun t => if t = k then evb T C k (.cons b r) s m1 else .ok x m1 := by apply evb_cons0
@[simp] theorem evc_nil : evc T C .nil s m = .ok true m := by rw [evc]
theorem evc_cons0 (a : IE) (r : IEs) : evc T C (.cons a r) s m = (ev T C a s m).bind fun x m1 => optR (truth m1 x) fun k => if k = true then evc T C r s m1 else .ok false m1 := by
  rw [evc]
  congr 1; funext x m1
  cases truth m1 x with
  | none => rfl
  | some k => cases k <;> rfl
@[simp] theorem evc_cons (a : IE) (r : IEs) : evc T C (.cons a r) s m = (ev T C a s m).bindH fun x m1 => optR (truth m1 x) fun k => if k = true then evc T C r s m1 else .ok false m1 := by apply evc_cons0
@[simp] theorem evf_nil (acc : Str) : evf T C .nil acc s m = .ok (.str acc) m := by rw [evf]
theorem evF_lst0 (as : IEs) : evF T C (.lst as) s m = (evs T C as s m).bind fun xs m1 => if (xs.all fun x => !x.isBor) = true ∧ xs.length ≤ lim then .ok xs m1 else .bad := by rw [evF]
@[simp] theorem evF_lst (as : IEs) : evF T C (.lst as) s m = (evs T C as s m).bindH fun xs m1 => if (xs.all fun x => !x.isBor) = true ∧ xs.length ≤ lim then .ok xs m1 else .bad := by apply evF_lst0
theorem evF_lc0 (own : List Nat) (tg : Tg) (it : It) (cs : IEs) (e : IE) : evF T C (.lc own tg it cs e) s m = (evI T C it s m).bind fun xs m1 => if freeS s own = true ∧ xs.1.length ≤ lim then (loopL (xs.2.ok xs.1) (turnL T C own tg cs e s) xs.1 m1).noex else .bad := by
  rw [evF]; rfl
@[simp] theorem evF_lc (own : List Nat) (tg : Tg) (it : It) (cs : IEs) (e : IE) : evF T C (.lc own tg it cs e) s m = (evI T C it s m).bindH fun xs m1 => if freeS s own = true ∧ xs.1.length ≤ lim then (loopL (xs.2.ok xs.1) (turnL T C own tg cs e s) xs.1 m1).noex else .bad := by apply evF_lc0
theorem evF_lis0 (a : IE) : evF T C (.lis a) s m = (ev T C a s m).bind fun x m1 => optR (seqOf m1 x) fun xs => .ok xs m1 := by first | (rw [evF]; done) | (rw [evF]; rfl)
@[simp] theorem evF_lis (a : IE) : evF T C (.lis a) s m = (ev T C a s m).bindH fun x m1 => optR (seqOf m1 x) fun xs => .ok xs m1 := by apply evF_lis0
theorem evF_srt0 (a : IE) : evF T C (.srt a) s m = (ev T C a s m).bind fun x m1 => optR (lstOf m1 x) fun xs => if srtOk xs = true then .ok (srtD xs) m1 else .bad := by first | (rw [evF]; done) | (rw [evF]; rfl)
@[simp] theorem evF_srt (a : IE) : evF T C (.srt a) s m = (ev T C a s m).bindH fun x m1 => optR (lstOf m1 x) fun xs => if srtOk xs = true then .ok (srtD xs) m1 else .bad := by apply evF_srt0
theorem evF_cut0 (a lo hi : IE) : evF T C (.cut a lo hi) s m = (ev T C a s m).bind fun x m1 => (ev T C lo s m1).bind fun y m2 => optR (partOf y) fun a => (ev T C hi s m2).bind fun z m3 => optR (partOf z) fun b => R.ofO ((lstT m3 x).map fun xs => cutD xs a b) m3 := by first | (rw [evF]; done) | (rw [evF]; rfl)
@[simp] theorem evF_cut (a lo hi : IE) : evF T C (.cut a lo hi) s m = (ev T C a s m).bindH fun x m1 => (ev T C lo s m1).bindH fun y m2 => optR (partOf y) fun a => (ev T C hi s m2).bindH fun z m3 => optR (partOf z) fun b => R.ofO ((lstT m3 x).map fun xs => cutD xs a b) m3 := by apply evF_cut0
theorem evF_cat0 (a b : IE) : evF T C (.cat a b) s m = (ev T C a s m).bind fun x m1 => (ev T C b s m1).bind fun y m2 => optR (lstT m2 x) fun xs => optR (lstT m2 y) fun ys => if xs.length + ys.length ≤ lim then .ok (xs ++ ys) m2 else .bad := by
  rw [evF]
  congr 1; funext x m1; congr 1; funext y m2
  cases lstT m2 x with
  | none => rfl
  | some xs => cases lstT m2 y <;> rfl
@[simp] theorem evF_cat (a b : IE) : evF T C (.cat a b) s m = (ev T C a s m).bindH fun x m1 => (ev T C b s m1).bindH fun y m2 => optR (lstT m2 x) fun xs => optR (lstT m2 y) fun ys => if xs.length + ys.length ≤ lim then .ok (xs ++ ys) m2 else .bad := by apply evF_cat0
theorem evF_cal0 (f : Nat) (as ks : IEs) (ds : List D) : evF T C (.cal f as ks ds) s m = (evs T C as s m).bind fun xs m1 => (evs T C ks s m1).bind fun ys m2 => if (xs.all fun x => !x.isBor) = true ∧ (ys.all fun x => !x.isBor) = true then (C f (xs ++ ys ++ ds) m2).bind fun d m3 => (match d with
      | .lst zs => .ok zs m3
      | _ => .bad) else .bad := by first | (rw [evF]; done) | (rw [evF]; rfl)
@[simp] theorem evF_cal (f : Nat) (as ks : IEs) (ds : List D) : evF T C (.cal f as ks ds) s m = (evs T C as s m).bindH fun xs m1 => (evs T C ks s m1).bindH fun ys m2 => if (xs.all fun x => !x.isBor) = true ∧ (ys.all fun x => !x.isBor) = true then (C f (xs ++ ys ++ ds) m2).bindH fun d m3 => (match d with
      | .lst zs => .ok zs m3
      | _ => .bad) else .bad := by apply evF_cal0
theorem evF_lrg0 (a : IE) : evF T C (.lrg a) s m = (ev T C a s m).bind fun x m1 => (match x with
    | .int j => if -(2 ^ 62) ≤ j ∧ j < 2 ^ 62 ∧ j.toNat ≤ lim then .ok (rngD 0 j.toNat) m1 else .bad
    | _ => .bad) := by first | (rw [evF]; done) | (rw [evF]; rfl)
open Classical in
@[simp] theorem evF_lrg (a : IE) : evF T C (.lrg a) s m = (ev T C a s m).bindH fun x m1 => (match x with
    | .int j => if rngOk j ∧ j.toNat ≤ lim then .ok (rngD 0 j.toNat) m1 else .bad
    | _ => .bad) := by
  rw [evF_lrg0]
  show R.bind _ _ = R.bind _ _
  congr 1; funext x m1
  cases x <;> try rfl
  rename_i j
  dsimp only
  by_cases h : (-(2 ^ 62) ≤ j ∧ j < 2 ^ 62) ∧ j.toNat ≤ lim
  · rw [if_pos ⟨h.1.1, h.1.2, h.2⟩, if_pos ⟨show rngOk j from h.1, h.2⟩]
  · rw [if_neg (fun z => h ⟨⟨z.1, z.2.1⟩, z.2.2⟩), if_neg (fun z => h ⟨z.1, z.2⟩)]
theorem evI_exp0 (a : IE) : evI T C (.exp a) s m = (ev T C a s m).bind fun x m1 => (match x with
    | .lst xs => .ok (xs, .fr) m1
    | .tup xs => .ok (xs, .fr) m1
    | .bor xs => .ok (xs, .sl) m1
    | .scr xs => .ok (xs, .fr) m1
    | .ref k => optR (celL m1[k]?) fun xs => .ok (xs, .ce k) m1
    | _ => .bad) := by
  rw [evI]
  congr 1; funext x m1
  cases x <;> try rfl
  rename_i k
  dsimp only
  cases m1[k]? with
  | none => rfl
  | some c => cases c <;> rfl
@[simp] theorem evI_exp (a : IE) : evI T C (.exp a) s m = (ev T C a s m).bindH fun x m1 => (match x with
    | .lst xs => .ok (xs, .fr) m1
    | .tup xs => .ok (xs, .fr) m1
    | .bor xs => .ok (xs, .sl) m1
    | .scr xs => .ok (xs, .fr) m1
    | .ref k => optR (celL m1[k]?) fun xs => .ok (xs, .ce k) m1
    | _ => .bad) := by apply evI_exp0
theorem evI_rng0 (a : IE) : evI T C (.rng a) s m = (ev T C a s m).bind fun x m1 => (match x with
    | .int j => if -(2 ^ 62) ≤ j ∧ j < 2 ^ 62 then .ok (rngD 0 j.toNat, .fr) m1 else .bad
    | _ => .bad) := by first | (rw [evI]; done) | (rw [evI]; rfl)
open Classical in
@[simp] theorem evI_rng (a : IE) : evI T C (.rng a) s m = (ev T C a s m).bindH fun x m1 => (match x with
    | .int j => if rngOk j then .ok (rngD 0 j.toNat, .fr) m1 else .bad
    | _ => .bad) := by
  rw [evI_rng0]
  show R.bind _ _ = R.bind _ _
  congr 1; funext x m1
  cases x <;> try rfl
  rename_i j
  dsimp only
  by_cases h : -(2 ^ 62) ≤ j ∧ j < 2 ^ 62
  · rw [if_pos h, if_pos (show rngOk j from h)]
  · rw [if_neg h, if_neg (show ¬ rngOk j from h)]
theorem evI_rng20 (a b : IE) : evI T C (.rng2 a b) s m = (ev T C a s m).bind fun x m1 => (ev T C b s m1).bind fun y m2 => (match x, y with
    | .int i, .int j => if -(2 ^ 62) ≤ i ∧ i < 2 ^ 62 ∧ -(2 ^ 62) ≤ j ∧ j < 2 ^ 62 then .ok (rngD i (j - i).toNat, .fr) m2 else .bad
    | _, _ => .bad) := by first | (rw [evI]; done) | (rw [evI]; rfl)
open Classical in
@[simp] theorem evI_rng2 (a b : IE) : evI T C (.rng2 a b) s m = (ev T C a s m).bindH fun x m1 => (ev T C b s m1).bindH fun y m2 => (match x, y with
    | .int i, .int j => if rngOk i ∧ rngOk j then .ok (rngD i (j - i).toNat, .fr) m2 else .bad
    | _, _ => .bad) := by
  rw [evI_rng20]
  show R.bind _ _ = R.bind _ _
  congr 1; funext x m1
  show R.bind _ _ = R.bind _ _
  congr 1; funext y m2
  cases x <;> try rfl
  cases y <;> try rfl
  rename_i i j
  dsimp only
  by_cases h : (-(2 ^ 62) ≤ i ∧ i < 2 ^ 62) ∧ -(2 ^ 62) ≤ j ∧ j < 2 ^ 62
  · rw [if_pos ⟨h.1.1, h.1.2, h.2.1, h.2.2⟩, if_pos (show rngOk i ∧ rngOk j from h)]
  · rw [if_neg (fun z => h ⟨⟨z.1, z.2.1⟩, z.2.2⟩), if_neg (show ¬ (rngOk i ∧ rngOk j) from h)]
theorem evI_zip0 (a b : IE) : evI T C (.zip a b) s m = (ev T C a s m).bind fun x m1 => (ev T C b s m1).bind fun y m2 => (match x, y with
    | .lst xs, .lst ys => .ok (zipD xs ys, .fr) m2
    | .tup xs, .tup ys => .ok (zipD xs ys, .fr) m2
    | _, _ => .bad) := by first | (rw [evI]; done) | (rw [evI]; rfl)
@[simp] theorem evI_zip (a b : IE) : evI T C (.zip a b) s m = (ev T C a s m).bindH fun x m1 => (ev T C b s m1).bindH fun y m2 => (match x, y with
    | .lst xs, .lst ys => .ok (zipD xs ys, .fr) m2
    | .tup xs, .tup ys => .ok (zipD xs ys, .fr) m2
    | _, _ => .bad) := by apply evI_zip0
theorem evI_enu0 (a : IE) : evI T C (.enu a) s m = (ev T C a s m).bind fun x m1 => (match x with
    | .lst xs => .ok (enuD 0 xs, .fr) m1
    | .ref k => optR (celL m1[k]?) fun xs => .ok (enuD 0 xs, .en k xs) m1
    | _ => .bad) := by
  rw [evI]
  congr 1; funext x m1
  cases x <;> try rfl
  rename_i k
  dsimp only
  cases m1[k]? with
  | none => rfl
  | some c => cases c <;> rfl
@[simp] theorem evI_enu (a : IE) : evI T C (.enu a) s m = (ev T C a s m).bindH fun x m1 => (match x with
    | .lst xs => .ok (enuD 0 xs, .fr) m1
    | .ref k => optR (celL m1[k]?) fun xs => .ok (enuD 0 xs, .en k xs) m1
    | _ => .bad) := by apply evI_enu0
end
section
variable (T : Tab) (C : CF) (fu : Nat) (s : List S) (m : Mu)
theorem tru_eq0 (t : IE) : tru T C t s m = (ev T C t s m).bind fun x m1 => optR (truth m1 x) fun k => .ok k m1 := (rfl)
@[simp] theorem tru_eq (t : IE) : tru T C t s m = (ev T C t s m).bindH fun x m1 => optR (truth m1 x) fun k => .ok k m1 := by apply tru_eq0
@[simp] theorem setV_eq (i : Nat) (d : D) : setV s i d = if d.isBor ∨ s.length ≤ i then none else some (s.set i (.val d)) := (rfl)
@[simp] theorem setT_nam (i : Nat) (d : D) : setT (.nam i) d s = if d.isBor ∨ s.length ≤ i then none else some (s.set i (.val d)) := by rw [setT]
@[simp] theorem setT_tup (ts : List Tg) (xs : List D) : setT (.tup ts) (.tup xs) s = setTs ts xs s := by rw [setT]
@[simp] theorem setTs_nil : setTs [] [] s = some s := by rw [setTs]
theorem setTs_cons0 (t : Tg) (ts : List Tg) (x : D) (xs : List D) : setTs (t :: ts) (x :: xs) s = (setT t x s).bind fun s1 => setTs ts xs s1 := by rw [setTs]
@[simp] theorem setTs_cons (t : Tg) (ts : List Tg) (x : D) (xs : List D) : setTs (t :: ts) (x :: xs) s = obind (setT t x s) fun s1 => setTs ts xs s1 := by apply setTs_cons0
@[simp] theorem wipeS_nil : wipeS s [] = s := by rw [wipeS]
@[simp] theorem wipeS_cons (v : Nat) (vs : List Nat) : wipeS s (v :: vs) = (wipeS s vs).set v .emp := by rw [wipeS]
@[simp] theorem freeS_nil : freeS s [] = true := (rfl)
@[simp] theorem freeS_cons (v : Nat) (vs : List Nat) : freeS s (v :: vs) = ((match s[v]? with
  | some (.own _) => false
  | some _ => true
  | none => false) && freeS s vs) := (rfl)
@[simp] theorem ofB_some (b : Bool) : R.ofB (some b) m = .ok (.bl b) m := (rfl)
@[simp] theorem ofB_none : R.ofB none m = .bad := (rfl)
@[simp] theorem ofO_some {α : Type} (b : α) : R.ofO (some b) m = .ok b m := (rfl)
@[simp] theorem ofO_none {α : Type} : (R.ofO none m : R α) = .bad := (rfl)
@[simp] theorem cmpD_eq (x y : D) : cmpD T C .eq x y m = eqD T C m x y := (rfl)
@[simp] theorem cmpD_ne (x y : D) : cmpD T C .ne x y m = neT (neD m x y) (neO T C m x y) := (rfl)
@[simp] theorem cmpD_lt (x y : D) : cmpD T C .lt x y m = ltD x y := (rfl)
@[simp] theorem cmpD_gt (x y : D) : cmpD T C .gt x y m = gtD x y := (rfl)
@[simp] theorem cmpD_le (x y : D) : cmpD T C .le x y m = leD x y := (rfl)
@[simp] theorem cmpD_ge (x y : D) : cmpD T C .ge x y m = leD y x := (rfl)
@[simp] theorem cmpD_isin (x y : D) : cmpD T C .isin x y m = inD m x y := (rfl)
@[simp] theorem cmpD_nin (x y : D) : cmpD T C .nin x y m = (inD m x y).map (!·) := (rfl)
@[simp] theorem cmpD_is (x y : D) : cmpD T C .is_ x y m = if isNon y then some (isNon x) else none := (rfl)
@[simp] theorem cmpD_isn (x y : D) : cmpD T C .isn x y m = if isNon y then some (!isNon x) else none := (rfl)
@[simp] theorem isNon_non : isNon .non = true := (rfl)
@[simp] theorem isNon_int (i : Int) : isNon (.int i) = false := (rfl)
@[simp] theorem isNon_tup (xs : List D) : isNon (.tup xs) = false := (rfl)
@[simp] theorem isNon_lst (xs : List D) : isNon (.lst xs) = false := (rfl)
@[simp] theorem isNon_obj (c : Nat) (xs : List D) : isNon (.obj c xs) = false := (rfl)
@[simp] theorem isNon_str (x : Str) : isNon (.str x) = false := (rfl)
@[simp] theorem isNon_ref (k : Nat) : isNon (.ref k) = false := (rfl)
@[simp] theorem isNon_bl (k : Bool) : isNon (.bl k) = false := (rfl)
@[simp] theorem ltD_int (i j : Int) : ltD (.int i) (.int j) = some (decide (i < j)) := (rfl)
@[simp] theorem gtD_int (i j : Int) : gtD (.int i) (.int j) = some (decide (j < i)) := (rfl)
@[simp] theorem leD_int (i j : Int) : leD (.int i) (.int j) = some (decide (i ≤ j)) := (rfl)
@[simp] theorem truth_non : truth m .non = some false := (rfl)
@[simp] theorem truth_bl (b : Bool) : truth m (.bl b) = some b := (rfl)
@[simp] theorem truth_int (i : Int) : truth m (.int i) = some (i != 0) := (rfl)
@[simp] theorem truth_tup (xs : List D) : truth m (.tup xs) = some (!xs.isEmpty) := (rfl)
@[simp] theorem truth_lst (xs : List D) : truth m (.lst xs) = some (!xs.isEmpty) := (rfl)
@[simp] theorem truth_bor (xs : List D) : truth m (.bor xs) = some (!xs.isEmpty) := (rfl)
@[simp] theorem truth_scr (xs : List D) : truth m (.scr xs) = some (!xs.isEmpty) := (rfl)
@[simp] theorem truth_ref (k : Nat) : truth m (.ref k) = (lstOf m (.ref k)).map fun xs => !xs.isEmpty := (rfl)
@[simp] theorem lstOf_lst (xs : List D) : lstOf m (.lst xs) = some xs := (rfl)
@[simp] theorem lstOf_bor (xs : List D) : lstOf m (.bor xs) = some xs := (rfl)
@[simp] theorem lstOf_scr (xs : List D) : lstOf m (.scr xs) = some xs := (rfl)
@[simp] theorem lstOf_tup (xs : List D) : lstOf m (.tup xs) = none := (rfl)
@[simp] theorem lstOf_int (i : Int) : lstOf m (.int i) = none := (rfl)
@[simp] theorem lstOf_non : lstOf m .non = none := (rfl)
@[simp] theorem lstOf_bl (b : Bool) : lstOf m (.bl b) = none := (rfl)
@[simp] theorem lstOf_str (x : Str) : lstOf m (.str x) = none := (rfl)
@[simp] theorem lstOf_obj (c : Nat) (xs : List D) : lstOf m (.obj c xs) = none := (rfl)
@[simp] theorem lstOf_ref (k : Nat) : lstOf m (.ref k) = celL m[k]? := by
  show (match m[k]? with | some (.lst xs) => some xs | _ => none) = _
  cases m[k]? with
  | none => rfl
  | some c => cases c <;> rfl
@[simp] theorem lstT_lst (xs : List D) : lstT m (.lst xs) = some xs := (rfl)
@[simp] theorem lstT_bor (xs : List D) : lstT m (.bor xs) = some xs := (rfl)
@[simp] theorem lstT_tup (xs : List D) : lstT m (.tup xs) = none := (rfl)
@[simp] theorem lstT_ref (k : Nat) : lstT m (.ref k) = lstOf m (.ref k) := (rfl)
@[simp] theorem seqOf_tup (xs : List D) : seqOf m (.tup xs) = some xs := (rfl)
@[simp] theorem seqOf_lst (xs : List D) : seqOf m (.lst xs) = some xs := (rfl)
@[simp] theorem seqOf_bor (xs : List D) : seqOf m (.bor xs) = some xs := (rfl)
@[simp] theorem seqOf_scr (xs : List D) : seqOf m (.scr xs) = some xs := (rfl)
@[simp] theorem seqOf_ref (k : Nat) : seqOf m (.ref k) = lstOf m (.ref k) := (rfl)
@[simp] theorem clsOf_obj (c : Nat) (xs : List D) : clsOf (.obj c xs) m = some c := (rfl)
@[simp] theorem clsOf_ref (k : Nat) : clsOf (.ref k) m = (celI m[k]?).map (·.1) := by
  show (match m[k]? with | some (.ins c _) => some c | _ => none) = _
  cases m[k]? with
  | none => rfl
  | some c => cases c <;> rfl
@[simp] theorem clsOf_int (i : Int) : clsOf (.int i) m = none := (rfl)
@[simp] theorem clsOf_bl (i : Bool) : clsOf (.bl i) m = none := (rfl)
@[simp] theorem clsOf_non : clsOf .non m = none := (rfl)
@[simp] theorem clsOf_tup (xs : List D) : clsOf (.tup xs) m = none := (rfl)
@[simp] theorem clsOf_lst (xs : List D) : clsOf (.lst xs) m = none := (rfl)
@[simp] theorem clsOf_str (x : Str) : clsOf (.str x) m = none := (rfl)
@[simp] theorem partOf_non : partOf .non = some none := (rfl)
@[simp] theorem partOf_int (i : Int) : partOf (.int i) = some (some i) := (rfl)
@[simp] theorem isSl_fr : Kd.isSl .fr = false := (rfl)
@[simp] theorem isSl_ce (k : Nat) : Kd.isSl (.ce k) = false := (rfl)
@[simp] theorem bop_add_int (i j : Int) : bopD T C .add (.int i) (.int j) m = .ok (.int (i + j)) m := (rfl)
@[simp] theorem bop_sub_int (i j : Int) : bopD T C .sub (.int i) (.int j) m = .ok (.int (i - j)) m := (rfl)
@[simp] theorem bop_mul_int (i j : Int) : bopD T C .mul (.int i) (.int j) m = if i.natAbs.log2 + j.natAbs.log2 < 1000000 then .ok (.int (i * j)) m else .bad := (rfl)
@[simp] theorem bop_fdv_int (i j : Int) : bopD T C .fdv (.int i) (.int j) m = if 0 < j ∧ j.natAbs.log2 < 9000 then .ok (.int (i / j)) m else .bad := (rfl)
@[simp] theorem bop_mod_int (i j : Int) : bopD T C .mod (.int i) (.int j) m = if 0 < j then .ok (.int (i % j)) m else .bad := (rfl)
@[simp] theorem bop_pow_int (i j : Int) : bopD T C .pow (.int i) (.int j) m = if 0 ≤ j ∧ j ≤ 1000000 ∧ i.natAbs < 2 ^ 64 then .ok (.int (i ^ j.toNat)) m else .bad := (rfl)
@[simp] theorem bop_add_tup (a b : List D) : bopD T C .add (.tup a) (.tup b) m = if a.length + b.length ≤ lim then .ok (.tup (a ++ b)) m else .bad := by
  show (if Bop.add = .add ∧ a.length + b.length ≤ lim then _ else _) = _
  simp
@[simp] theorem bop_mul_tup (a : List D) (j : Int) : bopD T C .mul (.tup a) (.int j) m = if 0 ≤ j ∧ j ≤ 1000 ∧ a.length ≤ 1000 then .ok (.tup (List.replicate j.toNat a).flatten) m else .bad := by
  show (if Bop.mul = .mul ∧ 0 ≤ j ∧ j ≤ 1000 ∧ a.length ≤ 1000 then _ else _) = _
  simp
@[simp] theorem bop_add_lst (a b : List D) : bopD T C .add (.lst a) (.lst b) m = if a.length + b.length ≤ lim then .ok (.lst (a ++ b)) m else .bad := (rfl)
@[simp] theorem bif_abs (i : Int) : bifD T C .abs [.int i] m = .ok (.int (i.natAbs : Int)) m := by
  show R.ok (D.int (if i < 0 then -i else i)) m = _
  have : (if i < 0 then -i else i) = (i.natAbs : Int) := by split <;> omega
  rw [this]
@[simp] theorem bif_int (i : Int) : bifD T C .int [.int i] m = .ok (.int i) m := (rfl)
@[simp] theorem bif_intb (b : Bool) : bifD T C .int [.bl b] m = .ok (.int (if b then 1 else 0)) m := (rfl)
@[simp] theorem bif_min (i j : Int) : bifD T C .min2 [.int i, .int j] m = .ok (.int (if j < i then j else i)) m := (rfl)
@[simp] theorem bif_len_lst (xs : List D) : bifD T C .len [.lst xs] m = .ok (.int xs.length) m := (rfl)
@[simp] theorem bif_len_bor (xs : List D) : bifD T C .len [.bor xs] m = .ok (.int xs.length) m := (rfl)
@[simp] theorem bif_len_scr (xs : List D) : bifD T C .len [.scr xs] m = .ok (.int xs.length) m := (rfl)
@[simp] theorem bif_len_tup (xs : List D) : bifD T C .len [.tup xs] m = .ok (.int xs.length) m := (rfl)
theorem bif_len_ref0 (k : Nat) : bifD T C .len [.ref k] m = optR (lstOf m (.ref k)) fun ys => .ok (.int ys.length) m := (rfl)
@[simp] theorem bif_len_ref (k : Nat) : bifD T C .len [.ref k] m = optR (lstOf m (.ref k)) fun ys => .ok (.int ys.length) m := by apply bif_len_ref0
@[simp] theorem bif_tuple_tup (xs : List D) : bifD T C .tuple [.tup xs] m = .ok (.tup xs) m := (rfl)
@[simp] theorem bif_tuple_lst (xs : List D) : bifD T C .tuple [.lst xs] m = .ok (.tup xs) m := (rfl)
@[simp] theorem bif_tuple_bor (xs : List D) : bifD T C .tuple [.bor xs] m = .ok (.tup xs) m := (rfl)
@[simp] theorem bif_str (x : D) : bifD T C .str [x] m = strD T C x m := (rfl)
@[simp] theorem bls_map {α : Type} (l : List α) (p : α → Bool) : blsOf (l.map fun a => D.bl (p a)) = some (l.map p) := by
  induction l with
  | nil => rfl
  | cons a l ih => rw [List.map_cons, blsOf, ih]; rfl
@[simp] theorem bif_all_map {α : Type} (l : List α) (p : α → Bool) : bifD T C .all [.lst (l.map fun a => D.bl (p a))] m = .ok (.bl (l.all p)) m := by
  show (match (lstOf m (.lst (l.map fun a => D.bl (p a)))).bind blsOf with | some ys => R.ok (D.bl (ys.all id)) m | none => .bad) = _
  rw [lstOf_lst, Option.bind_some, bls_map]
  simp [List.all_map, Function.comp_def]
@[simp] theorem bif_any_map {α : Type} (l : List α) (p : α → Bool) : bifD T C .any [.lst (l.map fun a => D.bl (p a))] m = .ok (.bl (l.any p)) m := by
  show (match (lstOf m (.lst (l.map fun a => D.bl (p a)))).bind blsOf with | some ys => R.ok (D.bl (ys.any id)) m | none => .bad) = _
  rw [lstOf_lst, Option.bind_some, bls_map]
  simp [List.any_map, Function.comp_def]
theorem enter_eq (n : Nat) (xs : List D) : enter n xs = xs.map .val ++ List.replicate (n - xs.length) .emp := (rfl)
theorem turnL_eq (own : List Nat) (tg : Tg) (cs : IEs) (e : IE) (x : D) : turnL T C own tg cs e s x m = optR (setT tg x (wipeS s own)) fun s1 => (evc T C cs s1 m).bindH fun b m3 => if b = true then (ev T C e s1 m3).bindH fun y m4 => if y.isBor then .bad else .ok (some y) m4 else .ok none m3 := (rfl)
theorem turnS_eq (tg : Tg) (b : ISs) (x : D) : turnS T C fu tg b x s m = optS (setT tg x s) fun s2 => exs T C fu b s2 m := (rfl)
set_option smartUnfolding true
/-! indices -/
@[simp] theorem atI_nat {α : Type} (xs : List α) (i : Nat) : L2.atI xs (i : Int) = xs[i]? := by
  unfold L2.atI L2.ixN
  by_cases h : i < xs.length
  · simp [h]
  · simp [h]
@[simp] theorem atI_lit {α : Type} (xs : List α) (k : Nat) : L2.atI xs (no_index (@OfNat.ofNat Int k instOfNat)) = xs[k]? := atI_nat xs k
@[simp] theorem ixN_lit (n k : Nat) : L2.ixN n (no_index (@OfNat.ofNat Int k instOfNat)) = if k < n then some k else none := by
  show L2.ixN n ((k : Nat) : Int) = _
  unfold L2.ixN
  by_cases h : k < n
  · simp [h]
  · simp [h]
/-- a body's first statement, the others -/
def hdS : ISs → IS
  | .cons a _ => a
  | .nil => .pas
def tlS : ISs → ISs
  | .cons _ r => r
  | .nil => .nil
theorem exs_hd {b : ISs} (h : b = .cons (hdS b) (tlS b)) : exs T C fu b s m = (ex T C fu (hdS b) s m).seqH (exs T C fu (tlS b)) := by
  have := exs_cons T C fu s m (hdS b) (tlS b)
  rw [← h] at this
  exact this
@[simp] theorem subD_tup (xs : List D) (i : Int) : subD (.tup xs) (.int i) m = L2.atI xs i := (rfl)
@[simp] theorem subD_lst (xs : List D) (i : Int) : subD (.lst xs) (.int i) m = L2.atI xs i := (rfl)
@[simp] theorem subD_bor (xs : List D) (i : Int) : subD (.bor xs) (.int i) m = L2.atI xs i := (rfl)
@[simp] theorem subD_scr (xs : List D) (i : Int) : subD (.scr xs) (.int i) m = L2.atI xs i := (rfl)
@[simp] theorem subD_ref (k : Nat) (i : Int) : subD (.ref k) (.int i) m = obind (lstOf m (.ref k)) fun xs => L2.atI xs i := (rfl)
theorem ixN_nat (n i : Nat) (h : i < n) : L2.ixN n (i : Int) = some i := by
  unfold L2.ixN
  simp [h]
/-! equality -/
@[simp] theorem eqD_int (i j : Int) : eqD T C m (.int i) (.int j) = some (decide (i = j)) := by
  unfold eqD
  rw [if_pos (by simp [isBl, sca])]
  congr 1
  rw [Bool.eq_iff_iff, eqd_iff]
  simp
@[simp] theorem neD_int (i j : Int) : neD m (.int i) (.int j) = some (!decide (i = j)) := by
  unfold neD
  rw [if_pos (by simp [isBl, sca])]
  congr 2
  rw [Bool.eq_iff_iff, eqd_iff]
  simp
@[simp] theorem eqD_str (i j : Str) : eqD T C m (.str i) (.str j) = some (decide (i = j)) := by
  unfold eqD
  rw [if_pos (by simp [isBl, sca])]
  congr 1
  rw [Bool.eq_iff_iff, eqd_iff]
  simp
@[simp] theorem eqD_bl (i j : Bool) : eqD T C m (.bl i) (.bl j) = some (decide (i = j)) := by
  unfold eqD
  rw [if_pos (by simp [isBl, sca])]
  congr 1
  rw [Bool.eq_iff_iff, eqd_iff]
  simp
end
end Pm
end
end
section
set_option Elab.async false
set_option linter.all false
set_option maxRecDepth 100000
set_option maxHeartbeats 4000000
/-! Pl2: loops, groups. -/
noncomputable section
namespace Pm
open PySem
/-! comprehensions -/
section
variable {α β σ : Type} {ck : Mu → Prop} {f : D → Mu → R (Option D)} {g : α → D} {m : Mu}
theorem lc_pure (h : α → D) : ∀ {l : List α}, (∀ a ∈ l, f (g a) m = .ok (some (h a)) m) → ck m → loopL ck f (l.map g) m = .ok (l.map h) m
  | [], _, c => by rw [List.map_nil, loopL, if_pos c]; rfl
  | a :: l, hf, c => by
    rw [List.map_cons, loopL, if_pos c, hf a List.mem_cons_self, R.bind_ok, lc_pure h (fun y hy => hf y (List.mem_cons_of_mem _ hy)) c]
    rfl
theorem lc_filter (p : α → Bool) (h : α → D) : ∀ {l : List α}, (∀ a ∈ l, f (g a) m = .ok (if p a = true then some (h a) else none) m) → ck m → loopL ck f (l.map g) m = .ok ((l.filter p).map h) m
  | [], _, c => by rw [List.map_nil, loopL, if_pos c]; rfl
  | a :: l, hf, c => by
    rw [List.map_cons, loopL, if_pos c, hf a List.mem_cons_self, R.bind_ok, lc_filter p h (fun y hy => hf y (List.mem_cons_of_mem _ hy)) c, List.filter_cons]
    by_cases q : p a = true
    · rw [if_pos q, if_pos q]; rfl
    · rw [if_neg q, if_neg q]; rfl
theorem lc_to (e : β → D) (k : α → β) (ys : List β) {l : List α} (hy : ys = l.map k) (hf : ∀ a ∈ l, f (g a) m = .ok (some (e (k a))) m) (c : ck m) : loopL ck f (l.map g) m = .ok (ys.map e) m := by
  rw [hy, List.map_map]
  exact lc_pure _ hf c
theorem lc_filterTo (e : β → D) (k : α → β) (p : α → Bool) (ys : List β) {l : List α} (hy : ys = (l.filter p).map k) (hf : ∀ a ∈ l, f (g a) m = .ok (if p a = true then some (e (k a)) else none) m) (c : ck m) : loopL ck f (l.map g) m = .ok (ys.map e) m := by
  rw [hy, List.map_map]
  exact lc_filter p _ hf c
/-- turns that carry a state -/
def mapO (F : α → σ → Option β × σ) : List α → σ → List β × σ
  | [], p => ([], p)
  | a :: l, p => ((F a p).1.toList ++ (mapO F l (F a p).2).1, (mapO F l (F a p).2).2)
def mapS (F : α → σ → β × σ) : List α → σ → List β × σ
  | [], p => ([], p)
  | a :: l, p => ((F a p).1 :: (mapS F l (F a p).2).1, (mapS F l (F a p).2).2)
theorem mapS_len (F : α → σ → β × σ) : ∀ (l : List α) (p : σ), (mapS F l p).1.length = l.length
  | [], _ => rfl
  | a :: l, p => by rw [mapS, List.length_cons, mapS_len F l, List.length_cons]
theorem mapS_mem (F : α → σ → β × σ) {y : β} : ∀ (l : List α) (p : σ), y ∈ (mapS F l p).1 → ∃ a ∈ l, ∃ q, y = (F a q).1
  | [], _, h => by simp [mapS] at h
  | a :: l, p, h => by
    rw [mapS, List.mem_cons] at h
    rcases h with rfl | h
    · exact ⟨a, List.mem_cons_self, p, rfl⟩
    · obtain ⟨b, h1, h2⟩ := mapS_mem F l _ h
      exact ⟨b, List.mem_cons_of_mem _ h1, h2⟩
theorem mapO_mem (F : α → σ → Option β × σ) {y : β} : ∀ (l : List α) (p : σ), y ∈ (mapO F l p).1 → ∃ a ∈ l, ∃ q, (F a q).1 = some y
  | [], _, h => by simp [mapO] at h
  | a :: l, p, h => by
    rw [mapO, List.mem_append] at h
    rcases h with h | h
    · exact ⟨a, List.mem_cons_self, p, by simpa using h⟩
    · obtain ⟨b, h1, h2⟩ := mapO_mem F l _ h
      exact ⟨b, List.mem_cons_of_mem _ h1, h2⟩
theorem lc_state (M : σ → Mu) (F : α → σ → Option β × σ) (h : β → D) : ∀ {l : List α} (p : σ), (∀ a ∈ l, ∀ p, f (g a) (M p) = .ok ((F a p).1.map h) (M (F a p).2)) → (∀ p, ck (M p)) → loopL ck f (l.map g) (M p) = .ok ((mapO F l p).1.map h) (M (mapO F l p).2)
  | [], p, _, c => by rw [List.map_nil, loopL, if_pos (c p)]; rfl
  | a :: l, p, hf, c => by
    rw [List.map_cons, loopL, if_pos (c p), hf a List.mem_cons_self, R.bind_ok, lc_state M F h _ (fun y hy => hf y (List.mem_cons_of_mem _ hy)) c]
    show R.ok _ _ = _
    rw [mapO]
    congr 1
    rw [List.map_append]
    cases (F a p).1 <;> rfl
theorem lc_stateS (M : σ → Mu) (F : α → σ → β × σ) (h : β → D) : ∀ {l : List α} (p : σ), (∀ a ∈ l, ∀ p, f (g a) (M p) = .ok (some (h (F a p).1)) (M (F a p).2)) → (∀ p, ck (M p)) → loopL ck f (l.map g) (M p) = .ok ((mapS F l p).1.map h) (M (mapS F l p).2)
  | [], p, _, c => by rw [List.map_nil, loopL, if_pos (c p)]; rfl
  | a :: l, p, hf, c => by
    rw [List.map_cons, loopL, if_pos (c p), hf a List.mem_cons_self, R.bind_ok, lc_stateS M F h _ (fun y hy => hf y (List.mem_cons_of_mem _ hy)) c]
    rfl
end
/-! loops -/
section
variable {α β γ : Type} {ck : Mu → Prop} {f : D → List S → Mu → RS}
theorem for_inv (g : α → D) (I : β → List S → Mu → Prop) (step : β → α → β) (hck : ∀ b s m, I b s m → ck m) : ∀ {l : List α} {b : β} {s : List S} {m : Mu}, (∀ a ∈ l, ∀ b s m, I b s m → ∃ s' m', (f (g a) s m = .nx s' m' ∨ f (g a) s m = .ct s' m') ∧ I (step b a) s' m') → I b s m →
    ∃ s' m', loopS ck f (l.map g) s m = .nx s' m' ∧ I (l.foldl step b) s' m'
  | [], b, s, m, _, i => ⟨s, m, by rw [List.map_nil, loopS, if_pos (hck b s m i)], i⟩
  | a :: l, b, s, m, h, i => by
    obtain ⟨s1, m1, e, i1⟩ := h a List.mem_cons_self b s m i
    obtain ⟨s2, m2, e2, i2⟩ := for_inv g I step hck (fun a ha => h a (List.mem_cons_of_mem _ ha)) i1
    refine ⟨s2, m2, ?_, i2⟩
    rw [List.map_cons, loopS, if_pos (hck b s m i)]
    rcases e with e | e <;> rw [e] <;> exact e2
/-- the first turn that returns -/
def findR (r : α → Option γ) : List α → Option γ
  | [] => none
  | a :: l => match r a with
    | some c => some c
    | none => findR r l
theorem for_ret (g : α → D) (I : List S → Mu → Prop) (r : α → Option γ) (v : γ → D) (m : Mu) (hck : ck m) : ∀ {l : List α} {s : List S}, (∀ a ∈ l, ∀ s, I s m → (match r a with
      | some c => f (g a) s m = .rt (v c) m
      | none => ∃ s', (f (g a) s m = .nx s' m ∨ f (g a) s m = .ct s' m) ∧ I s' m)) → I s m →
    (match findR r l with
      | some c => loopS ck f (l.map g) s m = .rt (v c) m
      | none => ∃ s', loopS ck f (l.map g) s m = .nx s' m ∧ I s' m)
  | [], s, _, i => ⟨s, by rw [List.map_nil, loopS, if_pos hck], i⟩
  | a :: l, s, h, i => by
    have ha := h a List.mem_cons_self s i
    rw [findR]
    cases q : r a with
    | some c =>
      rw [q] at ha
      show loopS _ _ _ _ _ = _
      rw [List.map_cons, loopS, if_pos hck, ha]
    | none =>
      rw [q] at ha
      obtain ⟨s1, e, i1⟩ := ha
      have ih := for_ret g I r v m hck (fun a ha => h a (List.mem_cons_of_mem _ ha)) i1
      have e1 : loopS ck f ((a :: l).map g) s m = loopS ck f (l.map g) s1 m := by
        rw [List.map_cons, loopS, if_pos hck]
        rcases e with e | e <;> rw [e]
      rw [e1]
      exact ih
end
/-! groups -/
def dN (n : Nat) : D := .int n
@[simp] theorem dN_eq (n : Nat) : dN n = .int n := rfl
def dG (g : List Nat) : D := .tup (g.map dN)
@[simp] theorem dG_eq (g : List Nat) : dG g = .tup (g.map dN) := rfl
theorem rng_eq (n : Nat) : rngD 0 n = (List.range n).map dN := by
  unfold rngD
  apply List.map_congr_left
  intro i _
  show D.int (0 + (i : Int)) = .int i
  rw [Int.zero_add]
theorem rng_eq2 (a n : Nat) : rngD (a : Int) n = (List.range' a n).map dN := by
  unfold rngD
  rw [List.range'_eq_map_range, List.map_map]
  apply List.map_congr_left
  intro i _
  show D.int ((a : Int) + (i : Int)) = .int ((a + i : Nat) : Int)
  congr 1
@[simp] theorem flts_dN (g : List Nat) : flts (g.map dN) = true := by
  induction g with
  | nil => rfl
  | cons a g ih => rw [List.map_cons, flts, ih]; rfl
@[simp] theorem deps_dN (g : List Nat) : deps (g.map dN) = 0 := by
  induction g with
  | nil => rfl
  | cons a g ih => rw [List.map_cons, deps, ih]; rfl
@[simp] theorem flts_dG (g : List (List Nat)) : flts (g.map dG) = true := by
  induction g with
  | nil => rfl
  | cons a g ih => rw [List.map_cons, flts, ih]; simp [flt]
@[simp] theorem deps_dG (g : List (List Nat)) : deps (g.map dG) ≤ 1 := by
  induction g with
  | nil => exact Nat.zero_le _
  | cons a g ih => rw [List.map_cons, deps]; simp [dep]; omega
theorem dN_inj {a b : Nat} (h : dN a = dN b) : a = b := by
  have : (a : Int) = b := by simpa using h
  omega
theorem mapdN_inj : ∀ {g h : List Nat}, g.map dN = h.map dN → g = h
  | [], [], _ => rfl
  | [], _ :: _, h => by simp at h
  | _ :: _, [], h => by simp at h
  | a :: g, b :: k, h => by
    rw [List.map_cons, List.map_cons] at h
    rw [dN_inj (List.cons.inj h).1, mapdN_inj (List.cons.inj h).2]
theorem dG_inj {g h : List Nat} (e : dG g = dG h) : g = h := mapdN_inj (by simpa using e)
section
variable (T : Tab) (C : CF) (m : Mu)
@[simp] theorem vw_tup (xs : List D) : vw m (.tup xs) = .tup xs := rfl
@[simp] theorem vw_ls (xs : List D) : vw m (.lst xs) = .lst xs := rfl
@[simp] theorem vw_bor (xs : List D) : vw m (.bor xs) = .lst xs := rfl
/-- == of data without instances -/
theorem eqD_flp {x y : D} (h1 : flp (vw m x) = true) (h2 : flp (vw m y) = true) (hx : isBl x = false) (hs : sca x = false) : eqD T C m x y = some (eqd (vw m x) (vw m y)) := by
  unfold eqD
  rw [if_neg (by rw [hx, hs]; simp), if_pos (by rw [h1, h2]; rfl)]
theorem neD_flp {x y : D} (h1 : flp (vw m x) = true) (h2 : flp (vw m y) = true) (hx : isBl x = false) (hs : sca x = false) : neD m x y = some (!eqd (vw m x) (vw m y)) := by
  unfold neD
  rw [if_neg (by rw [hx, hs]; simp), if_pos (by rw [h1, h2]; rfl)]
theorem eqd_of {x y : D} {p : Prop} [Decidable p] (h : x = y ↔ p) : eqd x y = decide p := by
  rw [Bool.eq_iff_iff, eqd_iff, h]
  simp
@[simp] theorem eqD_dG (g h : List Nat) : eqD T C m (.tup (g.map dN)) (.tup (h.map dN)) = some (decide (g = h)) := by
  rw [eqD_flp T C m (by simp [flp, flt, dep]) (by simp [flp, flt, dep]) rfl rfl, vw_tup, vw_tup, eqd_of (p := g = h)]
  exact ⟨fun e => mapdN_inj (by simpa using e), fun e => by rw [e]⟩
@[simp] theorem neD_dG (g h : List Nat) : neD m (.tup (g.map dN)) (.tup (h.map dN)) = some (!decide (g = h)) := by
  rw [neD_flp m (by simp [flp, flt, dep]) (by simp [flp, flt, dep]) rfl rfl, vw_tup, vw_tup, eqd_of (p := g = h)]
  exact ⟨fun e => mapdN_inj (by simpa using e), fun e => by rw [e]⟩
@[simp] theorem eqD_lN (g h : List Nat) : eqD T C m (.lst (g.map dN)) (.lst (h.map dN)) = some (decide (g = h)) := by
  rw [eqD_flp T C m (by simp [flp, flt, dep]) (by simp [flp, flt, dep]) rfl rfl, vw_ls, vw_ls, eqd_of (p := g = h)]
  exact ⟨fun e => mapdN_inj (by simpa using e), fun e => by rw [e]⟩
theorem all_sca_dN (g : List Nat) : (g.map dN).all sca = true := by
  rw [List.all_eq_true]
  intro x hx
  obtain ⟨i, _, rfl⟩ := List.mem_map.mp hx
  rfl
theorem any_dN (g : List Nat) (i : Nat) : ((g.map dN).any fun z => eqd z (.int i)) = decide (i ∈ g) := by
  rw [Bool.eq_iff_iff, List.any_eq_true, decide_eq_true_eq]
  constructor
  · rintro ⟨x, hx, e⟩
    obtain ⟨j, hj, rfl⟩ := List.mem_map.mp hx
    rw [eqd_iff] at e
    rw [← dN_inj (show dN j = dN i from e)]
    exact hj
  · intro h
    exact ⟨dN i, List.mem_map_of_mem h, eqd_self _⟩
@[simp] theorem inD_dN (i : Nat) (g : List Nat) : inD m (.int i) (.tup (g.map dN)) = some (decide (i ∈ g)) := by
  show (if (sca (.int i) && (g.map dN).all sca) = true then some ((g.map dN).any fun z => eqd z (.int i)) else _) = _
  rw [all_sca_dN, if_pos (by rfl), any_dN]
@[simp] theorem inD_lN (i : Nat) (g : List Nat) : inD m (.int i) (.lst (g.map dN)) = some (decide (i ∈ g)) := by
  show (if (sca (.int i) && (g.map dN).all sca) = true then some ((g.map dN).any fun z => eqd z (.int i)) else _) = _
  rw [all_sca_dN, if_pos (by rfl), any_dN]
theorem any_dG (gs : List (List Nat)) (g : List Nat) : ((gs.map dG).any fun z => eqd z (dG g)) = decide (g ∈ gs) := by
  rw [Bool.eq_iff_iff, List.any_eq_true, decide_eq_true_eq]
  constructor
  · rintro ⟨x, hx, e⟩
    obtain ⟨j, hj, rfl⟩ := List.mem_map.mp hx
    rw [eqd_iff] at e
    rw [← dG_inj e]
    exact hj
  · intro h
    exact ⟨dG g, List.mem_map_of_mem h, eqd_self _⟩
@[simp] theorem inD_dG (g : List Nat) (gs : List (List Nat)) : inD m (.tup (g.map dN)) (.lst (gs.map dG)) = some (decide (g ∈ gs)) := by
  show (if (sca (.tup (g.map dN)) && (gs.map dG).all sca) = true then some ((gs.map dG).any fun z => eqd z (.tup (g.map dN))) else if (flp (.tup (g.map dN)) && flp (.lst (gs.map dG))) = true then some ((gs.map dG).any fun z => eqd z (.tup (g.map dN))) else _) = _
  have h2 := deps_dG gs
  have h3 : 1 + deps (gs.map dG) ≤ 60 := by omega
  rw [if_neg (by simp [sca]), if_pos (by simp [flp, flt, dep, h3]), ← dG_eq, any_dG]
theorem intsOf_dN (g : List Nat) : intsOf (g.map dN) = some (g.map fun (i : Nat) => (i : Int)) := by
  induction g with
  | nil => rfl
  | cons a g ih => rw [List.map_cons, dN_eq, intsOf, ih]; rfl
def ltG (g h : List Nat) : Bool := HT.lexLt (g.map fun (i : Nat) => (i : Int)) (h.map fun (i : Nat) => (i : Int))
@[simp] theorem ltD_dG (g h : List Nat) : ltD (.tup (g.map dN)) (.tup (h.map dN)) = some (ltG g h) := by
  unfold ltD
  dsimp only
  rw [intsOf_dN, intsOf_dN]
  rfl
end
theorem zipD_map {α β : Type} (f : α → D) (g : β → D) : ∀ (xs : List α) (ys : List β), zipD (xs.map f) (ys.map g) = (xs.zip ys).map fun p => .tup [f p.1, g p.2]
  | [], _ => by cases ‹List β› <;> rfl
  | _ :: _, [] => rfl
  | x :: xs, y :: ys => by
    rw [List.map_cons, List.map_cons, zipD, zipD_map f g xs ys]
    rfl
end Pm
end
end
section
set_option Elab.async false
set_option linter.all false
set_option maxRecDepth 100000
set_option maxHeartbeats 400000
noncomputable section
namespace Pm
open PySem
/-! ### Euclid -/
theorem eu_half {a b : Int} (hb : 0 < b) (hr : 0 < a % b) : 2 * (b % (a % b)) < b := by
  have h1 := Int.emod_lt_of_pos a hb
  have h2 := Int.emod_lt_of_pos b hr
  have h3 := Int.emod_nonneg b (show a % b ≠ 0 by omega)
  have h4 := Int.mul_ediv_add_emod b (a % b)
  have h5 : 1 ≤ b / (a % b) := by
    rcases (show b / (a % b) < 1 ∨ 1 ≤ b / (a % b) by omega) with z | z
    · have : b / (a % b) ≤ 0 := by omega
      have : (a % b) * (b / (a % b)) ≤ 0 := Int.mul_nonpos_of_nonneg_of_nonpos (by omega) this
      omega
    · exact z
  have h6 : a % b ≤ (a % b) * (b / (a % b)) := by
    have := Int.mul_le_mul_of_nonneg_left h5 (show 0 ≤ a % b by omega)
    omega
  omega
/-- enough turns for these -/
inductive Eu : Nat → Int → Int → Int → Prop
  | done (n : Nat) (a : Int) : Eu n a 0 a
  | step {n : Nat} {a b g : Int} : b ≠ 0 → Eu n b (a % b) g → Eu (n + 1) a b g
theorem Eu.more {n m : Nat} {a b g : Int} (h : Eu n a b g) : n ≤ m → Eu m a b g := by
  intro hm
  induction h generalizing m with
  | done n a => exact .done m a
  | step hb h ih =>
    obtain ⟨m, rfl⟩ : ∃ k, m = k + 1 := ⟨m - 1, by omega⟩
    exact .step hb (ih (by omega))
theorem gcd_step {a b : Int} (ha : 0 ≤ a) (hb : 0 ≤ b) : Int.gcd b (a % b) = Int.gcd a b := by
  obtain ⟨n, rfl⟩ := Int.eq_ofNat_of_zero_le ha
  obtain ⟨m, rfl⟩ := Int.eq_ofNat_of_zero_le hb
  show Nat.gcd _ _ = Nat.gcd _ _
  rw [← Int.natCast_emod]
  simp only [Int.natAbs_natCast]
  rw [Nat.gcd_comm m (n % m), ← Nat.gcd_rec m n, Nat.gcd_comm]
theorem eu_gcd : ∀ (k : Nat) (a b : Int), 0 ≤ a → 0 ≤ b → b < 2 ^ k → Eu (2 * k) a b (Int.gcd a b) := by
  intro k
  induction k with
  | zero =>
    intro a b ha hb h
    have e : b = 0 := by simp at h; omega
    subst e
    rw [Int.gcd_zero_right, Int.natAbs_of_nonneg ha]
    exact .done _ _
  | succ k ih =>
    intro a b ha hb h
    by_cases e : b = 0
    · subst e
      rw [Int.gcd_zero_right, Int.natAbs_of_nonneg ha]
      exact .done _ _
    · have hb' : 0 < b := by omega
      have h1 := Int.emod_nonneg a e
      have g1 := gcd_step ha hb
      refine .step (n := 2 * k + 1) e ?_
      by_cases e2 : a % b = 0
      · rw [← g1, e2, Int.gcd_zero_right, Int.natAbs_of_nonneg hb]
        exact .done _ _
      · have g2 := gcd_step hb h1
        refine .step (n := 2 * k) e2 ?_
        rw [← g1, ← g2]
        have hh := eu_half (a := a) hb' (by omega)
        have h3 := Int.emod_nonneg b e2
        refine ih _ _ h1 h3 ?_
        rw [Int.pow_succ] at h
        omega
end Pm
end
end
section
set_option Elab.async false
set_option linter.all false
set_option maxRecDepth 100000
set_option maxHeartbeats 4000000
/-! Pl4: sorted lists of groups, slices. -/
noncomputable section
namespace Pm
open PySem
@[simp] theorem ltG_nn : ltG [] [] = false := rfl
@[simp] theorem ltG_nc (b : Nat) (h : List Nat) : ltG [] (b :: h) = true := rfl
@[simp] theorem ltG_cn (a : Nat) (g : List Nat) : ltG (a :: g) [] = false := rfl
theorem ltG_cc (a b : Nat) (g h : List Nat) : ltG (a :: g) (b :: h) = if a = b then ltG g h else decide (a < b) := by
  unfold ltG
  rw [List.map_cons, List.map_cons, HT.lexLt_cons]
  by_cases e : a = b
  · subst e; simp
  · have : ¬ ((a : Int) = (b : Int)) := by omega
    rw [if_neg this, if_neg e]
    simp
theorem ltG_irr : ∀ g : List Nat, ltG g g = false
  | [] => rfl
  | a :: g => by rw [ltG_cc, if_pos rfl, ltG_irr g]
theorem ltG_anti : ∀ {g h : List Nat}, ltG g h = false → ltG h g = false → g = h
  | [], [], _, _ => rfl
  | [], _ :: _, h, _ => by simp at h
  | _ :: _, [], _, h => by simp at h
  | a :: g, b :: k, h1, h2 => by
    rw [ltG_cc] at h1 h2
    by_cases e : a = b
    · subst e
      rw [if_pos rfl] at h1 h2
      rw [ltG_anti h1 h2]
    · rw [if_neg e] at h1
      rw [if_neg (fun z => e z.symm)] at h2
      simp at h1 h2
      omega
theorem ltG_asym : ∀ {g h : List Nat}, ltG g h = true → ltG h g = false
  | [], [], h => by simp at h
  | [], _ :: _, _ => rfl
  | _ :: _, [], h => by simp at h
  | a :: g, b :: k, h => by
    rw [ltG_cc] at h ⊢
    by_cases e : a = b
    · subst e
      rw [if_pos rfl] at h ⊢
      exact ltG_asym h
    · rw [if_neg e] at h
      rw [if_neg (fun z => e z.symm)]
      simp at h ⊢
      omega
theorem ltG_trans : ∀ {g h k : List Nat}, ltG g h = true → ltG h k = true → ltG g k = true
  | [], _, _ :: _, _, _ => rfl
  | [], [], [], h, _ => by simp at h
  | [], _ :: _, [], _, h => by simp at h
  | _ :: _, [], _, h, _ => by simp at h
  | _ :: _, _ :: _, [], _, h => by simp at h
  | a :: g, b :: h, c :: k, h1, h2 => by
    rw [ltG_cc] at h1 h2 ⊢
    by_cases e1 : a = b
    · subst e1
      rw [if_pos rfl] at h1
      by_cases e2 : a = c
      · subst e2
        rw [if_pos rfl] at h2 ⊢
        exact ltG_trans h1 h2
      · rw [if_neg e2] at h2 ⊢
        exact h2
    · rw [if_neg e1] at h1
      simp at h1
      by_cases e2 : b = c
      · subst e2
        rw [if_neg e1]
        simpa using h1
      · rw [if_neg e2] at h2
        simp at h2
        rw [if_neg (by omega)]
        simp
        omega
theorem ltG_negtrans {g h k : List Nat} (h1 : ltG h g = false) (h2 : ltG k h = false) : ltG k g = false := by
  cases e : ltG k g with
  | false => rfl
  | true =>
    cases e1 : ltG g h with
    | true => rw [ltG_trans e e1] at h2; cases h2
    | false => rw [ltG_anti h1 e1] at h2; rw [h2] at e; cases e
theorem keyToks_dG (g : List Nat) : PySem.W.keyToks (pd (dG g)) = PySem.W.keyToksAll (pds (g.map dN)) := by
  rw [dG_eq, pd, PySem.W.keyToks]
theorem lex_toks : ∀ g h : List Nat, PyProof.Rows.lexLt PyProof.Rows.itemOrd (PySem.W.keyToksAll (pds (g.map dN))) (PySem.W.keyToksAll (pds (h.map dN))) = ltG g h
  | [], [] => by simp [pds, PySem.W.keyToksAll, PyProof.Rows.lexLt, PyProof.Rows.itemLt]
  | [], _ :: _ => by simp [pds, PySem.W.keyToksAll, PyProof.Rows.lexLt, PyProof.Rows.itemLt]
  | _ :: _, [] => by simp [pds, PySem.W.keyToksAll, PyProof.Rows.lexLt, PyProof.Rows.itemLt]
  | a :: g, b :: h => by
    rw [ltG_cc, ← lex_toks g h]
    simp only [List.map_cons, dN_eq, pds, pd, PySem.W.keyToksAll, PySem.W.keyToks, List.cons_append, List.nil_append]
    rw [PyProof.Rows.lex_self, PyProof.Rows.lex_cons]
    by_cases e : a = b
    · subst e
      simp [PyProof.Rows.itemLt]
    · rw [if_neg e]
      simp only [PyProof.Rows.itemLt]
      by_cases q : a < b
      · simp [q]
      · have : b < a := by omega
        simp [q, this]
theorem dataLe_dG (g h : List Nat) : PySem.W.dataLe false pd (dG g) (dG h) = !ltG h g := by
  show (!PyProof.Rows.lexLt PyProof.Rows.itemOrd (PySem.W.keyToks (pd (dG h))) (PySem.W.keyToks (pd (dG g)))) = _
  rw [keyToks_dG, keyToks_dG, lex_toks]
theorem srtD_dG {gs gs' : List (List Nat)} (hp : gs'.Perm gs) (hs : gs'.Pairwise fun a b => ltG b a = false) : srtD (gs.map dG) = gs'.map dG := by
  unfold srtD
  rw [← List.map_mergeSort (r := fun a b => !ltG b a) (fun a _ b _ => (dataLe_dG a b).symm)]
  congr 1
  refine List.Perm.eq_of_pairwise (le := fun a b => ltG b a = false) (fun a b _ _ h1 h2 => ltG_anti h2 h1) ?_ hs ((List.mergeSort_perm _ _).trans hp.symm)
  have := List.pairwise_mergeSort (le := fun a b => !ltG b a) (fun a b c h1 h2 => by
    simp at h1 h2 ⊢
    exact ltG_negtrans h1 h2) (fun a b => by
    cases e : ltG b a with
    | false => simp
    | true => simp [ltG_asym e]) gs
  exact this.imp fun h => by simpa using h
theorem intTup_dG (g : List Nat) : intTup (dG g) = true := by
  show (intsOf (g.map dN)).isSome = true
  rw [intsOf_dN]
  rfl
theorem srtOk_dG (gs : List (List Nat)) (hl : gs.length ≤ 1000) (h0 : gs.head? = some []) : srtOk (gs.map dG) = true := by
  cases gs with
  | nil => simp at h0
  | cons g gs =>
    simp at h0
    subst h0
    have e : ((([] : List Nat) :: gs).map dG).all intTup = true := by
      rw [List.all_eq_true]
      intro x hx
      obtain ⟨g, _, rfl⟩ := List.mem_map.mp hx
      exact intTup_dG g
    have l : ((([] : List Nat) :: gs).map dG).length ≤ lim := by rw [List.length_map]; simp [lim] at hl ⊢; omega
    unfold srtOk
    rw [decide_eq_true l, Bool.true_and]
    rw [Bool.or_eq_true]
    exact .inl e
@[simp] theorem inD_bN (m : Mu) (i : Nat) (g : List Nat) : inD m (.int i) (.bor (g.map dN)) = some (decide (i ∈ g)) := by
  show (if (sca (.int i) && (g.map dN).all sca) = true then some ((g.map dN).any fun z => eqd z (.int i)) else _) = _
  rw [all_sca_dN, if_pos (by rfl), any_dN]
/-! slices -/
theorem sIx_nat' (n d k : Nat) : HT.sIx n d (some (k : Int)) = min k n := HT.sIx_nat n d k
@[simp] theorem cutD_all (xs : List D) : cutD xs none none = xs := by
  unfold cutD
  rw [HT.sIx_none, HT.sIx_none]
  simp
theorem cutD_from (xs : List D) (k : Nat) : cutD xs (some (k : Int)) none = xs.drop k := by
  unfold cutD
  rw [HT.sIx_none, sIx_nat']
  by_cases h : k ≤ xs.length
  · rw [Nat.min_eq_left h, List.take_of_length_le]
    rw [List.length_drop]
    omega
  · rw [Nat.min_eq_right (by omega)]
    simp
    omega
@[simp] theorem cutD_1 (xs : List D) : cutD xs (some 1) none = xs.drop 1 := cutD_from xs 1
theorem cutD_to (xs : List D) (k : Nat) : cutD xs none (some (k : Int)) = xs.take k := by
  unfold cutD
  rw [HT.sIx_none, sIx_nat', Nat.sub_zero, List.drop_zero]
  by_cases h : k ≤ xs.length
  · rw [Nat.min_eq_left h]
  · rw [Nat.min_eq_right (by omega), List.take_of_length_le (Nat.le_refl _), List.take_of_length_le (by omega)]
section
variable (m : Mu)
@[simp] theorem slcD_tup (xs : List D) (a b : Option Int) : slcD (.tup xs) a b m = some (.tup (cutD xs a b)) := rfl
@[simp] theorem slcD_lst (xs : List D) (a b : Option Int) : slcD (.lst xs) a b m = some (.lst (cutD xs a b)) := rfl
@[simp] theorem slcD_bor (xs : List D) (a b : Option Int) : slcD (.bor xs) a b m = some (.lst (cutD xs a b)) := rfl
end
end Pm
end
end
section
set_option Elab.async false
set_option linter.all false
set_option maxRecDepth 100000
set_option maxHeartbeats 4000000
/-! Pl5: more equations: repeated lists, two fors, pops, stores into lists of instances. -/
noncomputable section
namespace Pm
open PySem
section
variable (T : Tab) (C : CF) (fu : Nat) (s : List S) (m : Mu)
set_option smartUnfolding false
theorem evF_rep0 (a n : IE) : evF T C (.rep a n) s m = (ev T C a s m).bind fun x m1 => (ev T C n s m1).bind fun y m2 => optR (lstT m2 x) fun xs => (match y with
    | .int j => if 0 ≤ j ∧ j ≤ lim ∧ xs.length * j.toNat ≤ lim then .ok (List.replicate j.toNat xs).flatten m2 else .bad
    | _ => .bad) := by
  rw [evF]
  congr 1; funext x m1; congr 1; funext y m2
  cases lstT m2 x with
  | none => rfl
  | some xs => cases y <;> rfl
@[simp] theorem evF_rep (a n : IE) : evF T C (.rep a n) s m = (ev T C a s m).bindH fun x m1 => (ev T C n s m1).bindH fun y m2 => optR (lstT m2 x) fun xs => (match y with
    | .int j => if 0 ≤ j ∧ j ≤ lim ∧ xs.length * j.toNat ≤ lim then .ok (List.replicate j.toNat xs).flatten m2 else .bad
    | _ => .bad) := by apply evF_rep0
theorem evF_lc20 (own : List Nat) (tg : Tg) (it : It) (ow1 : List Nat) (tg1 : Tg) (it1 : It) (e : IE) : evF T C (.lc2 own tg it ow1 tg1 it1 e) s m = (evI T C it s m).bind fun xs m1 => if freeS s own = true ∧ xs.1.length ≤ 300 then (loopA (xs.2.ok xs.1) (turnA T C own tg ow1 tg1 it1 e s) xs.1 m1).noex else .bad := by
  rw [evF]; rfl
@[simp] theorem evF_lc2 (own : List Nat) (tg : Tg) (it : It) (ow1 : List Nat) (tg1 : Tg) (it1 : It) (e : IE) : evF T C (.lc2 own tg it ow1 tg1 it1 e) s m = (evI T C it s m).bindH fun xs m1 => if freeS s own = true ∧ xs.1.length ≤ 300 then (loopA (xs.2.ok xs.1) (turnA T C own tg ow1 tg1 it1 e s) xs.1 m1).noex else .bad := by apply evF_lc20
theorem turnM_eq (ow1 : List Nat) (tg1 : Tg) (e : IE) (y : D) : turnM T C ow1 tg1 e s y m = optR (setT tg1 y (wipeS s ow1)) fun s2 => (ev T C e s2 m).bindH fun z m5 => if z.isBor then .bad else .ok (some z) m5 := (rfl)
theorem turnA_eq (own : List Nat) (tg : Tg) (ow1 : List Nat) (tg1 : Tg) (it1 : It) (e : IE) (x : D) : turnA T C own tg ow1 tg1 it1 e s x m = optR (setT tg x (wipeS s own)) fun s1 => (evI T C it1 s1 m).bindH fun ys m3 => if freeS s1 ow1 = true ∧ ys.1.length ≤ 300 then loopL (ys.2.ok ys.1) (turnM T C ow1 tg1 e s1) ys.1 m3 else .bad := (rfl)
def intO : Option D → Option Int
  | some (.int u) => some u
  | _ => none
@[simp] theorem intO_int (u : Int) : intO (some (.int u)) = some u := rfl
theorem ex_aus0 (a x : IE) (o : Bop) (e : IE) : ex T C fu (.aus a x o e) s m = (ev T C a s m).toS s fun ov m1 => (ev T C x s m1).toS s fun iv m2 => (match ov, iv with
    | .ref k, .int j => optS (celL m2[k]?) fun xs => optS (intO (L2.atI xs j)) fun u => (ev T C e s m2).toS s fun d m3 => (match d with
      | .int w => optS (celL m3[k]?) fun ys => optS (L2.ixN ys.length j) fun n => (match o with
        | .add => .nx s (m3.set k (.lst (ys.set n (.int (u + w)))))
        | .sub => .nx s (m3.set k (.lst (ys.set n (.int (u - w)))))
        | _ => .bad)
      | _ => .bad)
    | _, _ => .bad) := by
  rw [ex]
  congr 1; funext ov m1; congr 1; funext iv m2
  cases ov <;> try rfl
  cases iv <;> try rfl
  rename_i k j
  dsimp only
  cases m2[k]? with
  | none => rfl
  | some c =>
    cases c with
    | ins _ _ => rfl
    | dct _ _ => rfl
    | lst xs =>
      dsimp only [celL, optS]
      cases L2.atI xs j with
      | none => rfl
      | some u =>
        cases u <;> try rfl
        rename_i u
        dsimp only [intO, optS]
        congr 1; funext d m3
        cases d <;> try rfl
        rename_i w
        dsimp only
        cases m3[k]? with
        | none => rfl
        | some c =>
          cases c with
          | ins _ _ => rfl
          | dct _ _ => rfl
          | lst ys =>
            dsimp only [celL, optS]
            cases L2.ixN ys.length j <;> rfl
@[simp] theorem ex_aus (a x : IE) (o : Bop) (e : IE) : ex T C fu (.aus a x o e) s m = (ev T C a s m).toSH s fun ov m1 => (ev T C x s m1).toSH s fun iv m2 => (match ov, iv with
    | .ref k, .int j => optS (celL m2[k]?) fun xs => optS (intO (L2.atI xs j)) fun u => (ev T C e s m2).toSH s fun d m3 => (match d with
      | .int w => optS (celL m3[k]?) fun ys => optS (L2.ixN ys.length j) fun n => (match o with
        | .add => .nx s (m3.set k (.lst (ys.set n (.int (u + w)))))
        | .sub => .nx s (m3.set k (.lst (ys.set n (.int (u - w)))))
        | _ => .bad)
      | _ => .bad)
    | _, _ => .bad) := by apply ex_aus0
theorem ex_pop0 (i j : Nat) (e : IE) : ex T C fu (.pop i j e) s m = optS (sloO s[j]?) fun ys => (ev T C e s m).toS s fun d m1 => (match d with
      | .int q => optS (L2.ixN ys.length q) fun n => optS ys[n]? fun y => if i < s.length ∧ ys.length ≤ lim then .nx ((s.set j (.own (ys.eraseIdx n))).set i (.val y)) m1 else .bad
      | _ => .bad) := by
  rw [ex]
  cases s[j]? with
  | none => rfl
  | some c =>
    cases c <;> rfl
@[simp] theorem ex_pop (i j : Nat) (e : IE) : ex T C fu (.pop i j e) s m = optS (sloO s[j]?) fun ys => (ev T C e s m).toSH s fun d m1 => (match d with
      | .int q => optS (L2.ixN ys.length q) fun n => optS ys[n]? fun y => if i < s.length ∧ ys.length ≤ lim then .nx ((s.set j (.own (ys.eraseIdx n))).set i (.val y)) m1 else .bad
      | _ => .bad) := by apply ex_pop0
theorem ex_apo0 (i j : Nat) (e : IE) : ex T C fu (.apo i j e) s m = optS (sloO s[i]?) fun xs => optS (sloO s[j]?) fun ys => (ev T C e s m).toS s fun d m1 => (match d with
      | .int q => optS (L2.ixN ys.length q) fun n => optS ys[n]? fun y => if i ≠ j ∧ xs.length < lim ∧ ys.length ≤ lim then .nx ((s.set j (.own (ys.eraseIdx n))).set i (.own (xs ++ [y]))) m1 else .bad
      | _ => .bad) := by
  rw [ex]
  cases s[i]? with
  | none => rfl
  | some c =>
    cases c <;> try rfl
    rename_i xs
    dsimp only [sloO, optS]
    cases s[j]? with
    | none => rfl
    | some c =>
      cases c <;> rfl
@[simp] theorem ex_apo (i j : Nat) (e : IE) : ex T C fu (.apo i j e) s m = optS (sloO s[i]?) fun xs => optS (sloO s[j]?) fun ys => (ev T C e s m).toSH s fun d m1 => (match d with
      | .int q => optS (L2.ixN ys.length q) fun n => optS ys[n]? fun y => if i ≠ j ∧ xs.length < lim ∧ ys.length ≤ lim then .nx ((s.set j (.own (ys.eraseIdx n))).set i (.own (xs ++ [y]))) m1 else .bad
      | _ => .bad) := by apply ex_apo0
theorem evF_sst0 (a : IE) : evF T C (.sst a) s m = (ev T C a s m).bind fun x m1 => optR ((lstOf m1 x).bind intsOf) fun ns => if ns.length < 60 then .ok ((sstI ns).map .int) m1 else .bad := by
  first
    | (rw [evF]; done)
    | (rw [evF]; rfl)
@[simp] theorem evF_sst (a : IE) : evF T C (.sst a) s m = (ev T C a s m).bindH fun x m1 => optR ((lstOf m1 x).bind intsOf) fun ns => if ns.length < 60 then .ok ((sstI ns).map .int) m1 else .bad := by apply evF_sst0
def pairO : D → Option (D × D)
  | .tup [a, b] => some (a, b)
  | _ => none
@[simp] theorem pairO_tup (a b : D) : pairO (.tup [a, b]) = some (a, b) := rfl
theorem ex_pst0 (i : Nat) (x y e : IE) : ex T C fu (.pst i x y e) s m = (ev T C e s m).toS s fun d m1 => optS (pairO d) fun p => optS (sloO s[i]?) fun xs => if p.1.isBor ∨ p.2.isBor then .bad else (ev T C x s m1).toS s fun j m2 => optS (intO (some j)) fun j => optS (L2.ixN xs.length j) fun n => (ev T C y (s.set i (.own (xs.set n p.1))) m2).toS (s.set i (.own (xs.set n p.1))) fun j2 m3 => optS (intO (some j2)) fun j2 => optS (L2.ixN xs.length j2) fun n2 => .nx ((s.set i (.own (xs.set n p.1))).set i (.own ((xs.set n p.1).set n2 p.2))) m3 := by
  rw [ex]
  congr 1; funext d m1
  have hn : ∀ d : D, (∀ a b, d ≠ .tup [a, b]) → pairO d = none := fun d h => by
    unfold pairO
    split
    · rename_i a b
      exact absurd rfl (h a b)
    · rfl
  by_cases hd : ∃ a b, d = .tup [a, b]
  · obtain ⟨a, b, rfl⟩ := hd
    dsimp only [pairO, optS]
    cases s[i]? with
    | none => rfl
    | some c =>
      cases c <;> try rfl
      rename_i xs
      dsimp only [sloO, optS]
      split
      · rfl
      · congr 1; funext j m2
        cases j <;> try rfl
        rename_i j
        dsimp only [intO, optS]
        cases L2.ixN xs.length j with
        | none => rfl
        | some n =>
          dsimp only
          congr 1; funext j2 m3
          cases j2 <;> first | rfl | skip
          all_goals (dsimp only [intO, optS]; first | done | (split <;> rfl))
  · rw [hn d fun a b z => hd ⟨a, b, z⟩]
    dsimp only [optS]
    split
    · exact absurd ⟨_, _, rfl⟩ hd
    · rfl
@[simp] theorem ex_pst (i : Nat) (x y e : IE) : ex T C fu (.pst i x y e) s m = (ev T C e s m).toSH s fun d m1 => optS (pairO d) fun p => optS (sloO s[i]?) fun xs => if p.1.isBor ∨ p.2.isBor then .bad else (ev T C x s m1).toSH s fun j m2 => optS (intO (some j)) fun j => optS (L2.ixN xs.length j) fun n => (ev T C y (s.set i (.own (xs.set n p.1))) m2).toSH (s.set i (.own (xs.set n p.1))) fun j2 m3 => optS (intO (some j2)) fun j2 => optS (L2.ixN xs.length j2) fun n2 => .nx ((s.set i (.own (xs.set n p.1))).set i (.own ((xs.set n p.1).set n2 p.2))) m3 := by apply ex_pst0
set_option smartUnfolding true
end
@[simp] theorem bop_mul_lst (T : Tab) (C : CF) (m : Mu) (a : List D) (j : Int) : bopD T C .mul (.lst a) (.int j) m = if 0 ≤ j ∧ j ≤ lim ∧ a.length * j.toNat ≤ lim then .ok (.lst (List.replicate j.toNat a).flatten) m else .bad := (rfl)
@[simp] theorem bif_max (T : Tab) (C : CF) (m : Mu) (i j : Int) : bifD T C .max2 [.int i, .int j] m = .ok (.int (if j > i then j else i)) m := (rfl)
/-- the first statements, the others -/
def tkS : Nat → ISs → ISs
  | 0, _ => .nil
  | _ + 1, .nil => .nil
  | n + 1, .cons a r => .cons a (tkS n r)
def dpS : Nat → ISs → ISs
  | 0, b => b
  | _ + 1, .nil => .nil
  | n + 1, .cons _ r => dpS n r
theorem exs_tk0 (T : Tab) (C : CF) (fu : Nat) : ∀ (n : Nat) (b : ISs) (s : List S) (m : Mu), exs T C fu b s m = (exs T C fu (tkS n b) s m).seq (exs T C fu (dpS n b))
  | 0, b, s, m => by rw [tkS, dpS, exs_nil]; rfl
  | n + 1, .nil, s, m => by rw [tkS, dpS, exs_nil]; show _ = exs T C fu .nil s m; rw [exs_nil]
  | n + 1, .cons a r, s, m => by
    rw [tkS, dpS, exs_cons0, exs_cons0]
    cases ex T C fu a s m with
    | nx s1 m1 => exact exs_tk0 T C fu n r s1 m1
    | _ => rfl
theorem exs_tk (T : Tab) (C : CF) (fu : Nat) (n : Nat) (b : ISs) (s : List S) (m : Mu) : exs T C fu b s m = (exs T C fu (tkS n b) s m).seqH (exs T C fu (dpS n b)) := exs_tk0 T C fu n b s m
section
variable {α β : Type} {ck : Mu → Prop} {f : D → Mu → R (List D)} {g : α → D} {m : Mu}
theorem la_to (e : β → D) (k : α → List β) (ys : List β) : ∀ {l : List α}, ys = l.flatMap k → (∀ a ∈ l, f (g a) m = .ok ((k a).map e) m) → ck m → loopA ck f (l.map g) m = .ok (ys.map e) m
  | [], hy, _, c => by rw [hy, List.map_nil, loopA, if_pos c]; rfl
  | a :: l, hy, hf, c => by
    rw [hy, List.map_cons, loopA, if_pos c, hf a List.mem_cons_self, R.bind_ok, la_to e k (l.flatMap k) rfl (fun y hy => hf y (List.mem_cons_of_mem _ hy)) c, R.bind_ok, List.flatMap_cons, List.map_append]
end
@[simp] theorem map_rep {α : Type} (n : Nat) (f : α → D) (a : α) : (List.replicate n a).map f = List.replicate n (f a) := by simp
theorem getD_map {α : Type} (ps : List α) (f : α → D) (i : Nat) (d : α) (h : i < ps.length) : (ps.map f)[i]? = some (f (ps.getD i d)) := by
  rw [List.getElem?_map, List.getD_eq_getElem?_getD, List.getElem?_eq_getElem h]
  rfl
theorem lgn {x k : Nat} (h : x < 2 ^ k) : x.log2 ≤ k := by
  by_cases q : x = 0
  · subst q; simp
  · exact Nat.le_of_lt ((Nat.log2_lt q).mpr h)
def dT (t : Nat × Nat) : D := .tup [.int t.1, .int t.2]
@[simp] theorem dT_eq (t : Nat × Nat) : dT t = .tup [.int t.1, .int t.2] := rfl
theorem rng2_eq (a b : Nat) : rngD ((a : Int) + 1) ((b : Int) - ((a : Int) + 1)).toNat = (List.range' (a + 1) (b - (a + 1))).map dN := by
  have e : ((a : Int) + 1) = ((a + 1 : Nat) : Int) := by omega
  have e2 : ((b : Int) - ((a + 1 : Nat) : Int)).toNat = b - (a + 1) := by omega
  rw [e, e2, rng_eq2]
end Pm
end
end
section
set_option Elab.async false
set_option linter.all false
set_option maxRecDepth 100000
set_option maxHeartbeats 4000000
/-! Pl6: raise, try, except suites. -/
noncomputable section
namespace Pm
open PySem
section
variable (T : Tab) (C : CF) (fu : Nat) (s : List S) (m : Mu)
def tryX (i : Nat) (h : HSs) (x : Nat) (p : D) (s1 : List S) (m1 : Mu) : Option Bool → RS
  | some true => if i < s1.length then goneS i (exHs T x i h (s1.set i .emp) m1) else .bad
  | some false => .exc x p s1 m1
  | none => .bad
def tryR (i t : Nat) (h : HSs) (r : RS) : RS := match r with
  | .exc x p s1 m1 => tryX T i h x p s1 m1 (T.xsb x t)
  | r => r
@[simp] theorem tryR_nx (i t : Nat) (h : HSs) : tryR T i t h (.nx s m) = .nx s m := rfl
@[simp] theorem tryR_rt (i t : Nat) (h : HSs) (d : D) : tryR T i t h (.rt d m) = .rt d m := rfl
@[simp] theorem tryR_ct (i t : Nat) (h : HSs) : tryR T i t h (.ct s m) = .ct s m := rfl
@[simp] theorem tryR_bk (i t : Nat) (h : HSs) : tryR T i t h (.bk s m) = .bk s m := rfl
@[simp] theorem tryR_exc (i t : Nat) (h : HSs) (x : Nat) (p : D) : tryR T i t h (.exc x p s m) = tryX T i h x p s m (T.xsb x t) := rfl
@[simp] theorem tryX_true (i : Nat) (h : HSs) (x : Nat) (p : D) : tryX T i h x p s m (some true) = if i < s.length then goneS i (exHs T x i h (s.set i .emp) m) else .bad := rfl
@[simp] theorem tryX_false (i : Nat) (h : HSs) (x : Nat) (p : D) : tryX T i h x p s m (some false) = .exc x p s m := rfl
theorem ex_try0 (b : ISs) (i t : Nat) (h : HSs) : ex T C fu (.try_ b i t h) s m = tryR T i t h (exs T C fu b s m) := by
  rw [ex]
  cases exs T C fu b s m <;> rfl
@[simp] theorem ex_try (b : ISs) (i t : Nat) (h : HSs) : ex T C fu (.try_ b i t h) s m = tryR T i t h (exs T C fu b s m) := by apply ex_try0
theorem ex_rse0 (c : Nat) : ex T C fu (.rse c .nil) s m = .exc c .non s m := by rw [ex]
@[simp] theorem ex_rse (c : Nat) : ex T C fu (.rse c .nil) s m = .exc c .non s m := by apply ex_rse0
@[simp] theorem goneS_nx (i : Nat) : goneS i (.nx s m) = .nx (s.set i .emp) m := rfl
@[simp] theorem goneS_rt (i : Nat) (d : D) : goneS i (.rt d m) = .rt d m := rfl
@[simp] theorem goneS_ct (i : Nat) : goneS i (.ct s m) = .ct (s.set i .emp) m := rfl
variable (x i : Nat)
@[simp] theorem exHs_nil : exHs T x i .nil s m = .nx s m := by rw [exHs]
theorem exHs_cons0 (a : HS) (r : HSs) : exHs T x i (.cons a r) s m = (exH T x i a s m).seq fun s1 m1 => exHs T x i r s1 m1 := by rw [exHs]
@[simp] theorem exHs_cons (a : HS) (r : HSs) : exHs T x i (.cons a r) s m = (exH T x i a s m).seqH fun s1 m1 => exHs T x i r s1 m1 := by apply exHs_cons0
def hasg (i j : Nat) (s : List S) (m : Mu) : Option D → RS
  | some d => if j = i then .bad else (match setV s j d with
      | some s1 => .nx s1 m
      | none => .bad)
  | none => .bad
@[simp] theorem hasg_some (j : Nat) (d : D) : hasg i j s m (some d) = if j = i then .bad else if d.isBor ∨ s.length ≤ j then .bad else .nx (s.set j (.val d)) m := by
  show (if j = i then RS.bad else (match setV s j d with
      | some s1 => .nx s1 m
      | none => .bad)) = _
  unfold setV
  split
  · rfl
  · split
    · rename_i h; split at h <;> cases h; rename_i h2; rw [if_neg h2]
    · rename_i h; split at h
      · rename_i h2; rw [if_pos h2]
      · cases h
theorem exH_asg0 (j : Nat) (e : HE) : exH T x i (.asg j e) s m = hasg i j s m (evH T x e s m) := by
  rw [exH]
  cases evH T x e s m <;> rfl
@[simp] theorem exH_asg (j : Nat) (e : HE) : exH T x i (.asg j e) s m = hasg i j s m (evH T x e s m) := by apply exH_asg0
def hret (m : Mu) : Option D → RS
  | some d => .rt d m
  | none => .bad
@[simp] theorem hret_some (d : D) : hret m (some d) = .rt d m := rfl
theorem exH_ret0 (e : HE) : exH T x i (.ret e) s m = hret m (evH T x e s m) := by
  rw [exH]
  cases evH T x e s m <;> rfl
@[simp] theorem exH_ret (e : HE) : exH T x i (.ret e) s m = hret m (evH T x e s m) := by apply exH_ret0
def hite (p q : RS) : Option Bool → RS
  | some k => if k = true then p else q
  | none => .bad
@[simp] theorem hite_some (p q : RS) (k : Bool) : hite p q (some k) = if k = true then p else q := rfl
theorem exH_ite0 (t : HE) (a b : HSs) : exH T x i (.ite t a b) s m = hite (exHs T x i a s m) (exHs T x i b s m) ((evH T x t s m).bind (truth m)) := by
  rw [exH]
  cases (evH T x t s m).bind (truth m) <;> rfl
@[simp] theorem exH_ite (t : HE) (a b : HSs) : exH T x i (.ite t a b) s m = hite (exHs T x i a s m) (exHs T x i b s m) ((evH T x t s m).bind (truth m)) := by apply exH_ite0
@[simp] theorem exH_cnt : exH T x i .cnt s m = .ct s m := by rw [exH]
theorem evH_var0 (j : Nat) (d : D) (h : s[j]? = some (.val d)) : evH T x (.var j) s m = some d := by rw [evH, h]
@[simp] theorem evH_var (j : Nat) : evH T x (.var j) s m = (s[j]?).bind fun v => (match v with | .val d => some d | _ => none) := by
  rw [evH]
  cases s[j]? with
  | none => rfl
  | some v => cases v <;> rfl
@[simp] theorem evH_con (d : D) : evH T x (.con d) s m = some d := by rw [evH]
@[simp] theorem evH_xis (ts : List Nat) : evH T x (.xis ts) s m = (xisD T x ts).map .bl := by rw [evH]
@[simp] theorem xisD_nil : xisD T x [] = some false := rfl
@[simp] theorem xisD_cons (t : Nat) (ts : List Nat) : xisD T x (t :: ts) = (T.xsb x t).bind fun b => (xisD T x ts).map (b || ·) := rfl
@[simp] theorem evH_not (a : HE) : evH T x (.not_ a) s m = (evH T x a s m).bind fun d => (truth m d).map fun b => .bl (!b) := by rw [evH]
@[simp] theorem evH_bol (k : Bool) (as : HEs) : evH T x (.bol k as) s m = evHb T x k as s m := by rw [evH]
@[simp] theorem evHb_one (k : Bool) (a : HE) : evHb T x k (.cons a .nil) s m = evH T x a s m := by rw [evHb]
@[simp] theorem evHb_cons (k : Bool) (a b : HE) (r : HEs) : evHb T x k (.cons a (.cons b r)) s m = (evH T x a s m).bind fun d => (truth m d).bind fun t => if t = k then evHb T x k (.cons b r) s m else some d := by rw [evHb]
end
/-! dicts -/
section
variable (T : Tab) (C : CF) (s : List S) (m : Mu)
def celD : Option Cell → Option (Bool × List (D × D))
  | some (.dct t kvs) => some (t, kvs)
  | _ => none
@[simp] theorem celD_dct (t : Bool) (kvs : List (D × D)) : celD (some (.dct t kvs)) = some (t, kvs) := rfl
theorem dctOf_ref0 (k : Nat) : dctOf m (.ref k) = celD m[k]? := by
  show (match m[k]? with
    | some (.dct t kvs) => some (t, kvs)
    | _ => none) = _
  cases m[k]? with
  | none => rfl
  | some c => cases c <;> rfl
@[simp] theorem dctOf_ref (k : Nat) : dctOf m (.ref k) = celD m[k]? := by apply dctOf_ref0
@[simp] theorem dctOf_int (i : Int) : dctOf m (.int i) = none := (rfl)
@[simp] theorem dctOf_bl (i : Bool) : dctOf m (.bl i) = none := (rfl)
@[simp] theorem dctOf_non : dctOf m .non = none := (rfl)
@[simp] theorem dctOf_str (i : Str) : dctOf m (.str i) = none := (rfl)
@[simp] theorem dctOf_tup (i : List D) : dctOf m (.tup i) = none := (rfl)
@[simp] theorem dctOf_lst (i : List D) : dctOf m (.lst i) = none := (rfl)
@[simp] theorem dctOf_obj (c : Nat) (i : List D) : dctOf m (.obj c i) = none := (rfl)
def mergeD (ps : List (D × D)) : List (D × D) := ps.foldl (fun acc p => kput acc p.1 p.2) []
theorem ev_dpr0 (a : IE) : ev T C (.dpr a) s m = (ev T C a s m).bind fun x m1 => optR ((lstOf m1 x).bind pairsOf) fun ps => .ok (.ref m1.length) (m1 ++ [.dct true (mergeD ps)]) := by
  rw [ev]
  congr 1; funext x m1
  cases (lstOf m1 x).bind pairsOf <;> rfl
@[simp] theorem ev_dpr (a : IE) : ev T C (.dpr a) s m = (ev T C a s m).bindH fun x m1 => optR ((lstOf m1 x).bind pairsOf) fun ps => .ok (.ref m1.length) (m1 ++ [.dct true (mergeD ps)]) := by apply ev_dpr0
theorem ev_dlt0 (kvs : List (Str × Int)) : ev T C (.dlt kvs) s m = if kvs ≠ [] ∧ kvs.length ≤ 15 ∧ (kvs.map (·.1)).Nodup then .ok (.ref m.length) (m ++ [.dct false (kvs.map fun p => (.str p.1, .int p.2))]) else .bad := by rw [ev]
@[simp] theorem ev_dlt (kvs : List (Str × Int)) : ev T C (.dlt kvs) s m = if kvs ≠ [] ∧ kvs.length ≤ 15 ∧ (kvs.map (·.1)).Nodup then .ok (.ref m.length) (m ++ [.dct false (kvs.map fun p => (.str p.1, .int p.2))]) else .bad := by apply ev_dlt0
theorem ev_dge0 (a i : IE) : ev T C (.dge a i) s m = (ev T C a s m).bind fun x m1 => (ev T C i s m1).bind fun y m2 => optR (dctOf m2 x) fun p => if keyOk p.1 y = true then R.ofO (kfind p.2 y) m2 else .bad := by
  rw [ev]
  congr 1; funext x m1; congr 1; funext y m2
  cases dctOf m2 x <;> rfl
@[simp] theorem ev_dge (a i : IE) : ev T C (.dge a i) s m = (ev T C a s m).bindH fun x m1 => (ev T C i s m1).bindH fun y m2 => optR (dctOf m2 x) fun p => if keyOk p.1 y = true then R.ofO (kfind p.2 y) m2 else .bad := by apply ev_dge0
theorem ev_din0 (n : Bool) (x a : IE) : ev T C (.din n x a) s m = (ev T C x s m).bind fun y m1 => (ev T C a s m1).bind fun x m2 => optR (dctOf m2 x) fun p => if keyOk p.1 y = true then .ok (.bl ((kfind p.2 y).isSome != n)) m2 else .bad := by
  rw [ev]
  congr 1; funext y m1; congr 1; funext x m2
  cases dctOf m2 x <;> rfl
@[simp] theorem ev_din (n : Bool) (x a : IE) : ev T C (.din n x a) s m = (ev T C x s m).bindH fun y m1 => (ev T C a s m1).bindH fun x m2 => optR (dctOf m2 x) fun p => if keyOk p.1 y = true then .ok (.bl ((kfind p.2 y).isSome != n)) m2 else .bad := by apply ev_din0
end
/-! texts -/
section
variable (T : Tab) (C : CF) (s : List S) (m : Mu)
@[simp] theorem bop_add_str (a b : Str) : bopD T C .add (.str a) (.str b) m = if a.length + b.length ≤ sizeLine then .ok (.str (a ++ b)) m else .bad := by
  unfold bopD
  simp
@[simp] theorem strD_int (i : Int) : strD T C (.int i) m = if i.natAbs.log2 < 1920 then .ok (.str (toString i)) m else .bad := (rfl)
def strK (f : Str → Mu → R D) (z : D) (m2 : Mu) : R D := match z with
  | .str y => f y m2
  | _ => .bad
def fstD (x : D) (m1 : Mu) (f : Str → Mu → R D) : R D := match x with
  | .str y => f y m1
  | x => (strD T C x m1).bind (strK f)
@[simp] theorem fstD_str (y : Str) (f : Str → Mu → R D) : fstD T C (.str y) m f = f y m := rfl
@[simp] theorem fstD_int (i : Int) (f : Str → Mu → R D) : fstD T C (.int i) m f = if i.natAbs.log2 < 1920 then f (toString i) m else .bad := by
  show (strD T C (.int i) m).bind (strK f) = _
  rw [strD_int]
  split <;> rfl
theorem fstD_obj (c : Nat) (xs : List D) (f : Str → Mu → R D) : fstD T C (.obj c xs) m f = (strD T C (.obj c xs) m).bind (strK f) := rfl
@[simp] theorem strK_str (f : Str → Mu → R D) (y : Str) : strK f (.str y) m = f y m := rfl
theorem evF_slf0 (f : Nat) (a : IE) (s : List S) : evF T C (.slf f a) s m = (ev T C a s m).bind fun x m1 => optR (lstOf m1 x) fun xs => if slfOk xs = true then .ok (slfD xs) m1 else .bad := by
  rw [evF]
  congr 1
  funext x m1
  cases lstOf m1 x <;> rfl
@[simp] theorem evF_slf (f : Nat) (a : IE) (s : List S) : evF T C (.slf f a) s m = (ev T C a s m).bindH fun x m1 => optR (lstOf m1 x) fun xs => if slfOk xs = true then .ok (slfD xs) m1 else .bad := by apply evF_slf0
theorem evf_cons0 (a : IE) (r : IEs) (acc : Str) : evf T C (.cons a r) acc s m = (ev T C a s m).bind fun x m1 => fstD T C x m1 fun y m2 => if (acc ++ y).length ≤ sizeLine then evf T C r (acc ++ y) s m2 else .bad := by
  rw [evf]
  congr 1
@[simp] theorem evf_cons (a : IE) (r : IEs) (acc : Str) : evf T C (.cons a r) acc s m = (ev T C a s m).bindH fun x m1 => fstD T C x m1 fun y m2 => if (acc ++ y).length ≤ sizeLine then evf T C r (acc ++ y) s m2 else .bad := by apply evf_cons0
end
end Pm
end
end
section
set_option Elab.async false
set_option linter.all false
set_option maxRecDepth 100000
set_option maxHeartbeats 0
set_option exponentiation.threshold 5000
noncomputable section
namespace Lw
open Pm PySem
abbrev Pg : List Pm.Fn := rows.map (·.fn)
abbrev Tb : Tab := tabOf tl
@[simp] theorem at_wall : Pg[i_wall]? = some r_wall.fn := (rfl)
@[simp] theorem at_common : Pg[i_common]? = some r_common.fn := (rfl)
@[simp] theorem at_Ratio_init : Pg[i_Ratio_init]? = some r_Ratio_init.fn := (rfl)
@[simp] theorem at_Ratio_eq : Pg[i_Ratio_eq]? = some r_Ratio_eq.fn := (rfl)
@[simp] theorem at_Ratio_add : Pg[i_Ratio_add]? = some r_Ratio_add.fn := (rfl)
@[simp] theorem at_Ratio_sub : Pg[i_Ratio_sub]? = some r_Ratio_sub.fn := (rfl)
@[simp] theorem at_Ratio_mul : Pg[i_Ratio_mul]? = some r_Ratio_mul.fn := (rfl)
@[simp] theorem at_Ratio_str : Pg[i_Ratio_str]? = some r_Ratio_str.fn := (rfl)
@[simp] theorem at_Ratio_less : Pg[i_Ratio_less]? = some r_Ratio_less.fn := (rfl)
@[simp] theorem at_Ratio_over : Pg[i_Ratio_over]? = some r_Ratio_over.fn := (rfl)
@[simp] theorem at_added : Pg[i_added]? = some r_added.fn := (rfl)
@[simp] theorem at_is_group : Pg[i_is_group]? = some r_is_group.fn := (rfl)
@[simp] theorem at_Table_init : Pg[i_Table_init]? = some r_Table_init.fn := (rfl)
@[simp] theorem at_Table_eq : Pg[i_Table_eq]? = some r_Table_eq.fn := (rfl)
@[simp] theorem at_Table_earning : Pg[i_Table_earning]? = some r_Table_earning.fn := (rfl)
@[simp] theorem at_Table_whole : Pg[i_Table_whole]? = some r_Table_whole.fn := (rfl)
@[simp] theorem at_Table_inner : Pg[i_Table_inner]? = some r_Table_inner.fn := (rfl)
@[simp] theorem at_splits : Pg[i_splits]? = some r_splits.fn := (rfl)
@[simp] theorem at_best_split : Pg[i_best_split]? = some r_best_split.fn := (rfl)
@[simp] theorem at_len_first : Pg[i_len_first]? = some r_len_first.fn := (rfl)
@[simp] theorem at_l_pool : Pg[i_l_pool]? = some r_l_pool.fn := (rfl)
@[simp] theorem at_l_draw : Pg[i_l_draw]? = some r_l_draw.fn := (rfl)
@[simp] theorem at_l_same : Pg[i_l_same]? = some r_l_same.fn := (rfl)
@[simp] theorem at_l_less : Pg[i_l_less]? = some r_l_less.fn := (rfl)
@[simp] theorem at_l_plus : Pg[i_l_plus]? = some r_l_plus.fn := (rfl)
@[simp] theorem at_l_minus : Pg[i_l_minus]? = some r_l_minus.fn := (rfl)
@[simp] theorem at_l_below : Pg[i_l_below]? = some r_l_below.fn := (rfl)
@[simp] theorem at_l_sum : Pg[i_l_sum]? = some r_l_sum.fn := (rfl)
@[simp] theorem at_l_groups : Pg[i_l_groups]? = some r_l_groups.fn := (rfl)
@[simp] theorem at_l_joined : Pg[i_l_joined]? = some r_l_joined.fn := (rfl)
@[simp] theorem at_l_forest : Pg[i_l_forest]? = some r_l_forest.fn := (rfl)
@[simp] theorem at_l_family : Pg[i_l_family]? = some r_l_family.fn := (rfl)
@[simp] theorem at_l_amount : Pg[i_l_amount]? = some r_l_amount.fn := (rfl)
@[simp] theorem at_l_table_of : Pg[i_l_table_of]? = some r_l_table_of.fn := (rfl)
@[simp] theorem at_l_table : Pg[i_l_table]? = some r_l_table.fn := (rfl)
@[simp] theorem at_l_made : Pg[i_l_made]? = some r_l_made.fn := (rfl)
@[simp] theorem at_l_splits : Pg[i_l_splits]? = some r_l_splits.fn := (rfl)
@[simp] theorem at_law : Pg[i_law]? = some r_law.fn := (rfl)
@[simp] theorem fld_Ratio : Tb.fld k_Ratio = [f_num, f_den] := (rfl)
@[simp] theorem ini_Ratio : Tb.ini k_Ratio = some i_Ratio_init := (rfl)
@[simp] theorem isfrz_Ratio : Tb.frz k_Ratio = true := (rfl)
@[simp] theorem eqm_Ratio : Tb.eqm k_Ratio = some i_Ratio_eq := (rfl)
@[simp] theorem stm_Ratio : Tb.stm k_Ratio = some i_Ratio_str := (rfl)
@[simp] theorem att_Ratio_num (m : Mu) (x0 x1 : D) : attD Tb (.obj k_Ratio [x0, x1]) f_num m = some x0 := (rfl)
@[simp] theorem att_Ratio_den (m : Mu) (x0 x1 : D) : attD Tb (.obj k_Ratio [x0, x1]) f_den m = some x1 := (rfl)
@[simp] theorem ne_num_den : (f_num = f_den) = False := by decide
@[simp] theorem ne_den_num : (f_den = f_num) = False := by decide
@[simp] theorem opm_Ratio_add (C : CF) (xs ys : List D) (m : Mu) : bopD Tb C .add (.obj k_Ratio xs) (.obj k_Ratio ys) m = C i_Ratio_add [.obj k_Ratio xs, .obj k_Ratio ys] m := (rfl)
@[simp] theorem opm_Ratio_sub (C : CF) (xs ys : List D) (m : Mu) : bopD Tb C .sub (.obj k_Ratio xs) (.obj k_Ratio ys) m = C i_Ratio_sub [.obj k_Ratio xs, .obj k_Ratio ys] m := (rfl)
@[simp] theorem opm_Ratio_mul (C : CF) (xs ys : List D) (m : Mu) : bopD Tb C .mul (.obj k_Ratio xs) (.obj k_Ratio ys) m = C i_Ratio_mul [.obj k_Ratio xs, .obj k_Ratio ys] m := (rfl)
@[simp] theorem mth_Ratio_less : Tb.mth k_Ratio f_less = some i_Ratio_less := (rfl)
@[simp] theorem mth_Ratio_over : Tb.mth k_Ratio f_over = some i_Ratio_over := (rfl)
@[simp] theorem fld_Table : Tb.fld k_Table = [f_count, f_rows] := (rfl)
@[simp] theorem ini_Table : Tb.ini k_Table = some i_Table_init := (rfl)
@[simp] theorem isfrz_Table : Tb.frz k_Table = true := (rfl)
@[simp] theorem eqm_Table : Tb.eqm k_Table = some i_Table_eq := (rfl)
@[simp] theorem att_Table_count (m : Mu) (x0 x1 : D) : attD Tb (.obj k_Table [x0, x1]) f_count m = some x0 := (rfl)
@[simp] theorem att_Table_rows (m : Mu) (x0 x1 : D) : attD Tb (.obj k_Table [x0, x1]) f_rows m = some x1 := (rfl)
@[simp] theorem ne_count_rows : (f_count = f_rows) = False := by decide
@[simp] theorem ne_rows_count : (f_rows = f_count) = False := by decide
@[simp] theorem mth_Table_earning : Tb.mth k_Table f_earning = some i_Table_earning := (rfl)
@[simp] theorem mth_Table_whole : Tb.mth k_Table f_whole = some i_Table_whole := (rfl)
@[simp] theorem mth_Table_inner : Tb.mth k_Table f_inner = some i_Table_inner := (rfl)
end Lw
end
end
section
set_option Elab.async false
set_option linter.all false
set_option maxRecDepth 100000
set_option maxHeartbeats 4000000
set_option exponentiation.threshold 5000
noncomputable section
namespace Lw
open Pm PySem
/-! ratio0: common, Ratio (without BadRatio). -/
def lessN (n d : Int) : Int × Int := (n / (Int.gcd n d : Int), d / (Int.gcd n d : Int))
theorem gcd_lg {n d : Int} (hd : 0 < d) (hb : d < 2 ^ 1900) : 0 < Int.gcd n d ∧ (Int.gcd n d).log2 < 9000 := by
  have gp : 0 < Int.gcd n d := Int.gcd_pos_of_ne_zero_right n (show d ≠ 0 by omega)
  refine ⟨gp, ?_⟩
  have h1 : Int.gcd n d ≤ d.natAbs := Nat.le_of_dvd (by omega) (Int.gcd_dvd_natAbs_right n d)
  have h2 : d.natAbs < 2 ^ 1900 := by
    have : (d.natAbs : Int) < 2 ^ 1900 := by omega
    exact_mod_cast this
  have h3 := (Nat.log2_lt (by omega)).mpr (Nat.lt_of_le_of_lt h1 h2)
  omega
theorem gcd_abs (n d : Int) : (Int.gcd (n.natAbs : Int) d : Int) = (Int.gcd n d : Int) := by simp [Int.gcd]
/-- a fraction, small -/
structure Bd (k : Nat) (x : Int × Int) : Prop where
  pos : 0 < x.2
  den : x.2 < 2 ^ k
  num : x.1.natAbs < 2 ^ k
theorem lg {n k : Nat} (h : n < 2 ^ k) : n.log2 ≤ k := by
  by_cases q : n = 0
  · subst q; simp
  · exact Nat.le_of_lt ((Nat.log2_lt q).mpr h)
theorem Bd.dn {k : Nat} {x : Int × Int} (h : Bd k x) : x.2.natAbs < 2 ^ k := by
  have h1 := h.pos
  have h2 := h.den
  have : (x.2.natAbs : Int) < 2 ^ k := by omega
  exact_mod_cast this
theorem Bd.more {k l : Nat} {x : Int × Int} (h : Bd k x) (hk : k ≤ l) : Bd l x := by
  have p : (2 : Nat) ^ k ≤ 2 ^ l := Nat.pow_le_pow_right (by omega) hk
  have pi : (2 : Int) ^ k ≤ 2 ^ l := by exact_mod_cast p
  exact ⟨h.pos, Int.lt_of_lt_of_le h.den pi, Nat.lt_of_lt_of_le h.num p⟩
def dR (x : Int × Int) : D := .tup [.int x.1, .int x.2]
@[simp] theorem dR_eq (x : Int × Int) : dR x = .tup [.int x.1, .int x.2] := rfl
def dQ (x : Int × Int) : D := .obj k_Ratio [.int x.1, .int x.2]
@[simp] theorem dQ_eq (x : Int × Int) : dQ x = .obj k_Ratio [.int x.1, .int x.2] := rfl
/-- a row of a table -/
abbrev Rw := List Nat × (Int × Int)
def plusN (x y : Int × Int) : Int × Int := lessN (x.1 * y.2 + y.1 * x.2) (x.2 * y.2)
def minusN (x y : Int × Int) : Int × Int := lessN (x.1 * y.2 - y.1 * x.2) (x.2 * y.2)
def timesN (x y : Int × Int) : Int × Int := lessN (x.1 * y.1) (x.2 * y.2)
theorem den_mul {k : Nat} {x y : Int × Int} (hx : Bd k x) (hy : Bd k y) : 0 < x.2 * y.2 ∧ x.2 * y.2 < 2 ^ (k + k) := by
  refine ⟨Int.mul_pos hx.pos hy.pos, ?_⟩
  rw [Int.pow_add]
  have h1 := hx.pos
  have h2 := hy.pos
  exact Int.mul_lt_mul hx.den (Int.le_of_lt hy.den) h2 (Int.pow_nonneg (by omega))
theorem big_le : ((2 : Int) ^ (900 + 900)) ≤ 2 ^ 1900 := by decide +kernel
/-- the products that the operators make -/
structure Prd (x y : Int × Int) : Prop where
  ps : 0 < x.2 * y.2
  lt : x.2 * y.2 < 2 ^ 1900
  m1 : x.1.natAbs.log2 + y.2.natAbs.log2 < 1000000
  m2 : y.1.natAbs.log2 + x.2.natAbs.log2 < 1000000
  m3 : x.2.natAbs.log2 + y.2.natAbs.log2 < 1000000
  m4 : x.1.natAbs.log2 + y.1.natAbs.log2 < 1000000
theorem prd {x y : Int × Int} (hx : Bd 900 x) (hy : Bd 900 y) : Prd x y := by
  obtain ⟨p1, p2⟩ := den_mul hx hy
  have l1 := lg hx.num
  have l2 := lg hx.dn
  have l3 := lg hy.num
  have l4 := lg hy.dn
  exact ⟨p1, Int.lt_of_lt_of_le p2 big_le, by omega, by omega, by omega, by omega⟩
/-! Ratio -/
theorem cm_loop (C : CF) (fu : Nat) {n : Nat} {a b g : Int} (h : Eu n a b g) : ∀ (f : Nat) (m : Mu), 0 ≤ a → 0 ≤ b → n < f → loopW (tru Tb C t_common_1) (exs Tb C fu w_common_1) f [.val (.int a), .val (.int b)] m = .nx [.val (.int g), .val (.int 0)] m := by
  induction h with
  | done n a =>
    intro f m ha hb hn
    obtain ⟨f, rfl⟩ : ∃ k, f = k + 1 := ⟨f - 1, by omega⟩
    rw [loopW]
    simp [t_common_1]
  | @step n a b g hb0 h ih =>
    intro f m ha hb hn
    obtain ⟨f, rfl⟩ : ∃ k, f = k + 1 := ⟨f - 1, by omega⟩
    have hb' : 0 < b := by omega
    have ih := ih f m hb (Int.emod_nonneg a hb0) (by omega)
    rw [loopW]
    simp only [tru_eq, t_common_1] at ih ⊢
    simp [hb0, w_common_1, hb']
    simpa [w_common_1] using ih
theorem common_ok (fu j : Nat) (a b : Int) (m : Mu) (ha : 0 ≤ a) (hb : 0 ≤ b) (h : b < 2 ^ 1900) (hf : 4000 < fu) : evP Tb Pg fu (j + 1) i_common [.int a, .int b] m = .ok (.int (Int.gcd a b : Int)) m := by
  have e := cm_loop (evP Tb Pg fu j) fu (eu_gcd 1900 a b ha hb h) fu m ha hb (by omega)
  rw [call_at at_common]
  simp only [runF_eq, r_common, b_common, exs_cons, ex_whl]
  simp only [enter, List.map_cons, List.map_nil, List.length_cons, List.length_nil]
  simp [e]
theorem init_ok (fu j : Nat) (n d : Int) (m : Mu) (hd : 0 < d) (hb : d < 2 ^ 1900) (hf : 4000 < fu) :
    evP Tb Pg fu (j + 2) i_Ratio_init [.ref m.length, .int n, .int d] (m ++ [.ins k_Ratio []]) = .ok .non (m ++ [.ins k_Ratio [(f_num, .int (lessN n d).1), (f_den, .int (lessN n d).2)]]) := by
  have e := common_ok fu j (n.natAbs : Int) d (m ++ [.ins k_Ratio []]) (by omega) (by omega) hb hf
  rw [gcd_abs] at e
  obtain ⟨gp, gl⟩ := gcd_lg (n := n) hd hb
  have hd' : ¬ d ≤ 0 := by omega
  rw [call_at at_Ratio_init]
  simp [runF_eq, r_Ratio_init, b_Ratio_init, enter, e, gp, gl, hd', fldPut, lessN, List.getElem?_append_right, List.set_append_right]
theorem ratio_ok (fu j : Nat) (n d : Int) (m : Mu) (hd : 0 < d) (hb : d < 2 ^ 1900) (hf : 4000 < fu) : newD Tb (evP Tb Pg fu (j + 2)) k_Ratio [.int n, .int d] m = .ok (dQ (lessN n d)) m := by
  have e := init_ok fu j n d m hd hb hf
  unfold newD
  simp [e, plns, pln]
theorem less_bd {k : Nat} {n d : Int} (hd : 0 < d) (h1 : d < 2 ^ k) (h2 : n.natAbs < 2 ^ k) : Bd k (lessN n d) := by
  have gp : 0 < Int.gcd n d := Int.gcd_pos_of_ne_zero_right n (show d ≠ 0 by omega)
  have gi : (0 : Int) < (Int.gcd n d : Int) := by omega
  refine ⟨?_, ?_, ?_⟩
  · show 0 < d / (Int.gcd n d : Int)
    exact Int.ediv_pos_of_pos_of_dvd hd (by omega) (Int.gcd_dvd_right n d)
  · show d / (Int.gcd n d : Int) < 2 ^ k
    exact Int.lt_of_le_of_lt (Int.ediv_le_self _ (by omega)) h1
  · show (n / (Int.gcd n d : Int)).natAbs < 2 ^ k
    obtain ⟨c, hc⟩ := Int.gcd_dvd_left n d
    have e : n / (Int.gcd n d : Int) = c := Int.ediv_eq_of_eq_mul_right (by omega) hc
    rw [e]
    have : c.natAbs ≤ n.natAbs := by
      have h3 := congrArg Int.natAbs hc
      rw [Int.natAbs_mul] at h3
      rw [h3]
      exact Nat.le_mul_of_pos_left _ (by omega)
    omega
end Lw
end
end
section
set_option Elab.async false
set_option linter.all false
set_option maxRecDepth 100000
set_option maxHeartbeats 4000000
set_option exponentiation.threshold 5000
noncomputable section
namespace Lw
open Pm PySem
/-! qeq: == of fractions. -/
theorem eqd_dQ (x y : Int × Int) : eqd (dQ x) (dQ y) = decide (x = y) := by
  refine eqd_of ?_
  simp [Prod.ext_iff]
@[simp] theorem eqD_dR (T : Tab) (C : CF) (m : Mu) (a b c d : Int) : eqD T C m (.tup [.int a, .int b]) (.tup [.int c, .int d]) = some (decide (a = c ∧ b = d)) := by
  rw [eqD_flp T C m (by simp [flp, flt, flts, dep, deps]) (by simp [flp, flt, flts, dep, deps]) rfl rfl, vw_tup, vw_tup, eqd_of (p := a = c ∧ b = d)]
  simp
@[simp] theorem neD_dR (m : Mu) (a b c d : Int) : neD m (.tup [.int a, .int b]) (.tup [.int c, .int d]) = some (!decide (a = c ∧ b = d)) := by
  rw [neD_flp m (by simp [flp, flt, flts, dep, deps]) (by simp [flp, flt, flts, dep, deps]) rfl rfl, vw_tup, vw_tup, eqd_of (p := a = c ∧ b = d)]
  simp
theorem qeq_ok (fu j : Nat) (x y : Int × Int) (m : Mu) : evP Tb Pg fu (j + 1) i_Ratio_eq [dQ x, dQ y] m = .ok (.bl (eqd (dQ x) (dQ y))) m := by
  rw [eqd_dQ, call_at at_Ratio_eq]
  simp [runF_eq, r_Ratio_eq, b_Ratio_eq, enter, okVx, isiD, tyIs, lim, Prod.ext_iff]
/-- == of two Ratios -/
@[simp] theorem eqD_dQ (fu j : Nat) (x y : Int × Int) (m : Mu) : eqD Tb (evP Tb Pg fu (j + 1)) m (.obj k_Ratio [.int x.1, .int x.2]) (.obj k_Ratio [.int y.1, .int y.2]) = some (decide (x = y)) := by
  unfold eqD
  have v : ∀ c xs, vw m (.obj c xs) = .obj c xs := fun c xs => rfl
  rw [if_neg (by simp [isBl, sca]), v, v, if_neg (by simp [flp, flt]), if_pos, ← dQ_eq, ← dQ_eq, eqd_dQ]
  refine ⟨by simp [dep], ?_⟩
  unfold eqc
  exact ⟨rfl, rfl, rfl, i_Ratio_eq, eqm_Ratio, qeq_ok fu j x y m⟩
end Lw
end
end
section
set_option Elab.async false
set_option linter.all false
set_option maxRecDepth 100000
set_option maxHeartbeats 4000000
set_option exponentiation.threshold 5000
noncomputable section
namespace Lw
open Pm PySem
/-! lratio: the law's own fractions, and the operators of Ratio (behind ratio0). -/
theorem less_turn (C : CF) (fu : Nat) (x a b n0 d0 : Int) (s4 : S) (m : Mu) (hb : 0 < b) :
    turnS Tb C fu (.nam 4) w_l_less_1 (.int x) [.val (.int n0), .val (.int d0), .val (.int a), .val (.int b), s4] m = .nx [.val (.int n0), .val (.int d0), .val (.int b), .val (.int (a % b)), .val (.int x)] m := by
  have h0 : b ≠ 0 := by omega
  simp [turnS_eq, w_l_less_1, hb, h0]
theorem less_end (C : CF) (fu : Nat) (x a n0 d0 : Int) (s4 : S) (m : Mu) :
    turnS Tb C fu (.nam 4) w_l_less_1 (.int x) [.val (.int n0), .val (.int d0), .val (.int a), .val (.int 0), s4] m = .bk [.val (.int n0), .val (.int d0), .val (.int a), .val (.int 0), .val (.int x)] m := by
  simp [turnS_eq, w_l_less_1]
theorem less_loop (C : CF) (fu : Nat) (ck : Mu → Prop) (hck : ∀ m, ck m) {n : Nat} {a b g : Int} (h : Eu n a b g) : ∀ (xs : List Nat) (n0 d0 : Int) (s4 : S) (m : Mu), 0 ≤ a → 0 ≤ b → n < xs.length →
    ∃ s4', loopS ck (turnS Tb C fu (.nam 4) w_l_less_1) (xs.map dN) [.val (.int n0), .val (.int d0), .val (.int a), .val (.int b), s4] m = .nx [.val (.int n0), .val (.int d0), .val (.int g), .val (.int 0), s4'] m := by
  induction h with
  | done n a =>
    intro xs n0 d0 s4 m ha hb hn
    cases xs with
    | nil => simp at hn
    | cons x xs =>
      refine ⟨.val (.int x), ?_⟩
      rw [List.map_cons, dN_eq, loopS, if_pos (hck m), less_end]
  | @step n a b g hb0 h ih =>
    intro xs n0 d0 s4 m ha hb hn
    cases xs with
    | nil => simp at hn
    | cons x xs =>
      have hb' : 0 < b := by omega
      obtain ⟨s4', e⟩ := ih xs n0 d0 (.val (.int x)) m hb (Int.emod_nonneg a hb0) (by simpa using hn)
      refine ⟨s4', ?_⟩
      rw [List.map_cons, dN_eq, loopS, if_pos (hck m), less_turn C fu x a b n0 d0 s4 m hb']
      exact e
/-- lowest terms -/
theorem less_ok (fu j : Nat) (n d : Int) (m : Mu) (hd : 0 < d) (hb : d < 2 ^ 1900) :
    evP Tb Pg fu (j + 1) i_l_less [.int n, .int d] m = .ok (.tup [.int (lessN n d).1, .int (lessN n d).2]) m := by
  have hE := eu_gcd 1900 (n.natAbs : Int) d (by omega) (by omega) hb
  obtain ⟨s4', e⟩ := less_loop (evP Tb Pg fu j) fu (fun _ => True) (fun _ => trivial) hE (List.range 4000) n d .emp m (by omega) (by omega) (by rw [List.length_range]; omega)
  rw [gcd_abs] at e
  obtain ⟨gp, gl⟩ := gcd_lg (n := n) hd hb
  have e' : loopS (Kd.fr.ok ((List.range 4000).map dN)) (turnS Tb (evP Tb Pg fu j) fu (.nam 4) w_l_less_1) ((List.range 4000).map dN) [.val (.int n), .val (.int d), .val (.int (n.natAbs : Int)), .val (.int d), .emp] m = .nx [.val (.int n), .val (.int d), .val (.int (Int.gcd n d : Int)), .val (.int 0), s4'] m := e
  rw [call_at at_l_less]
  simp [runF_eq, r_l_less, b_l_less, enter, rng_eq, e', gp, gl, lessN, lim]
theorem plus_ok (fu j : Nat) {x y : Int × Int} (m : Mu) (hx : Bd 900 x) (hy : Bd 900 y) : evP Tb Pg fu (j + 2) i_l_plus [.tup [.int x.1, .int x.2], .tup [.int y.1, .int y.2]] m = .ok (dR (plusN x y)) m := by
  have p := prd hx hy
  rw [call_at at_l_plus]
  simp [runF_eq, r_l_plus, b_l_plus, enter, L2.atI, L2.ixN, lim, p.m1, p.m2, p.m3, less_ok fu j _ _ m p.ps p.lt, plusN]
theorem minus_ok (fu j : Nat) {x y : Int × Int} (m : Mu) (hx : Bd 900 x) (hy : Bd 900 y) : evP Tb Pg fu (j + 2) i_l_minus [.tup [.int x.1, .int x.2], .tup [.int y.1, .int y.2]] m = .ok (dR (minusN x y)) m := by
  have p := prd hx hy
  rw [call_at at_l_minus]
  simp [runF_eq, r_l_minus, b_l_minus, enter, L2.atI, L2.ixN, lim, p.m1, p.m2, p.m3, less_ok fu j _ _ m p.ps p.lt, minusN]
theorem qadd_ok (fu j : Nat) {x y : Int × Int} (m : Mu) (hx : Bd 900 x) (hy : Bd 900 y) (hf : 4000 < fu) : evP Tb Pg fu (j + 3) i_Ratio_add [dQ x, dQ y] m = .ok (dQ (plusN x y)) m := by
  have p := prd hx hy
  rw [call_at at_Ratio_add]
  simp [runF_eq, r_Ratio_add, b_Ratio_add, enter, p.m1, p.m2, p.m3, ratio_ok fu j _ _ m p.ps p.lt hf, plusN]
theorem qsub_ok (fu j : Nat) {x y : Int × Int} (m : Mu) (hx : Bd 900 x) (hy : Bd 900 y) (hf : 4000 < fu) : evP Tb Pg fu (j + 3) i_Ratio_sub [dQ x, dQ y] m = .ok (dQ (minusN x y)) m := by
  have p := prd hx hy
  rw [call_at at_Ratio_sub]
  simp [runF_eq, r_Ratio_sub, b_Ratio_sub, enter, p.m1, p.m2, p.m3, ratio_ok fu j _ _ m p.ps p.lt hf, minusN]
theorem qless_ok (fu j : Nat) {x y : Int × Int} (m : Mu) (hx : Bd 900 x) (hy : Bd 900 y) : evP Tb Pg fu (j + 1) i_Ratio_less [dQ x, dQ y] m = .ok (.bl (decide (x.1 * y.2 < y.1 * x.2))) m := by
  have p := prd hx hy
  rw [call_at at_Ratio_less]
  simp [runF_eq, r_Ratio_less, b_Ratio_less, enter, p.m1, p.m2]
end Lw
end
end
section
set_option Elab.async false
set_option linter.all false
set_option maxRecDepth 100000
set_option maxHeartbeats 4000000
set_option exponentiation.threshold 5000
noncomputable section
namespace Lw
open Pm PySem
/-! nrm: lowest terms of equal fractions. -/
theorem lessN_mul (n d k : Int) (hk : 0 < k) : lessN (n * k) (d * k) = lessN n d := by
  unfold lessN
  have e : (Int.gcd (n * k) (d * k) : Int) = (Int.gcd n d : Int) * k := by
    rw [Int.gcd_mul_right, Int.natCast_mul, Int.natAbs_of_nonneg (by omega)]
  rw [e, Int.mul_ediv_mul_of_pos_left _ _ hk, Int.mul_ediv_mul_of_pos_left _ _ hk]
theorem lessN_eq {n d n' d' : Int} (hd : 0 < d) (hd' : 0 < d') (h : n * d' = n' * d) : lessN n d = lessN n' d' := by
  rw [← lessN_mul n d d' hd', ← lessN_mul n' d' d hd, h, Int.mul_comm d d']
/-- a fraction and its lowest terms -/
theorem lessN_cross {n d : Int} (hd : 0 < d) : n * (lessN n d).2 = (lessN n d).1 * d := by
  have gp : 0 < Int.gcd n d := Int.gcd_pos_of_ne_zero_right n (show d ≠ 0 by omega)
  obtain ⟨a, ha⟩ := Int.gcd_dvd_left n d
  obtain ⟨b, hb⟩ := Int.gcd_dvd_right n d
  have e1 : n / (Int.gcd n d : Int) = a := Int.ediv_eq_of_eq_mul_right (by omega) ha
  have e2 : d / (Int.gcd n d : Int) = b := Int.ediv_eq_of_eq_mul_right (by omega) hb
  show n * (d / (Int.gcd n d : Int)) = n / (Int.gcd n d : Int) * d
  rw [e1, e2]
  generalize (Int.gcd n d : Int) = g at ha hb
  rw [ha, hb]
  grind
theorem lessN_pos {n d : Int} (hd : 0 < d) : 0 < (lessN n d).2 := by
  have gp : 0 < Int.gcd n d := Int.gcd_pos_of_ne_zero_right n (show d ≠ 0 by omega)
  exact Int.ediv_pos_of_pos_of_dvd hd (by omega) (Int.gcd_dvd_right n d)
abbrev nrm (x : Int × Int) : Int × Int := lessN x.1 x.2
/-- the sign of the lowest terms -/
theorem nrm_gcd (x : Int × Int) (hd : 0 < x.2) : ∃ g : Int, 0 < g ∧ x.1 = (nrm x).1 * g ∧ x.2 = (nrm x).2 * g := by
  have gp : 0 < Int.gcd x.1 x.2 := Int.gcd_pos_of_ne_zero_right _ (show x.2 ≠ 0 by omega)
  refine ⟨(Int.gcd x.1 x.2 : Int), by omega, ?_, ?_⟩
  · exact (Int.ediv_mul_cancel (Int.gcd_dvd_left _ _)).symm
  · exact (Int.ediv_mul_cancel (Int.gcd_dvd_right _ _)).symm
section
variable {x y : Int × Int} (hx : 0 < x.2) (hy : 0 < y.2)
include hx hy
theorem nrm_plus : plusN (nrm x) (nrm y) = plusN x y := by
  obtain ⟨g, g0, e1, e2⟩ := nrm_gcd x hx
  obtain ⟨h, h0, f1, f2⟩ := nrm_gcd y hy
  have p1 : 0 < (nrm x).2 := lessN_pos hx
  have p2 : 0 < (nrm y).2 := lessN_pos hy
  refine lessN_eq (Int.mul_pos p1 p2) (Int.mul_pos hx hy) ?_
  generalize nrm x = a at *
  generalize nrm y = b at *
  rw [e1, e2, f1, f2]
  grind
theorem nrm_minus : minusN (nrm x) (nrm y) = minusN x y := by
  obtain ⟨g, g0, e1, e2⟩ := nrm_gcd x hx
  obtain ⟨h, h0, f1, f2⟩ := nrm_gcd y hy
  have p1 : 0 < (nrm x).2 := lessN_pos hx
  have p2 : 0 < (nrm y).2 := lessN_pos hy
  refine lessN_eq (Int.mul_pos p1 p2) (Int.mul_pos hx hy) ?_
  generalize nrm x = a at *
  generalize nrm y = b at *
  rw [e1, e2, f1, f2]
  grind
theorem nrm_times : timesN (nrm x) (nrm y) = timesN x y := by
  obtain ⟨g, g0, e1, e2⟩ := nrm_gcd x hx
  obtain ⟨h, h0, f1, f2⟩ := nrm_gcd y hy
  have p1 : 0 < (nrm x).2 := lessN_pos hx
  have p2 : 0 < (nrm y).2 := lessN_pos hy
  refine lessN_eq (Int.mul_pos p1 p2) (Int.mul_pos hx hy) ?_
  generalize nrm x = a at *
  generalize nrm y = b at *
  rw [e1, e2, f1, f2]
  grind
theorem nrm_lt : (nrm x).1 * (nrm y).2 < (nrm y).1 * (nrm x).2 ↔ x.1 * y.2 < y.1 * x.2 := by
  obtain ⟨g, g0, e1, e2⟩ := nrm_gcd x hx
  obtain ⟨h, h0, f1, f2⟩ := nrm_gcd y hy
  have k : 0 < g * h := Int.mul_pos g0 h0
  generalize nrm x = a at *
  generalize nrm y = b at *
  rw [e1, e2, f1, f2]
  have q1 : a.1 * g * (b.2 * h) = a.1 * b.2 * (g * h) := by grind
  have q2 : b.1 * h * (a.2 * g) = b.1 * a.2 * (g * h) := by grind
  rw [q1, q2]
  exact ⟨fun z => Int.mul_lt_mul_of_pos_right z k, fun z => Int.lt_of_mul_lt_mul_right z (Int.le_of_lt k)⟩
end
/-- the quotient -/
def overN (x y : Int × Int) : Int × Int := if y.1 < 0 then lessN (-x.1 * y.2) (-x.2 * y.1) else lessN (x.1 * y.2) (x.2 * y.1)
theorem nrm_over {x y : Int × Int} (hx : 0 < x.2) (hy : 0 < y.2) (h0 : y.1 ≠ 0) (s : Int) (hs : s = if y.1 < 0 then -1 else 1) : overN (nrm x) (nrm y) = lessN (x.1 * y.2 * s) (x.2 * y.1 * s) := by
  obtain ⟨g, g0, e1, e2⟩ := nrm_gcd x hx
  obtain ⟨h, h1, f1, f2⟩ := nrm_gcd y hy
  have p1 : 0 < (nrm x).2 := lessN_pos hx
  have p2 : 0 < (nrm y).2 := lessN_pos hy
  generalize nrm x = a at *
  generalize nrm y = b at *
  unfold overN
  by_cases c : y.1 < 0
  · have c' : b.1 < 0 := by
      rw [f1] at c
      exact Int.not_le.mp fun z => by have := Int.mul_nonneg z (Int.le_of_lt h1); omega
    rw [if_pos c'] 
    rw [if_pos c] at hs
    subst hs
    refine lessN_eq ?_ ?_ ?_
    · have := Int.mul_pos p1 (show 0 < -b.1 by omega)
      grind
    · have := Int.mul_pos hx (show 0 < -y.1 by omega)
      grind
    · rw [e1, e2, f1, f2]
      grind
  · have c' : ¬ b.1 < 0 := fun z => c (by rw [f1]; exact Int.mul_neg_of_neg_of_pos z h1)
    have b0 : b.1 ≠ 0 := fun z => h0 (by rw [f1, z, Int.zero_mul])
    rw [if_neg c']
    rw [if_neg c] at hs
    subst hs
    refine lessN_eq (Int.mul_pos p1 (by omega)) ?_ ?_
    · have := Int.mul_pos hx (show 0 < y.1 by omega)
      omega
    · rw [e1, e2, f1, f2]
      grind
theorem nrm_zero {y : Int × Int} (hy : 0 < y.2) : (nrm y).1 = 0 ↔ y.1 = 0 := by
  obtain ⟨h, h1, f1, f2⟩ := nrm_gcd y hy
  generalize nrm y = b at *
  constructor
  · intro z; rw [f1, z, Int.zero_mul]
  · intro z
    rw [f1] at z
    rcases Int.mul_eq_zero.mp z with z | z
    · exact z
    · omega
end Lw
end
end
section
set_option Elab.async false
set_option linter.all false
set_option maxRecDepth 100000
set_option maxHeartbeats 4000000
set_option exponentiation.threshold 5000
noncomputable section
namespace Lw
open Pm PySem
/-! below: the law's < of fractions (part of ratio3, for laws without times). -/
theorem lbelow_ok (fu j : Nat) {x y : Int × Int} (m : Mu) (hx : Bd 900 x) (hy : Bd 900 y) : evP Tb Pg fu (j + 1) i_l_below [.tup [.int x.1, .int x.2], .tup [.int y.1, .int y.2]] m = .ok (.bl (decide (x.1 * y.2 < y.1 * x.2))) m := by
  have p := prd hx hy
  rw [call_at at_l_below]
  simp [runF_eq, r_l_below, b_l_below, enter, L2.atI, L2.ixN, lim, p.m1, p.m2]
end Lw
end
end
section
set_option Elab.async false
set_option linter.all false
set_option maxRecDepth 100000
set_option maxHeartbeats 4000000
set_option exponentiation.threshold 5000
noncomputable section
namespace Lw
open Pm PySem
/-! sums: sums of fractions, the law's and the program's. -/
theorem nums_bd {a b : Nat} {x y : Int × Int} (hx : Bd a x) (hy : Bd b y) : (x.1 * y.2).natAbs ≤ 2 ^ a * 2 ^ b ∧ (y.1 * x.2).natAbs < 2 ^ a * 2 ^ b := by
  constructor
  · rw [Int.natAbs_mul]
    exact Nat.mul_le_mul (Nat.le_of_lt hx.num) (Nat.le_of_lt hy.dn)
  · rw [Int.natAbs_mul, Nat.mul_comm]
    exact Nat.mul_lt_mul_of_lt_of_le hx.dn (Nat.le_of_lt hy.num) (Nat.pow_pos (by omega))
theorem dens_bd {a b : Nat} {x y : Int × Int} (hx : Bd a x) (hy : Bd b y) : x.2 * y.2 < 2 ^ (a + b + 1) := by
  have d2 : x.2 * y.2 < 2 ^ a * 2 ^ b := Int.mul_lt_mul hx.den (Int.le_of_lt hy.den) hy.pos (Int.pow_nonneg (by omega))
  have e1 : ((2 : Int) ^ (a + b + 1)) = 2 * (2 ^ a * 2 ^ b) := by rw [Int.pow_succ, Int.pow_add]; omega
  have := Int.mul_pos hx.pos hy.pos
  omega
theorem plus_bd {a b : Nat} {x y : Int × Int} (hx : Bd a x) (hy : Bd b y) : Bd (a + b + 1) (plusN x y) := by
  obtain ⟨n1, n2⟩ := nums_bd hx hy
  refine less_bd (Int.mul_pos hx.pos hy.pos) (dens_bd hx hy) ?_
  have n3 := Int.natAbs_add_le (x.1 * y.2) (y.1 * x.2)
  rw [Nat.pow_succ, Nat.pow_add]
  omega
theorem minus_bd {a b : Nat} {x y : Int × Int} (hx : Bd a x) (hy : Bd b y) : Bd (a + b + 1) (minusN x y) := by
  obtain ⟨n1, n2⟩ := nums_bd hx hy
  refine less_bd (Int.mul_pos hx.pos hy.pos) (dens_bd hx hy) ?_
  have n3 := Int.natAbs_sub_le (x.1 * y.2) (y.1 * x.2)
  rw [Nat.pow_succ, Nat.pow_add]
  omega
def sumN (xs : List (Int × Int)) : Int × Int := xs.foldl plusN (0, 1)
theorem bd01 : Bd 2 (0, 1) := ⟨by decide, by decide, by decide⟩
theorem foldl_bd {B : Nat} : ∀ (xs : List (Int × Int)) (acc : Int × Int) (k : Nat), Bd k acc → (∀ x ∈ xs, Bd B x) → Bd (k + (B + 1) * xs.length) (xs.foldl plusN acc)
  | [], acc, k, h, _ => h
  | x :: xs, acc, k, h, hx => by
    have := foldl_bd xs (plusN acc x) (k + B + 1) (plus_bd h (hx x List.mem_cons_self)) fun y hy => hx y (List.mem_cons_of_mem _ hy)
    rw [List.foldl_cons, List.length_cons, Nat.mul_succ]
    exact this.more (by omega)
theorem sum_bd {B : Nat} (xs : List (Int × Int)) (hx : ∀ x ∈ xs, Bd B x) : Bd (2 + (B + 1) * xs.length) (sumN xs) := foldl_bd xs (0, 1) 2 bd01 hx
/-- the accumulator's bound at each turn -/
theorem sum_loop (fu j : Nat) (ck : Mu → Prop) (m : Mu) (hck : ck m) {B : Nat} : ∀ (xs : List (Int × Int)) (acc : Int × Int) (v0 s2 : S) (k : Nat), Bd k acc → (∀ x ∈ xs, Bd B x) → k + (B + 1) * xs.length ≤ 900 →
    ∃ s2', loopS ck (turnS Tb (evP Tb Pg fu (j + 2)) fu (.nam 2) w_l_sum_1) (xs.map dR) [v0, .val (dR acc), s2] m = .nx [v0, .val (dR (xs.foldl plusN acc)), s2'] m
  | [], acc, v0, s2, k, _, _, _ => ⟨s2, by rw [List.map_nil, loopS, if_pos hck]; rfl⟩
  | x :: xs, acc, v0, s2, k, ha, hx, hk => by
    rw [List.length_cons, Nat.mul_succ] at hk
    have bx := hx x List.mem_cons_self
    have e := plus_ok fu j m (ha.more (show k ≤ 900 by omega)) (bx.more (show B ≤ 900 by omega))
    obtain ⟨s2', e2⟩ := sum_loop fu j ck m hck xs (plusN acc x) v0 (.val (dR x)) (k + B + 1) (plus_bd ha bx) (fun y hy => hx y (List.mem_cons_of_mem _ hy)) (by omega)
    refine ⟨s2', ?_⟩
    rw [List.map_cons, loopS, if_pos hck]
    have e3 : turnS Tb (evP Tb Pg fu (j + 2)) fu (.nam 2) w_l_sum_1 (dR x) [v0, .val (dR acc), s2] m = .nx [v0, .val (dR (plusN acc x)), .val (dR x)] m := by
      simp [turnS_eq, w_l_sum_1, e]
    rw [e3]
    exact e2
theorem sum_ok (fu j : Nat) (xs : List (Int × Int)) (m : Mu) {B : Nat} (hx : ∀ x ∈ xs, Bd B x) (hl : 2 + (B + 1) * xs.length ≤ 900) : evP Tb Pg fu (j + 3) i_l_sum [.lst (xs.map dR)] m = .ok (dR (sumN xs)) m := by
  obtain ⟨s2', e⟩ := sum_loop fu j (Kd.fr.ok (xs.map dR)) m trivial xs (0, 1) (.val (.lst (xs.map dR))) .emp 2 bd01 hx hl
  simp only [dR_eq] at e
  rw [call_at at_l_sum]
  simp [runF_eq, r_l_sum, b_l_sum, enter, e, sumN, lim]
theorem sumc_ok (fu j : Nat) (xs : List (Int × Int)) (k : Nat) (m : Mu) (hm : m[k]? = some (.lst (xs.map dR))) {B : Nat} (hx : ∀ x ∈ xs, Bd B x) (hl : 2 + (B + 1) * xs.length ≤ 900) : evP Tb Pg fu (j + 3) i_l_sum [.ref k] m = .ok (dR (sumN xs)) m := by
  obtain ⟨s2', e⟩ := sum_loop fu j (Kd.ok (.ce k) (xs.map dR)) m hm xs (0, 1) (.val (.ref k)) .emp 2 bd01 hx hl
  simp only [dR_eq] at e
  rw [call_at at_l_sum]
  simp [runF_eq, r_l_sum, b_l_sum, enter, hm, e, sumN, lim]
theorem add_loop (fu j : Nat) (hf : 4000 < fu) (ck : Mu → Prop) (m : Mu) (hck : ck m) {B : Nat} : ∀ (xs : List (Int × Int)) (acc : Int × Int) (v0 s2 : S) (k : Nat), Bd k acc → (∀ x ∈ xs, Bd B x) → k + (B + 1) * xs.length ≤ 900 →
    ∃ s2', loopS ck (turnS Tb (evP Tb Pg fu (j + 3)) fu (.nam 2) w_added_1) (xs.map dQ) [v0, .val (dQ acc), s2] m = .nx [v0, .val (dQ (xs.foldl plusN acc)), s2'] m
  | [], acc, v0, s2, k, _, _, _ => ⟨s2, by rw [List.map_nil, loopS, if_pos hck]; rfl⟩
  | x :: xs, acc, v0, s2, k, ha, hx, hk => by
    rw [List.length_cons, Nat.mul_succ] at hk
    have bx := hx x List.mem_cons_self
    have e := qadd_ok fu j m (ha.more (show k ≤ 900 by omega)) (bx.more (show B ≤ 900 by omega)) hf
    obtain ⟨s2', e2⟩ := add_loop fu j hf ck m hck xs (plusN acc x) v0 (.val (dQ x)) (k + B + 1) (plus_bd ha bx) (fun y hy => hx y (List.mem_cons_of_mem _ hy)) (by omega)
    refine ⟨s2', ?_⟩
    rw [List.map_cons, loopS, if_pos hck]
    have e3 : turnS Tb (evP Tb Pg fu (j + 3)) fu (.nam 2) w_added_1 (dQ x) [v0, .val (dQ acc), s2] m = .nx [v0, .val (dQ (plusN acc x)), .val (dQ x)] m := by
      simp only [dQ_eq] at e
      simp [turnS_eq, w_added_1, e]
    rw [e3]
    exact e2
theorem less01 : lessN 0 1 = (0, 1) := by decide +kernel
theorem added_ok (fu j : Nat) (hf : 4000 < fu) (xs : List (Int × Int)) (m : Mu) {B : Nat} (hx : ∀ x ∈ xs, Bd B x) (hl : 2 + (B + 1) * xs.length ≤ 900) (mk : List D → D) (hmk : mk = D.lst ∨ mk = D.tup) : evP Tb Pg fu (j + 4) i_added [mk (xs.map dQ)] m = .ok (dQ (sumN xs)) m := by
  have e0 := ratio_ok fu (j + 1) 0 1 m (by decide) (by decide +kernel) hf
  rw [less01] at e0
  obtain ⟨s2', e⟩ := add_loop fu j hf (Kd.fr.ok (xs.map dQ)) m trivial xs (0, 1) (.val (mk (xs.map dQ))) .emp 2 bd01 hx hl
  rw [call_at at_added]
  simp only [dQ_eq] at e e0
  rcases hmk with rfl | rfl <;> simp [runF_eq, r_added, b_added, enter, e, e0, sumN, lim]
/-- the payments of a group -/
def pick (ps : List (Int × Int)) (g : List Nat) : List (Int × Int) := g.map fun i => ps.getD i (0, 1)
def paidN (ps : List (Int × Int)) (g : List Nat) : Int × Int := sumN (pick ps g)
theorem pick_bd {B : Nat} {ps : List (Int × Int)} {g : List Nat} (hb : ∀ x ∈ ps, Bd B x) (hg : ∀ i ∈ g, i < ps.length) : ∀ x ∈ pick ps g, Bd B x := fun x hx => by
  obtain ⟨i, hi, rfl⟩ := List.mem_map.mp hx
  rw [List.getD_eq_getElem?_getD, List.getElem?_eq_getElem (hg i hi)]
  exact hb _ (List.getElem_mem _)
end Lw
end
end
section
set_option Elab.async false
set_option linter.all false
set_option maxRecDepth 100000
set_option maxHeartbeats 4000000
set_option exponentiation.threshold 5000
noncomputable section
namespace Lw
open Pm PySem
/-! pool: the law's draws. -/
abbrev Md := {y : Int // 0 ≤ y ∧ y < 2147483647}
def md (x : Int) : Md := ⟨x % 2147483647, Int.emod_nonneg _ (by decide), Int.emod_lt_of_pos _ (by decide)⟩
structure Pool where
  s : List Int
  i : Nat
  v : Int
  st : Md
  w : Int
  b : Int
/-- the pool's cell -/
def pc (p : Pool) : Cell := .lst [.lst (p.s.map .int), .int p.i, .int p.v, .int p.st.1, .int p.w, .int p.b]
def pool0 (ns : List Int) (b : Int) : Pool := ⟨ns, 0, 0, ⟨1, by decide⟩, 0, b⟩
theorem pool_ok (fu j : Nat) (ns : List Int) (b : Int) (m : Mu) (hl : ns.length ≤ 63) : evP Tb Pg fu (j + 1) i_l_pool [.scr (ns.map .int), .int b] m = .ok (.ref m.length) (m ++ [pc (pool0 ns b)]) := by
  rw [call_at at_l_pool]
  simp [runF_eq, r_l_pool, b_l_pool, enter, lim, pc, pool0]
/-- the next number of the script is taken in -/
def load (p : Pool) : Pool := if p.v ≤ 0 ∧ p.w ≤ 0 ∧ p.i < p.s.length then
    ⟨p.s, p.i + 1, if 10 ^ 18 ≤ p.s.getD p.i 0 then p.s.getD p.i 0 else p.v, md (p.st.1 * 31 + p.s.getD p.i 0), 7, p.b⟩ else p
def out (n : Int) (p : Pool) : Int × Pool := if 0 < p.v then (p.v % n, ⟨p.s, p.i, p.v / n, p.st, 0, p.b⟩)
  else ((md ((md (p.st.1 * 48271 + 12345)).1 * 69621 + 7919)).1 % n, ⟨p.s, p.i, p.v, md (p.st.1 * 48271 + 12345), p.w - 1, p.b⟩)
def drawF (n : Int) (p : Pool) : Int × Pool := out n (load p)
theorem draw_lt (n : Int) (p : Pool) (h : 0 < n) : 0 ≤ (drawF n p).1 ∧ (drawF n p).1 < n := by
  unfold drawF out
  split
  · exact ⟨Int.emod_nonneg _ (by omega), Int.emod_lt_of_pos _ h⟩
  · exact ⟨Int.emod_nonneg _ (by omega), Int.emod_lt_of_pos _ h⟩
theorem md_lg (x : Md) : x.1.natAbs.log2 < 32 := by
  obtain ⟨x, h1, h2⟩ := x
  by_cases q : x.natAbs = 0
  · simp [q]
  · exact (Nat.log2_lt q).mpr (by omega)
theorem pow18 : ((10 : Int) ^ 18) = 1000000000000000000 := by decide
theorem draw_1 (C : CF) (fu : Nat) (p : Pool) (n : D) (r : Mu) : ∃ t, ex Tb C fu (hdS b_l_draw) [.val (.ref 0), .val n, .emp, .emp] (pc p :: r) = .nx [.val (.ref 0), .val n, t, .emp] (pc (load p) :: r) := by
  have g31 : (31 : Nat).log2 = 4 := by decide
  obtain ⟨s, i, v, st, w, b⟩ := p
  have l1 : st.1.natAbs.log2 + 4 < 1000000 := by have := md_lg st; omega
  unfold load
  by_cases c : v ≤ 0 ∧ w ≤ 0 ∧ i < s.length
  · obtain ⟨c1, c2, c3⟩ := c
    refine ⟨.val (.int s[i]), ?_⟩
    by_cases c4 : 1000000000000000000 ≤ s[i] <;> simp [hdS, b_l_draw, pc, c1, c2, c3, g31, l1, lim, c4, md]
  · refine ⟨.emp, ?_⟩
    rw [if_neg c]
    by_cases c6 : v ≤ 0
    · have c7 : ¬ (w ≤ 0 ∧ i < s.length) := fun z => c ⟨c6, z⟩
      by_cases c8 : w ≤ 0
      · have c9 : ¬ i < s.length := fun z => c7 ⟨c8, z⟩
        simp [hdS, b_l_draw, pc, c6, c8, c9]
      · simp [hdS, b_l_draw, pc, c6, c8]
    · simp [hdS, b_l_draw, pc, c6]
theorem draw_2 (C : CF) (fu : Nat) (p : Pool) (n : Int) (t : S) (r : Mu) (h : 0 < n) (hb : n < 2 ^ 60) : exs Tb C fu (tlS b_l_draw) [.val (.ref 0), .val (.int n), t, .emp] (pc p :: r) = .rt (.int (out n p).1) (pc (out n p).2 :: r) := by
  have hl : n.natAbs.log2 < 9000 := by
    have := (Nat.log2_lt (n := n.natAbs) (k := 60) (by omega)).mpr (by omega)
    omega
  have g48 : (48271 : Nat).log2 = 15 := by decide
  have g69 : (69621 : Nat).log2 = 16 := by decide
  obtain ⟨s, i, v, st, w, b⟩ := p
  have l2 : st.1.natAbs.log2 + 15 < 1000000 := by have := md_lg st; omega
  have l3 : ∀ x : Int, (x % 2147483647).natAbs.log2 + 16 < 1000000 := fun x => by have := md_lg (md x); simp [md] at this; omega
  unfold out
  by_cases c5 : 0 < v
  · simp [tlS, b_l_draw, pc, c5, h, hl]
  · simp [tlS, b_l_draw, pc, c5, h, hl, g48, g69, l2, l3, md]
theorem draw_ok (fu j : Nat) (n : Int) (p : Pool) (r : Mu) (h : 0 < n) (hb : n < 2 ^ 60) : evP Tb Pg fu (j + 1) i_l_draw [.ref 0, .int n] (pc p :: r) = .ok (.int (drawF n p).1) (pc (drawF n p).2 :: r) := by
  obtain ⟨t, e⟩ := draw_1 (evP Tb Pg fu j) fu p (.int n) r
  have e2 := draw_2 (evP Tb Pg fu j) fu (load p) n t r h hb
  rw [call_at at_l_draw]
  simp only [runF_eq, r_l_draw, enter, List.map_cons, List.map_nil, List.length_cons, List.length_nil]
  rw [exs_hd (h := (rfl : b_l_draw = .cons (hdS b_l_draw) (tlS b_l_draw)))]
  simp [e, e2, drawF]
/-- a draw, as a natural number -/
def drawN (n : Int) (p : Pool) : Nat × Pool := ((drawF n p).1.toNat, (drawF n p).2)
theorem drawN_lt (n : Int) (p : Pool) (h : 0 < n) : ((drawN n p).1 : Int) < n := by
  have := draw_lt n p h
  unfold drawN
  omega
theorem drw (fu j : Nat) (n : Int) (p : Pool) (r : Mu) (h : 0 < n) (hb : n < 2 ^ 60) : evP Tb Pg fu (j + 1) i_l_draw [.ref 0, .int n] (pc p :: r) = .ok (.int (drawN n p).1) (pc (drawN n p).2 :: r) := by
  have := draw_lt n p h
  rw [draw_ok fu j n p r h hb]
  show R.ok (D.int (drawF n p).1) _ = R.ok (D.int ((drawF n p).1.toNat : Int)) _
  rw [Int.toNat_of_nonneg this.1]
  rfl
end Lw
end
end
section
set_option Elab.async false
set_option linter.all false
set_option maxRecDepth 100000
set_option maxHeartbeats 4000000
set_option exponentiation.threshold 5000
noncomputable section
namespace Lw
open Pm PySem
/-! amount -/
def amountF (p : Pool) : (Int × Int) × Pool := if (drawN 6 p).1 = 0 then
    (lessN ((drawN 40 (drawN 6 p).2).1 - 8) (1 + (drawN 6 (drawN 40 (drawN 6 p).2).2).1), (drawN 6 (drawN 40 (drawN 6 p).2).2).2)
  else (((drawN 30 (drawN 6 p).2).1 - 4, 1), (drawN 30 (drawN 6 p).2).2)
theorem big60 : ((2 : Int) ^ 60) < 2 ^ 1900 := by decide +kernel
theorem amount_ok (fu j : Nat) (p : Pool) (r : Mu) : evP Tb Pg fu (j + 2) i_l_amount [.ref 0] (pc p :: r) = .ok (dR (amountF p).1) (pc (amountF p).2 :: r) := by
  rw [call_at at_l_amount]
  unfold amountF
  by_cases h : (drawN 6 p).1 = 0
  · have l := less_ok fu j ((drawN 40 (drawN 6 p).2).1 - 8) (1 + (drawN 6 (drawN 40 (drawN 6 p).2).2).1) (pc (drawN 6 (drawN 40 (drawN 6 p).2).2).2 :: r) (by omega) (by
      have := drawN_lt 6 (drawN 40 (drawN 6 p).2).2 (by decide)
      have := big60
      omega)
    simp [runF_eq, r_l_amount, b_l_amount, enter, drw, h, l]
  · simp [runF_eq, r_l_amount, b_l_amount, enter, drw, h, lim]
theorem amount_bd (p : Pool) : Bd 6 (amountF p).1 := by
  unfold amountF
  have h1 := drawN_lt 40 (drawN 6 p).2 (by decide)
  have h2 := drawN_lt 6 (drawN 40 (drawN 6 p).2).2 (by decide)
  have h3 := drawN_lt 30 (drawN 6 p).2 (by decide)
  split
  · exact less_bd (by omega) (by omega) (by omega)
  · exact ⟨by simp, by simp, by simp; omega⟩
/-- in lowest terms -/
def Red (x : Int × Int) : Prop := lessN x.1 x.2 = x
theorem less_red {n d : Int} (hd : 0 < d) : Red (lessN n d) := by
  have gp : 0 < Int.gcd n d := Int.gcd_pos_of_ne_zero_right n (show d ≠ 0 by omega)
  have e : Int.gcd (n / (Int.gcd n d : Int)) (d / (Int.gcd n d : Int)) = 1 := Int.gcd_ediv_gcd_ediv_gcd gp
  show lessN (n / (Int.gcd n d : Int)) (d / (Int.gcd n d : Int)) = _
  unfold lessN
  rw [e]
  simp
theorem red1 (n : Int) : Red (n, 1) := by simp [Red, lessN]
theorem amount_red (p : Pool) : Red (amountF p).1 := by
  unfold amountF
  split
  · exact less_red (by omega)
  · exact red1 _
end Lw
end
end
section
set_option Elab.async false
set_option linter.all false
set_option maxRecDepth 100000
set_option maxHeartbeats 4000000
set_option exponentiation.threshold 5000
noncomputable section
namespace Lw
open Pm PySem
/-! groups0: all sets of indexes in order. -/
def allU : Nat → List (List Nat)
  | 0 => [[]]
  | k + 1 => allU k ++ (allU k).map (· ++ [k])
theorem allU_len : ∀ k, (allU k).length = 2 ^ k
  | 0 => rfl
  | k + 1 => by rw [allU, List.length_append, List.length_map, allU_len k, Nat.pow_succ]; omega
def insG (g : List Nat) : List (List Nat) → List (List Nat)
  | [] => [g]
  | h :: r => if ltG g h then g :: h :: r else h :: insG g r
def gT (n : Nat) : List (List Nat) := ((allU n).foldr insG []).tail
theorem gT_ok : ∀ n, n ≤ 5 → ([] :: gT n).Perm (allU n) ∧ ([] :: gT n).Pairwise (fun a b => ltG a b = true) := by
  intro n h
  match n, h with
  | 0, _ => exact ⟨List.isPerm_iff.mp (by decide +kernel), by decide +kernel⟩
  | 1, _ => exact ⟨List.isPerm_iff.mp (by decide +kernel), by decide +kernel⟩
  | 2, _ => exact ⟨List.isPerm_iff.mp (by decide +kernel), by decide +kernel⟩
  | 3, _ => exact ⟨List.isPerm_iff.mp (by decide +kernel), by decide +kernel⟩
  | 4, _ => exact ⟨List.isPerm_iff.mp (by decide +kernel), by decide +kernel⟩
  | 5, _ => exact ⟨List.isPerm_iff.mp (by decide +kernel), by decide +kernel⟩
theorem gT_sort {n : Nat} (h : n ≤ 5) : srtD ((allU n).map dG) = ([] :: gT n).map dG := by
  obtain ⟨h1, h2⟩ := gT_ok n h
  exact srtD_dG h1 (h2.imp fun q => ltG_asym q)
theorem gT_asc {n : Nat} (h : n ≤ 5) : (gT n).Pairwise fun a b => ltG a b = true := by
  have := (gT_ok n h).2
  exact (List.pairwise_cons.mp this).2
theorem gT_ne {n : Nat} (h : n ≤ 5) : ∀ g ∈ gT n, g ≠ [] := fun g hg => by
  have := (List.pairwise_cons.mp (gT_ok n h).2).1 g hg
  rintro rfl
  simp at this
theorem allU_mem : ∀ {k : Nat} {g : List Nat}, g ∈ allU k → g.length ≤ k ∧ ∀ i ∈ g, i < k
  | 0, g, h => by simp [allU] at h; subst h; simp
  | k + 1, g, h => by
    rw [allU, List.mem_append] at h
    rcases h with h | h
    · obtain ⟨h1, h2⟩ := allU_mem h
      exact ⟨by omega, fun i hi => by have := h2 i hi; omega⟩
    · obtain ⟨g, hg, rfl⟩ := List.mem_map.mp h
      obtain ⟨h1, h2⟩ := allU_mem hg
      refine ⟨by simp; omega, fun i hi => ?_⟩
      rw [List.mem_append] at hi
      rcases hi with hi | hi
      · have := h2 i hi; omega
      · simp at hi; omega
theorem gT_mem {n : Nat} (h : n ≤ 5) {g : List Nat} (hg : g ∈ gT n) : g.length ≤ n ∧ ∀ i ∈ g, i < n := allU_mem ((gT_ok n h).1.subset (List.mem_cons_of_mem _ hg))
theorem gT_len {n : Nat} (h : n ≤ 5) : (gT n).length ≤ 31 := by
  have h1 := (gT_ok n h).1.length_eq
  have h2 := allU_len n
  have h3 : 2 ^ n ≤ 2 ^ 5 := Nat.pow_le_pow_right (by omega) h
  rw [List.length_cons] at h1
  omega
theorem gT_in : ∀ n, n ≤ 5 → 1 ≤ n → (∀ i, i < n → [i] ∈ gT n) ∧ List.range n ∈ gT n := by
  intro n h h1
  match n, h, h1 with
  | 1, _, _ => decide +kernel
  | 2, _, _ => decide +kernel
  | 3, _, _ => decide +kernel
  | 4, _, _ => decide +kernel
  | 5, _, _ => decide +kernel
end Lw
end
end
section
set_option Elab.async false
set_option linter.all false
set_option maxRecDepth 100000
set_option maxHeartbeats 4000000
set_option exponentiation.threshold 5000
noncomputable section
namespace Lw
open Pm PySem
/-! groups: all groups in order. -/
theorem groups_loop (C : CF) (fu : Nat) (ck : Mu → Prop) (m : Mu) (hck : ck m) (v0 : S) : ∀ (len k : Nat) (t : S), k + len ≤ 5 →
    ∃ t', loopS ck (turnS Tb C fu (.nam 2) w_l_groups_2) ((List.range' k len).map dN) [v0, .val (.lst ((allU k).map dG)), t, .emp] m = .nx [v0, .val (.lst ((allU (k + len)).map dG)), t', .emp] m
  | 0, k, t, _ => ⟨t, by rw [List.range'_zero, List.map_nil, loopS, if_pos hck]; rfl⟩
  | len + 1, k, t, h => by
    obtain ⟨t', e⟩ := groups_loop C fu ck m hck v0 len (k + 1) (.val (.int k)) (by omega)
    refine ⟨t', ?_⟩
    have hl := allU_len k
    have hp : 2 ^ k ≤ 2 ^ 5 := Nat.pow_le_pow_right (by omega) (by omega)
    have l1 : (allU k).length ≤ 100000 := by omega
    have l2 : (allU k).length + (allU k).length ≤ 100000 := by omega
    have hg : ∀ g ∈ allU k, g.length ≤ 1000 := by
      have : ∀ k, k ≤ 5 → ∀ g ∈ allU k, g.length ≤ k := by
        intro k
        induction k with
        | zero => intro _ g hg; simp [allU] at hg; simp [hg]
        | succ k ih =>
          intro hk g hg
          rw [allU, List.mem_append] at hg
          rcases hg with hg | hg
          · have := ih (by omega) g hg; omega
          · obtain ⟨g, h1, rfl⟩ := List.mem_map.mp hg
            have := ih (by omega) g h1
            simp; omega
      intro g hg
      have := this k (by omega) g hg
      omega
    have e1 : turnS Tb C fu (.nam 2) w_l_groups_2 (dN k) [v0, .val (.lst ((allU k).map dG)), t, .emp] m = .nx [v0, .val (.lst ((allU (k + 1)).map dG)), .val (.int k), .emp] m := by
      simp [turnS_eq, w_l_groups_2, l1, lim]
      rw [lc_to dG (fun g => g ++ [k]) ((allU k).map (· ++ [k])) rfl]
      · simp [l1, l2, lim, allU, -List.map_map]
      · intro g hg'
        have := hg g hg'
        simp [turnL_eq, e_l_groups_1, c_l_groups_1, lim, show g.length + 1 ≤ 100000 by omega]
      · exact trivial
    rw [List.range'_succ, List.map_cons, loopS, if_pos hck, e1]
    show loopS _ _ _ _ _ = _
    rw [e, show k + 1 + len = k + (len + 1) by omega]
theorem groups_ok (fu j n : Nat) (m : Mu) (h : n ≤ 5) : evP Tb Pg fu (j + 1) i_l_groups [.int n] m = .ok (.lst ((gT n).map dG)) m := by
  obtain ⟨t', e⟩ := groups_loop (evP Tb Pg fu j) fu (Kd.fr.ok ((List.range n).map dN)) m trivial (.val (.int n)) n 0 .emp (by omega)
  rw [Nat.zero_add, ← List.range_eq_range'] at e
  have hl := allU_len n
  have hp : 2 ^ n ≤ 2 ^ 5 := Nat.pow_le_pow_right (by omega) h
  have h0 : (allU n).head? = some [] := by
    have : ∀ n, (allU n).head? = some [] := fun n => by
      induction n with
      | zero => rfl
      | succ n ih => rw [allU, List.head?_append, ih]; rfl
    exact this n
  have so := srtOk_dG (allU n) (by omega) h0
  have ss := gT_sort h
  have e0 : ([D.tup []] : List D) = (allU 0).map dG := rfl
  rw [call_at at_l_groups]
  simp [runF_eq, r_l_groups, b_l_groups, enter, lim, rng_eq, rngOk_nat (show n ≤ 100000 by omega)]
  rw [e0, e]
  simp [so, ss, List.map_cons]
end Lw
end
end
section
set_option Elab.async false
set_option linter.all false
set_option maxRecDepth 100000
set_option maxHeartbeats 4000000
set_option exponentiation.threshold 5000
noncomputable section
namespace Lw
open Pm PySem
/-! joined: what a group is joined by. -/
theorem nodup_len : ∀ {l g : List Nat}, l.Nodup → (∀ x ∈ l, x ∈ g) → l.length ≤ g.length
  | [], _, _, _ => Nat.zero_le _
  | a :: l, g, hn, hs => by
    rw [List.nodup_cons] at hn
    have ha := hs a List.mem_cons_self
    have := nodup_len (l := l) (g := g.erase a) hn.2 fun x hx => by
      refine (List.mem_erase_of_ne ?_).mpr (hs x (List.mem_cons_of_mem _ hx))
      rintro rfl
      exact hn.1 hx
    rw [List.length_erase_of_mem ha] at this
    have := List.length_pos_of_mem ha
    rw [List.length_cons]
    omega
def joinA (g met : List Nat) (a b : Nat) : List Nat := if a ∈ met ∧ b ∈ g ∧ b ∉ met then met ++ [b] else met
def joinS (g met : List Nat) (t : Nat × Nat) : List Nat := joinA g (joinA g met t.1 t.2) t.2 t.1
structure Met (g met : List Nat) : Prop where
  nd : met.Nodup
  sub : ∀ x ∈ met, x ∈ g
  pos : 0 < met.length
theorem joinA_met {g met : List Nat} (h : Met g met) (a b : Nat) : Met g (joinA g met a b) := by
  unfold joinA
  split
  · rename_i q
    refine ⟨?_, ?_, by simp⟩
    · rw [List.nodup_append]
      refine ⟨h.nd, by simp, ?_⟩
      intro x hx y hy e
      simp at hy
      subst hy
      subst e
      exact q.2.2 hx
    · intro x hx
      rw [List.mem_append] at hx
      rcases hx with hx | hx
      · exact h.sub x hx
      · simp at hx; subst hx; exact q.2.1
  · exact h
theorem joinS_met {g met : List Nat} (h : Met g met) (t : Nat × Nat) : Met g (joinS g met t) := joinA_met (joinA_met h _ _) _ _
theorem joined_turn (C : CF) (fu : Nat) (g met : List Nat) (t : Nat × Nat) (ts s3 s4 s5 : S) (m : Mu) (h : Met g met) (hg : g.length ≤ 1000) :
    turnS Tb C fu (.tup [.nam 4, .nam 5]) w_l_joined_1 (dT t) [.val (dG g), ts, .own (met.map dN), s3, s4, s5] m = .nx [.val (dG g), ts, .own ((joinS g met t).map dN), s3, .val (.int t.1), .val (.int t.2)] m := by
  have hl := nodup_len h.nd h.sub
  have h2 := joinA_met h t.1 t.2
  have hl2 := nodup_len h2.nd h2.sub
  have e1 : ex Tb C fu (hdS w_l_joined_1) [.val (dG g), ts, .own (met.map dN), s3, .val (.int t.1), .val (.int t.2)] m = .nx [.val (dG g), ts, .own ((joinA g met t.1 t.2).map dN), s3, .val (.int t.1), .val (.int t.2)] m := by
    unfold joinA
    by_cases c1 : t.1 ∈ met <;> by_cases c2 : t.2 ∈ g <;> by_cases c3 : t.2 ∈ met <;> simp [hdS, w_l_joined_1, c1, c2, c3, lim, show met.length < 100000 by omega]
  have e2 : exs Tb C fu (tlS w_l_joined_1) [.val (dG g), ts, .own ((joinA g met t.1 t.2).map dN), s3, .val (.int t.1), .val (.int t.2)] m = .nx [.val (dG g), ts, .own ((joinS g met t).map dN), s3, .val (.int t.1), .val (.int t.2)] m := by
    unfold joinS
    generalize joinA g met t.1 t.2 = met at hl2
    unfold joinA
    by_cases c1 : t.2 ∈ met <;> by_cases c2 : t.1 ∈ g <;> by_cases c3 : t.1 ∈ met <;> simp [tlS, w_l_joined_1, c1, c2, c3, lim, show met.length < 100000 by omega]
  have e3 : setT (.tup [.nam 4, .nam 5]) (dT t) [.val (dG g), ts, .own (met.map dN), s3, s4, s5] = some [.val (dG g), ts, .own (met.map dN), s3, .val (.int t.1), .val (.int t.2)] := by simp
  rw [turnS_eq, e3, optS_some, exs_hd (h := (rfl : w_l_joined_1 = .cons (hdS w_l_joined_1) (tlS w_l_joined_1))), e1, RS.seqH_nx, e2]
def joinL (g : List Nat) (ts : List (Nat × Nat)) (met : List Nat) : List Nat := ts.foldl (joinS g) met
theorem joinL_met {g : List Nat} : ∀ (ts : List (Nat × Nat)) {met : List Nat}, Met g met → Met g (joinL g ts met)
  | [], _, h => h
  | t :: ts, _, h => joinL_met ts (joinS_met h t)
def joinR (g : List Nat) (ts : List (Nat × Nat)) : Nat → List Nat → List Nat
  | 0, met => met
  | n + 1, met => joinR g ts n (joinL g ts met)
theorem joinR_met {g : List Nat} (ts : List (Nat × Nat)) : ∀ (n : Nat) {met : List Nat}, Met g met → Met g (joinR g ts n met)
  | 0, _, h => h
  | n + 1, _, h => joinR_met ts n (joinL_met ts h)
theorem joined_in (C : CF) (fu : Nat) (g : List Nat) (ck : Mu → Prop) (m : Mu) (hck : ck m) (v1 : S) (hg : g.length ≤ 1000) : ∀ (ts : List (Nat × Nat)) (met : List Nat) (s3 s4 s5 : S), Met g met →
    ∃ s4' s5', loopS ck (turnS Tb C fu (.tup [.nam 4, .nam 5]) w_l_joined_1) (ts.map dT) [.val (dG g), v1, .own (met.map dN), s3, s4, s5] m = .nx [.val (dG g), v1, .own ((joinL g ts met).map dN), s3, s4', s5'] m
  | [], met, s3, s4, s5, _ => ⟨s4, s5, by rw [List.map_nil, loopS, if_pos hck]; rfl⟩
  | t :: ts, met, s3, s4, s5, h => by
    obtain ⟨s4', s5', e⟩ := joined_in C fu g ck m hck v1 hg ts (joinS g met t) s3 (.val (.int t.1)) (.val (.int t.2)) (joinS_met h t)
    refine ⟨s4', s5', ?_⟩
    rw [List.map_cons, loopS, if_pos hck, joined_turn C fu g met t v1 s3 s4 s5 m h hg]
    exact e
theorem joined_out (C : CF) (fu : Nat) (g : List Nat) (ts : List (Nat × Nat)) (K : List D → D) (hK : K = D.lst ∨ K = D.tup) (ck : Mu → Prop) (m : Mu) (hck : ck m) (hg : g.length ≤ 1000) : ∀ (ns : List Nat) (met : List Nat) (s3 s4 s5 : S), Met g met →
    ∃ s3' s4' s5', loopS ck (turnS Tb C fu (.nam 3) w_l_joined_2) (ns.map dN) [.val (dG g), .val (K (ts.map dT)), .own (met.map dN), s3, s4, s5] m = .nx [.val (dG g), .val (K (ts.map dT)), .own ((joinR g ts ns.length met).map dN), s3', s4', s5'] m
  | [], met, s3, s4, s5, _ => ⟨s3, s4, s5, by rw [List.map_nil, loopS, if_pos hck]; rfl⟩
  | n :: ns, met, s3, s4, s5, h => by
    obtain ⟨s4', s5', e⟩ := joined_in C fu g (Kd.fr.ok (ts.map dT)) m trivial (.val (K (ts.map dT))) hg ts met (.val (.int n)) s4 s5 h
    obtain ⟨s3', s4'', s5'', e2⟩ := joined_out C fu g ts K hK ck m hck hg ns (joinL g ts met) (.val (.int n)) s4' s5' (joinL_met ts h)
    refine ⟨s3', s4'', s5'', ?_⟩
    have e3 : turnS Tb C fu (.nam 3) w_l_joined_2 (dN n) [.val (dG g), .val (K (ts.map dT)), .own (met.map dN), s3, s4, s5] m = .nx [.val (dG g), .val (K (ts.map dT)), .own ((joinL g ts met).map dN), .val (.int n), s4', s5'] m := by
      simp only [dG_eq] at e
      rcases hK with rfl | rfl <;> simp [turnS_eq, w_l_joined_2, e]
    rw [List.map_cons, loopS, if_pos hck, e3]
    exact e2
def joinedB (g : List Nat) (ts : List (Nat × Nat)) : Bool := decide ((joinR g ts g.length [g.headD 0]).length = g.length)
theorem met0 {g : List Nat} (h : g ≠ []) : Met g [g.headD 0] := ⟨by simp, fun x hx => by
  cases g with
  | nil => exact absurd rfl h
  | cons a g => simp at hx; simp [hx], by simp⟩
theorem joined_ok (fu j : Nat) (g : List Nat) (ts : List (Nat × Nat)) (K : List D → D) (hK : K = D.lst ∨ K = D.tup) (m : Mu) (h : g ≠ []) (hg : g.length ≤ 1000) : evP Tb Pg fu (j + 1) i_l_joined [.tup (g.map dN), K (ts.map dT)] m = .ok (.bl (joinedB g ts)) m := by
  obtain ⟨s3', s4', s5', e⟩ := joined_out (evP Tb Pg fu j) fu g ts K hK (Kd.fr.ok ((List.range g.length).map dN)) m trivial hg (List.range g.length) [g.headD 0] .emp .emp .emp (met0 h)
  rw [List.length_range] at e
  have e0 : (g.map dN)[0]? = some (dN (g.headD 0)) := by
    cases g with
    | nil => exact absurd rfl h
    | cons a g => rfl
  have hx : ((((joinR g ts g.length [g.headD 0]).length : Nat) : Int) = (g.length : Int)) = ((joinR g ts g.length [g.headD 0]).length = g.length) := by
    apply propext; omega
  simp only [List.map_cons, List.map_nil, dG_eq] at e
  rw [call_at at_l_joined]
  simp only [dN_eq] at e e0
  rcases hK with rfl | rfl <;> simp [runF_eq, r_l_joined, b_l_joined, enter, rng_eq, rngOk_nat (show g.length ≤ 100000 by omega), e0, lim, -List.getElem?_map, e, joinedB, -List.headD_eq_head?_getD, hx]
theorem joined_one (i : Nat) (ts : List (Nat × Nat)) : joinedB [i] ts = true := by
  have M := joinR_met ts 1 (met0 (g := [i]) (by simp))
  have h1 := nodup_len M.nd M.sub
  have h2 := M.pos
  have h3 : (joinR [i] ts 1 [[i].headD 0]).length = 1 := by
    have : [i].length = 1 := rfl
    omega
  exact decide_eq_true h3
end Lw
end
end
section
set_option Elab.async false
set_option linter.all false
set_option maxRecDepth 100000
set_option maxHeartbeats 4000000
set_option exponentiation.threshold 5000
noncomputable section
namespace Lw
open Pm PySem
/-! family: forest, family (behind joined). -/
/-! forest -/
def forestS (b : List (Nat × Nat) × Pool) (i : Nat) : List (Nat × Nat) × Pool := (if (drawN (i + 1) b.2).1 < i then b.1 ++ [((drawN (i + 1) b.2).1, i)] else b.1, (drawN (i + 1) b.2).2)
def forestF (n : Nat) (p : Pool) : List (Nat × Nat) × Pool := (List.range' 1 (n - 1)).foldl forestS ([], p)
theorem forest_loop (fu j : Nat) (ck : Mu → Prop) (hck : ∀ m, ck m) (v0 v1 : S) (r : Mu) : ∀ (l : List Nat) (b : List (Nat × Nat) × Pool) (s3 s4 : S), (∀ i ∈ l, i ≤ 100) → b.1.length + l.length ≤ 1000 →
    ∃ s3' s4', loopS ck (turnS Tb (evP Tb Pg fu (j + 1)) fu (.nam 3) w_l_forest_1) (l.map dN) [.val (.ref 0), v1, .own (b.1.map dT), s3, s4] (pc b.2 :: r) = .nx [.val (.ref 0), v1, .own ((l.foldl forestS b).1.map dT), s3', s4'] (pc (l.foldl forestS b).2 :: r)
  | [], b, s3, s4, _, _ => ⟨s3, s4, by rw [List.map_nil, loopS, if_pos (hck _)]; rfl⟩
  | i :: l, b, s3, s4, hi, hl => by
    rw [List.length_cons] at hl
    have i0 := hi i List.mem_cons_self
    have hd := drw fu j ((i : Int) + 1) b.2 r (by omega) (by omega)
    obtain ⟨s3', s4', e⟩ := forest_loop fu j ck hck v0 v1 r l (forestS b i) (.val (.int i)) (.val (.int (drawN ((i : Int) + 1) b.2).1)) (fun x hx => hi x (List.mem_cons_of_mem _ hx)) (by
      unfold forestS
      split
      · simp; omega
      · simp; omega)
    refine ⟨s3', s4', ?_⟩
    have e1 : turnS Tb (evP Tb Pg fu (j + 1)) fu (.nam 3) w_l_forest_1 (dN i) [.val (.ref 0), v1, .own (b.1.map dT), s3, s4] (pc b.2 :: r) = .nx [.val (.ref 0), v1, .own ((forestS b i).1.map dT), .val (.int i), .val (.int (drawN ((i : Int) + 1) b.2).1)] (pc (forestS b i).2 :: r) := by
      unfold forestS
      by_cases c : (drawN ((i : Int) + 1) b.2).1 < i <;> simp [turnS_eq, w_l_forest_1, hd, c, lim, show b.1.length < 100000 by omega]
    rw [List.map_cons, loopS, if_pos (hck _), e1]
    exact e
theorem forest_ok (fu j n : Nat) (p : Pool) (r : Mu) (h : n ≤ 5) : evP Tb Pg fu (j + 2) i_l_forest [.ref 0, .int n] (pc p :: r) = .ok (.lst ((forestF n p).1.map dT)) (pc (forestF n p).2 :: r) := by
  obtain ⟨s3', s4', e⟩ := forest_loop fu j (Kd.fr.ok ((List.range' 1 (n - 1)).map dN)) (fun _ => trivial) (.val (.ref 0)) (.val (.int n)) r (List.range' 1 (n - 1)) ([], p) .emp .emp (fun i hi => by
    rw [List.mem_range'_1] at hi; omega) (by simp; omega)
  have e1 : ((n : Int) - 1).toNat = n - 1 := by omega
  have e2 := rng_eq2 1 (n - 1)
  rw [call_at at_l_forest]
  simp only [List.map_nil] at e
  simp at e2
  simp [runF_eq, r_l_forest, b_l_forest, enter, rngOk_nat (show n ≤ 100000 by omega), e1, e2, e, lim, forestF]
/-! family -/
def famO (n : Nat) (g : List Nat) (p : Pool) : Option (List Nat) × Pool := if g.length = 1 then (some g, p) else if g = List.range n then (some g, p) else (if (drawN 2 p).1 = 0 then some g else none, (drawN 2 p).2)
def famF (n : Nat) (p : Pool) : List (List Nat) × Pool := if (drawN 4 p).1 = 0 then mapO (famO n) (gT n) (drawN 4 p).2
  else if (drawN 4 p).1 = 1 then ((gT n).filter fun g => decide (g = List.range n) || joinedB g (forestF n (drawN 4 p).2).1, (forestF n (drawN 4 p).2).2)
  else (gT n, (drawN 4 p).2)
theorem family_ok (fu j n : Nat) (p : Pool) (r : Mu) (h : n ≤ 5) : evP Tb Pg fu (j + 3) i_l_family [.ref 0, .int n] (pc p :: r) = .ok (.lst ((famF n p).1.map dG)) (pc (famF n p).2 :: r) := by
  have gl := gT_len h
  have l0 : (gT n).length ≤ 100000 := by omega
  rw [call_at at_l_family]
  unfold famF
  by_cases c0 : (drawN 4 p).1 = 0
  · simp [runF_eq, r_l_family, b_l_family, enter, groups_ok fu _ n _ h, drw, rng_eq, rngOk_nat (show n ≤ 100000 by omega), lim, c0, l0, show n ≤ 100000 by omega]
    rw [lc_state (fun p => pc p :: r) (famO n) dG]
    · simp
    · intro g hg p
      unfold famO
      by_cases c1 : g.length = 1
      · simp [turnL_eq, c_l_family_1, e_l_family_1, c1]
      · have c1' : ¬ ((g.length : Int) = 1) := by omega
        by_cases c2 : g = List.range n
        · have c3 : ¬ ((n : Int) = 1) := by
            have : g.length = n := by rw [c2, List.length_range]
            omega
          simp [turnL_eq, c_l_family_1, e_l_family_1, c1, c1', c2, c3]
        · by_cases c3 : (drawN 2 p).1 = 0 <;> simp [turnL_eq, c_l_family_1, e_l_family_1, c1, c1', c2, drw, c3]
    · exact fun _ => trivial
  · by_cases c1 : (drawN 4 p).1 = 1
    · simp [runF_eq, r_l_family, b_l_family, enter, groups_ok fu _ n _ h, drw, rng_eq, rngOk_nat (show n ≤ 100000 by omega), lim, c0, c1, l0, show n ≤ 100000 by omega, forest_ok fu _ n _ _ h]
      rw [lc_filterTo dG id (fun g => decide (g = List.range n) || joinedB g (forestF n (drawN 4 p).2).1) _ rfl]
      · simp
      · intro g hg
        have gm := gT_mem h hg
        have jo := joined_ok fu (j + 1) g (forestF n (drawN 4 p).2).1 D.lst (.inl rfl) (pc (forestF n (drawN 4 p).2).2 :: r) (gT_ne h g hg) (by omega)
        by_cases c2 : g = List.range n
        · simp [turnL_eq, c_l_family_2, e_l_family_2, c2]
        · by_cases c3 : joinedB g (forestF n (drawN 4 p).2).1 = true <;> simp [turnL_eq, c_l_family_2, e_l_family_2, c2, jo, c3]
      · trivial
    · have c1' : ¬ (((drawN 4 p).1 : Int) = 1) := by omega
      simp [runF_eq, r_l_family, b_l_family, enter, groups_ok fu _ n _ h, drw, rng_eq, rngOk_nat (show n ≤ 100000 by omega), lim, c0, c1, c1', l0, show n ≤ 100000 by omega]
/-- what a family keeps -/
structure Fam (n : Nat) (gs : List (List Nat)) : Prop where
  sub : gs.Sublist (gT n)
  one : ∀ i, i < n → [i] ∈ gs
  whole : List.range n ∈ gs
theorem mapO_sub {α σ : Type} (F : α → σ → Option α × σ) (hF : ∀ a q y, (F a q).1 = some y → y = a) : ∀ (l : List α) (p : σ), (mapO F l p).1.Sublist l
  | [], p => List.Sublist.refl _
  | a :: l, p => by
    rw [mapO]
    cases e : (F a p).1 with
    | none => exact (mapO_sub F hF l _).cons a
    | some y => rw [hF a p y e]; exact (mapO_sub F hF l _).cons₂ a
theorem mapO_in {α σ : Type} (F : α → σ → Option α × σ) {a : α} (hF : ∀ q, (F a q).1 = some a) : ∀ (l : List α) (p : σ), a ∈ l → a ∈ (mapO F l p).1
  | b :: l, p, h => by
    rw [mapO, List.mem_append]
    rcases List.mem_cons.mp h with rfl | h
    · exact .inl (by rw [hF]; simp)
    · exact .inr (mapO_in F hF l _ h)
theorem fam_ok (n : Nat) (p : Pool) (h : n ≤ 5) (h1 : 1 ≤ n) : Fam n (famF n p).1 := by
  obtain ⟨g1, g2⟩ := gT_in n h h1
  unfold famF
  split
  · refine ⟨mapO_sub _ (fun a q y e => ?_) _ _, fun i hi => mapO_in _ (fun q => ?_) _ _ (g1 i hi), mapO_in _ (fun q => ?_) _ _ g2⟩
    · unfold famO at e
      split at e
      · simpa using e.symm
      · split at e
        · simpa using e.symm
        · split at e
          · simpa using e.symm
          · simp at e
    · simp [famO]
    · unfold famO
      split
      · rfl
      · simp
  · split
    · refine ⟨List.filter_sublist, fun i hi => ?_, ?_⟩
      · simp [g1 i hi, joined_one]
      · simp [g2]
    · exact ⟨List.Sublist.refl _, g1, g2⟩
end Lw
end
end
section
set_option Elab.async false
set_option linter.all false
set_option maxRecDepth 100000
set_option maxHeartbeats 4000000
set_option exponentiation.threshold 5000
noncomputable section
namespace Lw
open Pm PySem
/-! ltable: the law's own table: (count, rows). -/
def dRow (x : Rw) : D := .tup [dG x.1, dR x.2]
@[simp] theorem dRow_eq (x : Rw) : dRow x = .tup [.tup (x.1.map dN), .tup [.int x.2.1, .int x.2.2]] := rfl
theorem sum_red (xs : List (Int × Int)) (hx : ∀ x ∈ xs, 0 < x.2) : Red (sumN xs) := by
  unfold sumN
  have : ∀ (xs : List (Int × Int)) (acc : Int × Int), 0 < acc.2 → Red acc → (∀ x ∈ xs, 0 < x.2) → Red (xs.foldl plusN acc) := by
    intro xs
    induction xs with
    | nil => exact fun acc _ h _ => h
    | cons x xs ih =>
      intro acc h0 h hx
      have p := Int.mul_pos h0 (hx x List.mem_cons_self)
      have gp : 0 < Int.gcd (acc.1 * x.2 + x.1 * acc.2) (acc.2 * x.2) := Int.gcd_pos_of_ne_zero_right _ (by omega)
      have q : 0 < (plusN acc x).2 := Int.ediv_pos_of_pos_of_dvd p (by omega) (Int.gcd_dvd_right _ _)
      exact ih _ q (less_red p) fun y hy => hx y (List.mem_cons_of_mem _ hy)
  exact this xs (0, 1) (by decide) (red1 0) hx
theorem minus_red {x y : Int × Int} (hx : 0 < x.2) (hy : 0 < y.2) : Red (minusN x y) := less_red (Int.mul_pos hx hy)
theorem plus_red {x y : Int × Int} (hx : 0 < x.2) (hy : 0 < y.2) : Red (plusN x y) := less_red (Int.mul_pos hx hy)
theorem paid_bd {B : Nat} {ps : List (Int × Int)} {g : List Nat} (hb : ∀ x ∈ ps, Bd B x) (hg : ∀ i ∈ g, i < ps.length) : Bd (2 + (B + 1) * g.length) (paidN ps g) := by
  have := sum_bd (pick ps g) (pick_bd hb hg)
  rw [show (pick ps g).length = g.length by unfold pick; rw [List.length_map]] at this
  exact this
theorem paid_red {B : Nat} {ps : List (Int × Int)} {g : List Nat} (hb : ∀ x ∈ ps, Bd B x) (hg : ∀ i ∈ g, i < ps.length) : Red (paidN ps g) := sum_red _ fun x hx => (pick_bd hb hg x hx).pos
/-- an earning -/
def rowF (n way : Nat) (ps : List (Int × Int)) (g : List Nat) (p : Pool) : (Int × Int) × Pool :=
  if way = 0 then amountF p
  else if way = 1 then (((g.length : Int) * (drawN 6 (amountF p).2).1, 1), (drawN 6 (amountF p).2).2)
  else if way = 4 then (if g.length = n then (minusN (paidN ps g) ((drawN 4 (amountF p).2).1, 1), (drawN 4 (amountF p).2).2)
    else (minusN (paidN ps g) (((drawN 4 (amountF p).2).1 : Int) * (if (drawN 6 (drawN 4 (amountF p).2).2).1 = 0 then 1 else 0), 1), (drawN 6 (drawN 4 (amountF p).2).2).2))
  else if g.length < n then (minusN (paidN ps g) (lessN (((drawN 6 (amountF p).2).1 : Int) - ((way : Int) - 2)) (1 + (drawN 2 (drawN 6 (amountF p).2).2).1)), (drawN 2 (drawN 6 (amountF p).2).2).2)
  else (paidN ps g, (amountF p).2)
def rowsF (n way : Nat) (ps : List (Int × Int)) : List (List Nat) → Pool → List Rw × Pool := mapS fun g p => ((g, (rowF n way ps g p).1), (rowF n way ps g p).2)
def paysF (n : Nat) (p : Pool) : List (Int × Int) × Pool := mapS (fun _ p => amountF p) (List.range n) p
theorem pays_len (n : Nat) (p : Pool) : (paysF n p).1.length = n := by
  unfold paysF
  rw [mapS_len, List.length_range]
theorem pays_bd (n : Nat) (p : Pool) : ∀ x ∈ (paysF n p).1, Bd 6 x := fun x hx => by
  obtain ⟨_, _, q, rfl⟩ := mapS_mem _ _ _ hx
  exact amount_bd q
theorem pays_red (n : Nat) (p : Pool) : ∀ x ∈ (paysF n p).1, Red x := fun x hx => by
  obtain ⟨_, _, q, rfl⟩ := mapS_mem _ _ _ hx
  exact amount_red q
theorem log2_1 : Nat.log2 1 = 0 := by decide
theorem log2_0 : Nat.log2 0 = 0 := by decide
section
variable (fu j n way : Nat) (ps : List (Int × Int)) (g : List Nat) (p : Pool) (r : Mu) (v2 s6 s7 : S) (rows : List Rw)
theorem row_ok (hn : n ≤ 5) (hw : way < 5) (hps : ps.length = n) (hb : ∀ x ∈ ps, Bd 6 x) (hg : ∀ i ∈ g, i < n) (hgl : g.length ≤ n) (hr : rows.length < 1000) :
    turnS Tb (evP Tb Pg fu (j + 3)) fu (.nam 6) w_l_table_of_3 (dG g) [.val (.ref 0), .val (.int n), v2, .val (.int way), .val (.lst (ps.map dR)), .own (rows.map dRow), s6, s7, .emp] (pc p :: r) =
      .nx [.val (.ref 0), .val (.int n), v2, .val (.int way), .val (.lst (ps.map dR)), .own ((rows ++ [(g, (rowF n way ps g p).1)]).map dRow), .val (dG g), .val (dR (rowF n way ps g p).1), .emp] (pc (rowF n way ps g p).2 :: r) := by
  subst hps
  have l0 : g.length ≤ 100000 := by omega
  have lr : rows.length < 100000 := by omega
  have lg1 := lgn (x := g.length) (k := 3) (by omega)
  have ld := fun (k : Int) (q : Pool) (h : k < 8) (h0 : 0 < k) => lgn (x := (drawN k q).1) (k := 3) (by have := drawN_lt k q h0; omega)
  have m1 : ∀ q, g.length.log2 + (drawN 6 q).1.log2 < 1000000 := fun q => by have := ld 6 q (by omega) (by omega); omega
  have m2 : ∀ q, (drawN 4 q).1.log2 < 1000000 := fun q => by have := ld 4 q (by omega) (by omega); omega
  have pb := paid_bd hb hg
  have pb' : Bd 37 (paidN ps g) := pb.more (by omega)
  have hsum : ∀ (j : Nat) (m : Mu), evP Tb Pg fu (j + 3) i_l_sum [.lst ((pick ps g).map dR)] m = .ok (dR (paidN ps g)) m := fun j m => sum_ok fu j (pick ps g) m (pick_bd hb hg) (by unfold pick; rw [List.length_map]; omega)
  have hlc : ∀ (C : CF) (v0 v1 v2 v3 v5 v6 v7 : S) (m : Mu), loopL (Kd.fr.ok (g.map dN)) (turnL Tb C [8] (.nam 8) c_l_table_of_2 e_l_table_of_2 [v0, v1, v2, v3, .val (.lst (ps.map dR)), v5, v6, v7, .emp]) (g.map dN) m = .ok ((pick ps g).map dR) m := fun C v0 v1 v2 v3 v5 v6 v7 m => by
    refine lc_to dR (fun i => ps.getD i (0, 1)) (pick ps g) rfl (fun i hi => ?_) trivial
    simp [turnL_eq, e_l_table_of_2, c_l_table_of_2, getD_map ps dR i (0, 1) (hg i hi)]
  unfold rowF
  by_cases w0 : way = 0
  · subst w0
    simp [turnS_eq, w_l_table_of_3, amount_ok, lim, lr]
  by_cases w1 : way = 1
  · subst w1
    simp [turnS_eq, w_l_table_of_3, amount_ok, drw, lim, lr, m1]
  have w2 : 1 < (way : Int) := by omega
  have w1' : ¬ ((way : Int) = 1) := by omega
  by_cases w4 : way = 4
  · subst w4
    by_cases c : g.length = ps.length
    · have mk := fun q m => minus_ok fu (j + 1) (x := paidN ps g) (y := ((drawN 4 q).1, 1)) m (pb'.more (by omega)) ⟨by simp, by simp, by have := drawN_lt 4 q (by omega); simp; omega⟩
      simp at mk
      simp [turnS_eq, w_l_table_of_3, amount_ok, drw, lim, lr, l0, log2_1, log2_0, hlc, hsum, c, mk, m2, show ps.length ≤ 100000 by omega]
    · have c' : ¬ ((g.length : Int) = ps.length) := by omega
      have mk := fun q (e : Int) (he : 0 ≤ e ∧ e ≤ 1) m => minus_ok fu (j + 1) (x := paidN ps g) (y := ((drawN 4 q).1 * e, 1)) m (pb'.more (by omega)) ⟨by simp, by simp, by
        have := drawN_lt 4 q (by omega)
        rcases (show e = 0 ∨ e = 1 by omega) with rfl | rfl
        · simp
        · simp; omega⟩
      by_cases c2 : (drawN 6 (drawN 4 (amountF p).2).2).1 = 0
      · have mk1 := fun q m => mk q 1 (by omega) m
        simp at mk1
        simp [turnS_eq, w_l_table_of_3, amount_ok, drw, lim, lr, l0, log2_1, log2_0, hlc, hsum, c, c', c2, mk1, m2]
      · have mk1 := fun m => mk (amountF p).2 0 (by omega) m
        simp at mk1
        simp [turnS_eq, w_l_table_of_3, amount_ok, drw, lim, lr, l0, log2_1, log2_0, hlc, hsum, c, c', c2, mk1, m2]
  · have w4' : ¬ ((way : Int) = 4) := by omega
    by_cases c : g.length < ps.length
    · have lk := fun (q : Pool) (k : Pool) m => less_ok fu (j + 2) (((drawN 6 q).1 : Int) - ((way : Int) - 2)) (1 + (drawN 2 k).1) m (by omega) (by
        have := drawN_lt 2 k (by omega)
        have := big60
        omega)
      have lb : ∀ (q k : Pool), Bd 6 (lessN (((drawN 6 q).1 : Int) - ((way : Int) - 2)) (1 + (drawN 2 k).1)) := fun q k => less_bd (by omega) (by have := drawN_lt 2 k (by omega); omega) (by have := drawN_lt 6 q (by omega); omega)
      have mk := fun (q k : Pool) m => minus_ok fu (j + 1) (x := paidN ps g) (y := lessN (((drawN 6 q).1 : Int) - ((way : Int) - 2)) (1 + (drawN 2 k).1)) m (pb'.more (by omega)) ((lb q k).more (by omega))
      simp [turnS_eq, w_l_table_of_3, amount_ok, drw, lim, lr, l0, log2_1, log2_0, hlc, hsum, c, w0, w1, w1', w2, w4, w4', lk, mk]
    · have c' : ¬ ((g.length : Int) < ps.length) := by omega
      simp [turnS_eq, w_l_table_of_3, amount_ok, drw, lim, lr, l0, log2_1, log2_0, hlc, hsum, c, c', w0, w1, w1', w2, w4, w4']
end
theorem rows_loop (fu j n way : Nat) (ps : List (Int × Int)) (r : Mu) (v2 : S) (ck : Mu → Prop) (hck : ∀ m, ck m) (hn : n ≤ 5) (hw : way < 5) (hps : ps.length = n) (hb : ∀ x ∈ ps, Bd 6 x) : ∀ (l : List (List Nat)) (rows : List Rw) (p : Pool) (s6 s7 : S), (∀ g ∈ l, g.length ≤ n ∧ ∀ i ∈ g, i < n) → rows.length + l.length ≤ 1000 →
    ∃ s6' s7', loopS ck (turnS Tb (evP Tb Pg fu (j + 3)) fu (.nam 6) w_l_table_of_3) (l.map dG) [.val (.ref 0), .val (.int n), v2, .val (.int way), .val (.lst (ps.map dR)), .own (rows.map dRow), s6, s7, .emp] (pc p :: r) =
      .nx [.val (.ref 0), .val (.int n), v2, .val (.int way), .val (.lst (ps.map dR)), .own ((rows ++ (rowsF n way ps l p).1).map dRow), s6', s7', .emp] (pc (rowsF n way ps l p).2 :: r)
  | [], rows, p, s6, s7, _, _ => ⟨s6, s7, by rw [List.map_nil, loopS, if_pos (hck _), rowsF, mapS, List.append_nil]⟩
  | g :: l, rows, p, s6, s7, hg, hl => by
    rw [List.length_cons] at hl
    obtain ⟨g1, g2⟩ := hg g List.mem_cons_self
    obtain ⟨s6', s7', e⟩ := rows_loop fu j n way ps r v2 ck hck hn hw hps hb l (rows ++ [(g, (rowF n way ps g p).1)]) (rowF n way ps g p).2 (.val (dG g)) (.val (dR (rowF n way ps g p).1)) (fun x hx => hg x (List.mem_cons_of_mem _ hx)) (by simp; omega)
    refine ⟨s6', s7', ?_⟩
    rw [List.map_cons, loopS, if_pos (hck _), row_ok fu j n way ps g p r v2 s6 s7 rows hn hw hps hb g2 g1 (by omega)]
    show loopS _ _ _ _ _ = _
    rw [e]
    unfold rowsF
    rw [mapS, List.append_assoc]
    rfl
def tabF (n : Nat) (p : Pool) : List Rw × Pool := rowsF n (drawN 5 (famF n p).2).1 (paysF n (drawN 5 (famF n p).2).2).1 (famF n p).1 (paysF n (drawN 5 (famF n p).2).2).2
def dLt (t : Nat × List Rw) : D := .tup [.int t.1, .lst (t.2.map dRow)]
@[simp] theorem dLt_eq (t : Nat × List Rw) : dLt t = .tup [.int t.1, .lst (t.2.map dRow)] := rfl
theorem table_of_ok (fu j n : Nat) (p : Pool) (r : Mu) (h : n ≤ 5) (h1 : 1 ≤ n) : evP Tb Pg fu (j + 4) i_l_table_of [.ref 0, .int n] (pc p :: r) = .ok (dLt (n, (tabF n p).1)) (pc (tabF n p).2 :: r) := by
  have fm := fam_ok n p h h1
  have hw := drawN_lt 5 (famF n p).2 (by omega)
  have fl : (famF n p).1.length ≤ 31 := Nat.le_trans fm.sub.length_le (gT_len h)
  have e1 : ∀ (C : CF) (v1 v2 v3 v4 v5 v6 v7 : S) (q : Pool) (m : Mu) (hC : ∀ q m, C i_l_amount [.ref 0] (pc q :: m) = .ok (dR (amountF q).1) (pc (amountF q).2 :: m)), loopL (Kd.fr.ok ((List.range n).map dN)) (turnL Tb C [8] (.nam 8) c_l_table_of_1 e_l_table_of_1 [.val (.ref 0), v1, v2, v3, v4, v5, v6, v7, .emp]) ((List.range n).map dN) (pc q :: m) = .ok ((paysF n q).1.map dR) (pc (paysF n q).2 :: m) := fun C v1 v2 v3 v4 v5 v6 v7 q m hC => by
    refine lc_stateS (fun p => pc p :: m) (fun _ p => amountF p) dR q (fun i hi p => ?_) fun _ => trivial
    simp [turnL_eq, c_l_table_of_1, e_l_table_of_1, hC]
  have e1 := fun v1 v2 v3 v4 v5 v6 v7 q m => e1 (evP Tb Pg fu (j + 3)) v1 v2 v3 v4 v5 v6 v7 q m fun q m => amount_ok fu (j + 1) q m
  obtain ⟨s6', s7', e2⟩ := rows_loop fu j n (drawN 5 (famF n p).2).1 (paysF n (drawN 5 (famF n p).2).2).1 r (.val (.lst ((famF n p).1.map dG))) (Kd.fr.ok ((famF n p).1.map dG)) (fun _ => trivial) h (by omega) (pays_len _ _) (pays_bd _ _) (famF n p).1 [] (paysF n (drawN 5 (famF n p).2).2).2 .emp .emp (fun g hg => gT_mem h (fm.sub.subset hg)) (by simp; omega)
  simp only [List.map_nil, List.nil_append] at e2
  rw [call_at at_l_table_of]
  simp [runF_eq, r_l_table_of, b_l_table_of, enter, family_ok fu _ n _ _ h, drw, rng_eq, rngOk_nat (show n ≤ 100000 by omega), lim, show n ≤ 100000 by omega, e1, amount_ok, e2, tabF]
def cntF (p : Pool) : Nat := [1, 2, 3, 3, 4, 4, 4, 5].getD (drawN 8 p).1 5
theorem cnt_le (p : Pool) : 1 ≤ cntF p ∧ cntF p ≤ 5 := by
  have h := drawN_lt 8 p (by omega)
  unfold cntF
  generalize (drawN 8 p).1 = d at h
  match d, h with
  | 0, _ | 1, _ | 2, _ | 3, _ | 4, _ | 5, _ | 6, _ | 7, _ => decide
  | n + 8, h => omega
theorem table_ok (fu j : Nat) (p : Pool) (r : Mu) : evP Tb Pg fu (j + 5) i_l_table [.ref 0, .int 5] (pc p :: r) = .ok (dLt (cntF p, (tabF (cntF p) (drawN 8 p).2).1)) (pc (tabF (cntF p) (drawN 8 p).2).2 :: r) := by
  obtain ⟨c1, c2⟩ := cnt_le p
  have e := table_of_ok fu j (cntF p) (drawN 8 p).2 r c2 c1
  have h := drawN_lt 8 p (by omega)
  unfold cntF at e c1 c2 ⊢
  rw [call_at at_l_table]
  simp [runF_eq, r_l_table, b_l_table, enter, drw, lim]
  generalize (drawN 8 p).1 = d at h e
  rcases (show d = 0 ∨ d = 1 ∨ d = 2 ∨ d = 3 ∨ d = 4 ∨ d = 5 ∨ d = 6 ∨ d = 7 by omega) with rfl | rfl | rfl | rfl | rfl | rfl | rfl | rfl <;> (simp at e; simp [e])
def facF (p : Pool) : Int := [1, 1, 1, 1, 1000000000, 10000000000000000000000000].getD (drawN 6 p).1 1
theorem fac_le (p : Pool) : 0 < facF p ∧ facF p < 2 ^ 84 := by
  have h := drawN_lt 6 p (by omega)
  unfold facF
  generalize (drawN 6 p).1 = d at h
  match d, h with
  | 0, _ | 1, _ | 2, _ | 3, _ | 4, _ | 5, _ => decide
  | n + 6, h => omega
def bigR (k : Int) (rows : List Rw) : List Rw := rows.map fun x => (x.1, lessN (x.2.1 * k) x.2.2)
end Lw
end
end
section
set_option Elab.async false
set_option linter.all false
set_option maxRecDepth 100000
set_option maxHeartbeats 4000000
set_option exponentiation.threshold 5000
noncomputable section
namespace Lw
open Pm PySem
/-! ptable0: the program's Table. -/
def dRq (x : Rw) : D := .tup [dG x.1, dQ x.2]
@[simp] theorem dRq_eq (x : Rw) : dRq x = .tup [.tup (x.1.map dN), .obj k_Ratio [.int x.2.1, .int x.2.2]] := rfl
def dTab (t : Nat × List Rw) : D := .obj k_Table [.int t.1, .tup (t.2.map dRq)]
@[simp] theorem dTab_eq (t : Nat × List Rw) : dTab t = .obj k_Table [.int t.1, .tup (t.2.map dRq)] := rfl
def isGrp (n : Nat) (g : List Nat) : Bool := decide (0 < g.length) && decide (g = (List.range n).filter fun i => decide (i ∈ g))
theorem is_group_ok (fu j n : Nat) (g : List Nat) (m : Mu) (hn : n ≤ 1000) : evP Tb Pg fu (j + 1) i_is_group [.tup (g.map dN), .int n] m = .ok (.bl (isGrp n g)) m := by
  have e1 : loopL (Kd.fr.ok ((List.range n).map dN)) (turnL Tb (evP Tb Pg fu j) [2] (.nam 2) c_is_group_1 e_is_group_1 [.val (.tup (g.map dN)), .val (.int n), .emp]) ((List.range n).map dN) m = .ok (((List.range n).filter fun i => decide (i ∈ g)).map dN) m := by
    refine lc_filterTo dN id (fun i => decide (i ∈ g)) _ (by simp) (fun i _ => ?_) trivial
    by_cases c : i ∈ g <;> simp [turnL_eq, c_is_group_1, e_is_group_1, c]
  rw [call_at at_is_group]
  by_cases h : 0 < g.length
  · simp [runF_eq, r_is_group, b_is_group, enter, rng_eq, rngOk_nat (show n ≤ 100000 by omega), lim, show n ≤ 100000 by omega, e1, isGrp, h]
  · simp [runF_eq, r_is_group, b_is_group, enter, rng_eq, rngOk_nat (show n ≤ 100000 by omega), lim, show n ≤ 100000 by omega, e1, isGrp, h]
/-- rows that a table may have -/
structure Good (n : Nat) (gs : List (List Nat)) : Prop where
  n1 : 1 ≤ n
  n5 : n ≤ 5
  grp : ∀ g ∈ gs, isGrp n g = true
  asc : gs.Pairwise fun a b => ltG a b = true
  one : ∀ i, i < n → [i] ∈ gs
  whole : List.range n ∈ gs
  len : gs.length ≤ 1000
theorem zip_asc : ∀ {gs : List (List Nat)}, gs.Pairwise (fun a b => ltG a b = true) → (gs.zip gs.tail).all (fun p => ltG p.1 p.2) = true
  | [], _ => rfl
  | [_], _ => rfl
  | a :: b :: gs, h => by
    rw [List.pairwise_cons] at h
    have := zip_asc h.2
    rw [List.tail_cons, List.zip_cons_cons, List.all_cons]
    rw [List.tail_cons] at this
    simp [h.1 b List.mem_cons_self, this]
theorem isGrp_mem {n : Nat} {g : List Nat} (h : isGrp n g = true) : g ≠ [] ∧ g.length ≤ n ∧ ∀ i ∈ g, i < n := by
  unfold isGrp at h
  simp only [Bool.and_eq_true, decide_eq_true_eq] at h
  refine ⟨fun z => by rw [z] at h; simp at h, ?_, fun i hi => ?_⟩
  · rw [h.2]
    have := List.length_filter_le (fun i => decide (i ∈ g)) (List.range n)
    rwa [List.length_range] at this
  · rw [h.2] at hi
    simpa using (List.mem_filter.mp hi).1
@[simp] theorem pln_dG (g : List Nat) : plns (g.map dN) = true := by
  induction g with
  | nil => rfl
  | cons a g ih => rw [List.map_cons, plns, ih]; rfl
@[simp] theorem pln_dRq (xs : List Rw) : plns (xs.map dRq) = true := by
  induction xs with
  | nil => rfl
  | cons a g ih => rw [List.map_cons, plns, ih]; simp [pln, plns]
@[simp] theorem glb_5 : Tb.glb 0 = .int 5 := (rfl)
theorem tinit_ok (fu j n : Nat) (rows : List Rw) (m : Mu) (h : Good n (rows.map (·.1))) :
    evP Tb Pg fu (j + 2) i_Table_init [.ref m.length, .int n, .lst (rows.map dRq)] (m ++ [.ins k_Table []]) = .ok .non (m ++ [.ins k_Table [(f_count, .int n), (f_rows, .tup (rows.map dRq))]]) := by
  have n1 := h.n1
  have n5 := h.n5
  have hl := h.len
  have hl0 : rows.length ≤ 100000 := by have := h.len; rw [List.length_map] at this; omega
  generalize hm : m ++ [Cell.ins k_Table []] = m1
  generalize hC : evP Tb Pg fu (j + 1) = C
  have e1 : ∀ v0 v1 v2 v3 v6 v7 v8 : S, loopL (Kd.fr.ok (rows.map dRq)) (turnL Tb C [4, 5] (.tup [.nam 4, .nam 5]) c_Table_init_1 e_Table_init_1 [v0, v1, v2, v3, .emp, .emp, v6, v7, v8]) (rows.map dRq) m1 = .ok ((rows.map (·.1)).map dG) m1 := fun v0 v1 v2 v3 v6 v7 v8 => by
    refine lc_to dG (fun x => x.1) _ rfl (fun x _ => ?_) trivial
    simp [turnL_eq, c_Table_init_1, e_Table_init_1]
  generalize hg : rows.map (·.1) = gs at h e1 hl
  have e2 : ∀ v0 v2 v3 v5 v6 v7 v8 : S, loopL (Kd.fr.ok (gs.map dG)) (turnL Tb C [4] (.nam 4) c_Table_init_2 e_Table_init_2 [v0, .val (.int n), v2, v3, .emp, v5, v6, v7, v8]) (gs.map dG) m1 = .ok (gs.map fun g => .bl (isGrp n g)) m1 := fun v0 v2 v3 v5 v6 v7 v8 => by
    refine lc_pure _ (fun g _ => ?_) trivial
    rw [← hC]
    simp [turnL_eq, c_Table_init_2, e_Table_init_2, is_group_ok fu _ n g _ (show n ≤ 1000 by omega)]
  have e3 : ∀ v0 v1 v2 v3 v4 v5 v6 : S, loopL (Kd.fr.ok ((gs.zip gs.tail).map fun p => .tup [dG p.1, dG p.2])) (turnL Tb C [7, 8] (.tup [.nam 7, .nam 8]) c_Table_init_3 e_Table_init_3 [v0, v1, v2, v3, v4, v5, v6, .emp, .emp]) ((gs.zip gs.tail).map fun p => .tup [dG p.1, dG p.2]) m1 = .ok ((gs.zip gs.tail).map fun p => .bl (ltG p.1 p.2)) m1 := fun v0 v1 v2 v3 v4 v5 v6 => by
    refine lc_pure _ (fun g _ => ?_) trivial
    simp [turnL_eq, c_Table_init_3, e_Table_init_3]
  have e4 : ∀ v0 v1 v2 v4 v5 v7 v8 : S, loopL (Kd.fr.ok ((List.range n).map dN)) (turnL Tb C [6] (.nam 6) c_Table_init_4 e_Table_init_4 [v0, v1, v2, .val (.lst (gs.map dG)), v4, v5, .emp, v7, v8]) ((List.range n).map dN) m1 = .ok ((List.range n).map fun i => .bl (decide ([i] ∈ gs))) m1 := fun v0 v1 v2 v4 v5 v7 v8 => by
    refine lc_pure _ (fun i _ => ?_) trivial
    have := inD_dG m1 [i] gs
    simp only [List.map_cons, List.map_nil, dN_eq] at this
    simp [turnL_eq, c_Table_init_4, e_Table_init_4, lim, this]
  have hz : zipD (gs.map dG) ((gs.map dG).tail) = (gs.zip gs.tail).map fun p => .tup [dG p.1, dG p.2] := by
    rw [← List.map_tail, zipD_map]
  have a1 : gs.all (fun g => isGrp n g) = true := List.all_eq_true.mpr h.grp
  have a2 := zip_asc h.asc
  have a3 : (List.range n).all (fun i => decide ([i] ∈ gs)) = true := List.all_eq_true.mpr fun i hi => by
    rw [List.mem_range] at hi
    simpa using h.one i hi
  have i5 : ((n : Int) ≤ 5) := by omega
  have i1 : ((1 : Int) ≤ n) := by omega
  have zl : (gs.zip gs.tail).length ≤ 100000 := by rw [List.length_zip]; omega
  rw [call_at at_Table_init, hC]
  simp [runF_eq, r_Table_init, b_Table_init, enter, i1, i5, hl0, lim]
  simp only [e1]
  simp [lim, show gs.length ≤ 100000 by omega]
  simp only [e2]
  simp [a1, hz, show gs.length ≤ 100001 by omega, lim]
  simp only [dG_eq] at e3
  simp only [e3]
  simp [a2, rng_eq, rngOk_nat (show n ≤ 100000 by omega), show n ≤ 100000 by omega, lim]
  simp only [e4]
  simp [a3, h.whole, lim, rng_eq, rngOk_nat (show n ≤ 100000 by omega), show n ≤ 100000 by omega]
  rw [← hm]
  simp [fldPut, List.getElem?_append_right, List.set_append_right]
theorem tnew_ok (fu j n : Nat) (rows : List Rw) (m : Mu) (h : Good n (rows.map (·.1))) : newD Tb (evP Tb Pg fu (j + 2)) k_Table [.int n, .lst (rows.map dRq)] m = .ok (dTab (n, rows)) m := by
  have e := tinit_ok fu j n rows m h
  unfold newD
  simp [e, plns, pln]
theorem gT_grp : ∀ n, n ≤ 5 → (gT n).all (fun g => isGrp n g) = true := by
  intro n h
  match n, h with
  | 0, _ | 1, _ | 2, _ | 3, _ | 4, _ | 5, _ => decide +kernel
end Lw
end
end
section
set_option Elab.async false
set_option linter.all false
set_option maxRecDepth 100000
set_option maxHeartbeats 4000000
set_option exponentiation.threshold 5000
noncomputable section
namespace Lw
open Pm PySem
/-! ptable1: earning, whole, inner (behind ptable0). -/
/-- the earning of a group -/
def lookG (rows : List Rw) (g : List Nat) : Option (Int × Int) := findR (fun x => if x.1 = g then some x.2 else none) rows
theorem lookG_mem {g : List Nat} {e : Int × Int} : ∀ {rows : List Rw}, (g, e) ∈ rows → (rows.map (·.1)).Pairwise (fun a b => ltG a b = true) → lookG rows g = some e
  | x :: rows, h, p => by
    rw [List.map_cons, List.pairwise_cons] at p
    unfold lookG findR
    rcases List.mem_cons.mp h with rfl | h
    · simp
    · have := p.1 g (List.mem_map.mpr ⟨_, h, rfl⟩)
      have ne : ¬ x.1 = g := by
        rintro e
        rw [e, ltG_irr] at this
        cases this
      rw [if_neg ne]
      exact lookG_mem h p.2
theorem earning_ok (fu j n : Nat) (rows : List Rw) (g : List Nat) (e : Int × Int) (m : Mu) (h : lookG rows g = some e) : evP Tb Pg fu (j + 1) i_Table_earning [dTab (n, rows), .tup (g.map dN)] m = .ok (dQ e) m := by
  have e1 := for_ret (f := turnS Tb (evP Tb Pg fu j) fu (.tup [.nam 2, .nam 3]) w_Table_earning_1) (ck := Kd.fr.ok (rows.map dRq)) dRq (fun s m => ∃ a b, s = [.val (dTab (n, rows)), .val (dG g), a, b]) (fun x : Rw => if x.1 = g then some x.2 else none) dQ m trivial (l := rows) (s := [.val (dTab (n, rows)), .val (dG g), .emp, .emp]) (fun x _ s hs => by
    obtain ⟨a, b, rfl⟩ := hs
    by_cases c : x.1 = g
    · rw [if_pos c]
      simp [turnS_eq, w_Table_earning_1, c]
    · rw [if_neg c]
      exact ⟨[.val (dTab (n, rows)), .val (dG g), .val (dG x.1), .val (dQ x.2)], .inl (by simp [turnS_eq, w_Table_earning_1, c]), _, _, rfl⟩) ⟨_, _, rfl⟩
  have h' : findR (fun x : Rw => if x.1 = g then some x.2 else none) rows = some e := h
  rw [h'] at e1
  simp only [dTab_eq, dG_eq] at e1
  rw [call_at at_Table_earning]
  simp [runF_eq, r_Table_earning, b_Table_earning, enter, e1]
theorem whole_ok (fu j n : Nat) (rows : List Rw) (e : Int × Int) (m : Mu) (h : lookG rows (List.range n) = some e) (hn : n ≤ 1000) : evP Tb Pg fu (j + 2) i_Table_whole [dTab (n, rows)] m = .ok (dQ e) m := by
  have e1 := earning_ok fu j n rows _ e m h
  simp only [dTab_eq] at e1
  rw [call_at at_Table_whole]
  simp [runF_eq, r_Table_whole, b_Table_whole, enter, rng_eq, rngOk_nat (show n ≤ 100000 by omega), lim, show n ≤ 100000 by omega, e1]
end Lw
end
end
section
set_option Elab.async false
set_option linter.all false
set_option maxRecDepth 100000
set_option maxHeartbeats 4000000
set_option exponentiation.threshold 5000
noncomputable section
namespace Lw
open Pm PySem
/-! same: the law's own comparison, of data with themselves. -/
@[simp] theorem neD_bl (m : Mu) (i j : Bool) : neD m (.bl i) (.bl j) = some (!decide (i = j)) := by
  unfold neD
  rw [if_pos (by simp [isBl])]
  congr 2
  rw [Bool.eq_iff_iff, eqd_iff]
  simp
@[simp] theorem eqD_non (T : Tab) (C : CF) (m : Mu) : eqD T C m .non .non = some true := by
  unfold eqD
  rw [if_pos (by simp [isBl, sca]), eqd_self]
/-- data that same may be asked of -/
def smd : Nat → D → Bool
  | _, .int _ => true
  | _, .str _ => true
  | _, .non => true
  | _, .bl _ => true
  | k + 1, .tup xs => decide (xs.length ≤ 1000) && xs.all (smd k)
  | k + 1, .lst xs => decide (xs.length ≤ 1000) && xs.all (smd k)
  | _, _ => false
theorem smd_noBor {k : Nat} {d : D} (h : smd k d = true) : d.isBor = false := by
  cases d <;> first | rfl | (cases k <;> simp [smd] at h)
theorem same_loop (fu j : Nat) (a b : D) (xs : List D) (m : Mu) (hs : ∀ x ∈ xs, evP Tb Pg fu j i_l_same [x, x] m = .ok (.bl true) m) (hn : ∀ x ∈ xs, x.isBor = false) (ha : ∀ i, subD a (.int (i : Nat)) m = xs[i]?) (hb : ∀ i, subD b (.int (i : Nat)) m = xs[i]?) (h1 : a.isBor = false) (h2 : b.isBor = false) :
    ∃ t, loopS (Kd.fr.ok ((List.range xs.length).map dN)) (turnS Tb (evP Tb Pg fu j) fu (.nam 2) w_l_same_1) ((List.range xs.length).map dN) [.val a, .val b, .emp] m = .nx [.val a, .val b, t] m := by
  obtain ⟨s', m', e, t, rfl, rfl⟩ := for_inv (f := turnS Tb (evP Tb Pg fu j) fu (.nam 2) w_l_same_1) (ck := Kd.fr.ok ((List.range xs.length).map dN)) dN (fun (_ : Unit) s m' => ∃ t, s = [.val a, .val b, t] ∧ m' = m) (fun _ _ => ()) (fun _ _ _ _ => trivial) (l := List.range xs.length) (b := ()) (s := [.val a, .val b, .emp]) (m := m) (fun i hi _ s m' hI => by
    obtain ⟨t, rfl, rfl⟩ := hI
    rw [List.mem_range] at hi
    have e1 := hs xs[i] (List.getElem_mem hi)
    have e2 := hn xs[i] (List.getElem_mem hi)
    have e3 := ha i
    have e4 := hb i
    rw [List.getElem?_eq_getElem hi] at e3 e4
    exact ⟨[.val a, .val b, .val (.int i)], m', .inl (by simp [turnS_eq, w_l_same_1, e1, e2, e3, e4]), _, rfl, rfl⟩) ⟨.emp, rfl, rfl⟩
  exact ⟨t, e⟩
theorem same_refl (fu : Nat) : ∀ (k : Nat) (d : D) (j : Nat) (m : Mu), smd k d = true → evP Tb Pg fu (j + k + 1) i_l_same [d, d] m = .ok (.bl true) m
  | k, .int i, j, m, _ => by
    rw [call_at at_l_same]
    simp [runF_eq, r_l_same, b_l_same, enter, okVx, isiD, tyIs]
  | k, .str i, j, m, _ => by
    rw [call_at at_l_same]
    simp [runF_eq, r_l_same, b_l_same, enter, okVx, isiD, tyIs]
  | k, .non, j, m, _ => by
    rw [call_at at_l_same]
    simp [runF_eq, r_l_same, b_l_same, enter, okVx, isiD, tyIs]
  | k, .bl b, j, m, _ => by
    rw [call_at at_l_same]
    simp [runF_eq, r_l_same, b_l_same, enter, okVx, isiD, tyIs]
  | k + 1, .tup xs, j, m, h => by
    simp only [smd, Bool.and_eq_true, decide_eq_true_eq, List.all_eq_true] at h
    obtain ⟨t, e⟩ := same_loop fu (j + k + 1) (.tup xs) (.tup xs) xs m (fun x hx => same_refl fu k x j m (h.2 x hx)) (fun x hx => smd_noBor (h.2 x hx)) (fun i => by simp) (fun i => by simp) rfl rfl
    rw [call_at at_l_same, ← Nat.add_assoc]
    simp [runF_eq, r_l_same, b_l_same, enter, okVx, isiD, tyIs, rng_eq, rngOk_nat (show xs.length ≤ 100000 by omega), e]
  | k + 1, .lst xs, j, m, h => by
    simp only [smd, Bool.and_eq_true, decide_eq_true_eq, List.all_eq_true] at h
    obtain ⟨t, e⟩ := same_loop fu (j + k + 1) (.lst xs) (.lst xs) xs m (fun x hx => same_refl fu k x j m (h.2 x hx)) (fun x hx => smd_noBor (h.2 x hx)) (fun i => by simp) (fun i => by simp) rfl rfl
    rw [call_at at_l_same, ← Nat.add_assoc]
    simp [runF_eq, r_l_same, b_l_same, enter, okVx, isiD, tyIs, rng_eq, rngOk_nat (show xs.length ≤ 100000 by omega), e]
  | 0, .tup xs, j, m, h => by simp [smd] at h
  | 0, .lst xs, j, m, h => by simp [smd] at h
  | k, .obj _ _, j, m, h => by cases k <;> simp [smd] at h
  | k, .ref _, j, m, h => by cases k <;> simp [smd] at h
  | k, .bor _, j, m, h => by cases k <;> simp [smd] at h
  | k, .scr _, j, m, h => by cases k <;> simp [smd] at h
/-- a list in a cell, with its data -/
theorem same_cell (fu k a : Nat) (xs : List D) (j : Nat) (m : Mu) (hm : m[a]? = some (.lst xs)) (h : smd (k + 1) (.lst xs) = true) : evP Tb Pg fu (j + k + 2) i_l_same [.ref a, .lst xs] m = .ok (.bl true) m := by
  simp only [smd, Bool.and_eq_true, decide_eq_true_eq, List.all_eq_true] at h
  obtain ⟨t, e⟩ := same_loop fu (j + k + 1) (.ref a) (.lst xs) xs m (fun x hx => same_refl fu k x j m (h.2 x hx)) (fun x hx => smd_noBor (h.2 x hx)) (fun i => by simp [hm]) (fun i => by simp) rfl rfl
  rw [call_at at_l_same]
  simp [runF_eq, r_l_same, b_l_same, enter, okVx, isiD, tyIs, rng_eq, rngOk_nat (show xs.length ≤ 100000 by omega), hm, e, celD]
theorem smd_dG (g : List Nat) (h : g.length ≤ 1000) : smd 1 (dG g) = true := by
  simp [smd, h]
theorem smd_dGs (gs : List (List Nat)) (h : gs.length ≤ 1000) (hg : ∀ g ∈ gs, g.length ≤ 1000) : smd 2 (.lst (gs.map dG)) = true := by
  simp only [smd, List.length_map, Bool.and_eq_true, decide_eq_true_eq, List.all_eq_true]
  refine ⟨h, fun x hx => ?_⟩
  obtain ⟨g, h1, rfl⟩ := List.mem_map.mp hx
  exact smd_dG g (hg g h1)
end Lw
end
end
section
set_option Elab.async false
set_option linter.all false
set_option maxRecDepth 100000
set_option maxHeartbeats 4000000
set_option exponentiation.threshold 5000
noncomputable section
namespace Lw
open Pm PySem
/-! teq: == of tables. -/
theorem eqcs_dN (T : Tab) (C : CF) (m : Mu) : ∀ g h : List Nat, eqcs T C m (g.map dN) (h.map dN)
  | [], _ => by cases ‹List Nat› <;> (rw [List.map_nil]; unfold eqcs; trivial)
  | _ :: _, [] => by rw [List.map_nil]; unfold eqcs; trivial
  | a :: g, b :: h => by
    rw [List.map_cons, List.map_cons, eqcs]
    refine ⟨?_, fun _ => eqcs_dN T C m g h⟩
    rw [dN_eq, dN_eq]
    unfold eqc
    simp [flt, sca]
theorem eqc_dQ (fu j : Nat) (m : Mu) (x y : Int × Int) : eqc Tb (evP Tb Pg fu (j + 1)) m (dQ x) (dQ y) := by
  rw [dQ_eq, dQ_eq]
  unfold eqc
  exact ⟨rfl, rfl, rfl, i_Ratio_eq, eqm_Ratio, qeq_ok fu j x y m⟩
theorem eqc_dRq (fu j : Nat) (m : Mu) (x y : Rw) : eqc Tb (evP Tb Pg fu (j + 1)) m (dRq x) (dRq y) := by
  unfold dRq
  rw [eqc, eqcs]
  refine ⟨?_, fun _ => ?_⟩
  · rw [dG_eq, dG_eq, eqc]
    exact eqcs_dN _ _ _ _ _
  · rw [eqcs]
    refine ⟨eqc_dQ fu j m x.2 y.2, fun _ => ?_⟩
    unfold eqcs
    trivial
theorem eqcs_dRq (fu j : Nat) (m : Mu) : ∀ xs ys : List Rw, eqcs Tb (evP Tb Pg fu (j + 1)) m (xs.map dRq) (ys.map dRq)
  | [], _ => by cases ‹List Rw› <;> (rw [List.map_nil]; unfold eqcs; trivial)
  | _ :: _, [] => by rw [List.map_nil]; unfold eqcs; trivial
  | x :: xs, y :: ys => by
    rw [List.map_cons, List.map_cons, eqcs]
    exact ⟨eqc_dRq fu j m x y, fun _ => eqcs_dRq fu j m xs ys⟩
theorem deps_dRq (xs : List Rw) : deps (xs.map dRq) ≤ 2 := by
  induction xs with
  | nil => exact Nat.zero_le _
  | cons x xs ih => rw [List.map_cons, deps]; simp [dep, deps]; omega
theorem flts_obj (x : Rw) (xs : List Rw) : flts ((x :: xs).map dRq) = false := by
  rw [List.map_cons, flts]; simp [flt, flts]
theorem plks_dN (T : Tab) (g : List Nat) : plks T (g.map dN) = true := by
  induction g with
  | nil => rfl
  | cons a g ih => rw [List.map_cons, plks, ih]; rfl
theorem plks_dRq : ∀ xs : List Rw, plks Tb (xs.map dRq) = true
  | [] => rfl
  | x :: xs => by
    rw [List.map_cons, plks, plks_dRq xs]
    simp [plk, plks, plks_dN]
theorem eqd_flat {x y : D} : flp x = true → eqd x y = eqd x y := fun _ => rfl
theorem eqD_rows (fu j : Nat) (m : Mu) (t u : Nat × List Rw) : eqD Tb (evP Tb Pg fu (j + 1)) m (.tup [.int t.1, .tup (t.2.map dRq)]) (.tup [.int u.1, .tup (u.2.map dRq)]) = some (eqd (dTab t) (dTab u)) := by
  have ee : eqd (.tup [.int t.1, .tup (t.2.map dRq)]) (.tup [.int u.1, .tup (u.2.map dRq)]) = eqd (dTab t) (dTab u) := by
    rw [Bool.eq_iff_iff, eqd_iff, eqd_iff]
    simp
  have hd := deps_dRq t.2
  rw [← ee]
  unfold eqD
  rw [if_neg (by simp [isBl, sca]), vw_tup, vw_tup]
  split
  · rfl
  · rw [if_pos]
    refine ⟨by simp [dep, deps]; omega, ?_⟩
    rw [eqc, eqcs]
    refine ⟨by unfold eqc; simp [flt, sca], fun _ => ?_⟩
    rw [eqcs, eqc]
    refine ⟨eqcs_dRq fu j m t.2 u.2, fun _ => ?_⟩
    unfold eqcs
    trivial
theorem teq_ok (fu j : Nat) (m : Mu) (t u : Nat × List Rw) : evP Tb Pg fu (j + 2) i_Table_eq [dTab t, dTab u] m = .ok (.bl (eqd (dTab t) (dTab u))) m := by
  have e := eqD_rows fu j m t u
  simp only [dTab_eq] at e
  rw [call_at at_Table_eq]
  simp [runF_eq, r_Table_eq, b_Table_eq, enter, okVx, isiD, tyIs, lim, e]
theorem eqD_dTab (fu j : Nat) (m : Mu) (t u : Nat × List Rw) : eqD Tb (evP Tb Pg fu (j + 2)) m (dTab t) (dTab u) = some (eqd (dTab t) (dTab u)) := by
  have e := teq_ok fu j m t u
  have v : ∀ c xs, vw m (.obj c xs) = .obj c xs := fun c xs => rfl
  rw [dTab_eq, dTab_eq] at e ⊢
  unfold eqD
  rw [if_neg (by simp [isBl, sca]), v, v, if_neg (by simp [flp, flt]), if_pos]
  refine ⟨by simp [dep], ?_⟩
  unfold eqc
  exact ⟨rfl, by simp [plks, plk, plks_dRq], by simp [plks, plk, plks_dRq], i_Table_eq, eqm_Table, e⟩
end Lw
end
end
section
set_option Elab.async false
set_option linter.all false
set_option maxRecDepth 100000
set_option maxHeartbeats 4000000
set_option exponentiation.threshold 5000
noncomputable section
namespace Lw
open Pm PySem
/-! lmade: the table that the law makes (behind ptable1). -/
/-- the law's table, as the law's functions want it -/
structure Lp (n : Nat) (rows : List Rw) : Prop where
  good : Good n (rows.map (·.1))
  bd : ∀ x ∈ rows, Bd 128 x.2
  red : ∀ x ∈ rows, Red x.2
theorem Lp.len {n : Nat} {rows : List Rw} (h : Lp n rows) : rows.length ≤ 1000 := by
  have := h.good.len
  rwa [List.length_map] at this
theorem Lp.grp {n : Nat} {rows : List Rw} (h : Lp n rows) {x : Rw} (hx : x ∈ rows) : x.1 ≠ [] ∧ (∀ i ∈ x.1, i < n) ∧ x.1.length ≤ 5 := by
  obtain ⟨h1, h2, h3⟩ := isGrp_mem (h.good.grp x.1 (List.mem_map_of_mem hx))
  have := h.good.n5
  exact ⟨h1, h3, by omega⟩
theorem Lp.wh {n : Nat} {rows : List Rw} (h : Lp n rows) : ∃ e, (List.range n, e) ∈ rows ∧ lookG rows (List.range n) = some e := by
  obtain ⟨x, hx, e⟩ := List.mem_map.mp h.good.whole
  exact ⟨x.2, by rw [← e]; exact hx, lookG_mem (by rw [← e]; exact hx) h.good.asc⟩
theorem made_ok (fu j n : Nat) (rows : List Rw) (m : Mu) (hf : 4000 < fu) (h : Lp n rows) : evP Tb Pg fu (j + 3) i_l_made [dLt (n, rows)] m = .ok (dTab (n, rows)) m := by
  have hl := h.len
  have e1 : ∀ v0, loopL (Kd.fr.ok (rows.map dRow)) (turnL Tb (evP Tb Pg fu (j + 2)) [1, 2, 3] (.tup [.nam 1, .tup [.nam 2, .nam 3]]) c_l_made_1 e_l_made_1 [v0, .emp, .emp, .emp]) (rows.map dRow) m = .ok (rows.map dRq) m := fun v0 => by
    refine lc_to dRq id _ (by simp) (fun x hx => ?_) trivial
    have b := h.bd x hx
    have e := ratio_ok fu j x.2.1 x.2.2 m b.pos (Int.lt_trans b.den (by decide +kernel)) hf
    have r := h.red x hx
    unfold Red at r
    rw [r] at e
    simp only [dQ_eq] at e
    simp [turnL_eq, c_l_made_1, e_l_made_1, e, lim]
  have e2 := tnew_ok fu j n rows m h.good
  simp only [dTab_eq] at e2
  rw [call_at at_l_made]
  simp [runF_eq, r_l_made, b_l_made, enter, lim, show rows.length ≤ 100000 by omega, e1, e2]
end Lw
end
end
section
set_option Elab.async false
set_option linter.all false
set_option maxRecDepth 100000
set_option maxHeartbeats 4000000
set_option exponentiation.threshold 5000
noncomputable section
namespace Lw
open Pm PySem
/-! tabok: what the drawn table is (behind lmade). -/
/-! the table that the law draws -/
theorem fam_good {n : Nat} {gs : List (List Nat)} (n1 : 1 ≤ n) (n5 : n ≤ 5) (h : Fam n gs) : Good n gs :=
  ⟨n1, n5, fun g hg => List.all_eq_true.mp (gT_grp n n5) g (h.sub.subset hg), (gT_asc n5).sublist h.sub, h.one, h.whole, by have := h.sub.length_le; have := gT_len n5; omega⟩
theorem rowF_ok {n way : Nat} {ps : List (Int × Int)} {g : List Nat} (p : Pool) (hn : n ≤ 5) (hw : way < 5) (hps : ps.length = n) (hb : ∀ x ∈ ps, Bd 6 x) (hg : ∀ i ∈ g, i < n) (hgl : g.length ≤ n) : Bd 44 (rowF n way ps g p).1 ∧ Red (rowF n way ps g p).1 := by
  subst hps
  have pb' : Bd 37 (paidN ps g) := (paid_bd hb hg).more (by omega)
  have pr := paid_red hb hg
  unfold rowF
  split
  · exact ⟨(amount_bd p).more (by omega), amount_red p⟩
  split
  · refine ⟨⟨by simp, by simp, ?_⟩, red1 _⟩
    have := drawN_lt 6 (amountF p).2 (by omega)
    have h2 : g.length * (drawN 6 (amountF p).2).1 ≤ 5 * 6 := Nat.mul_le_mul (by omega) (by omega)
    have e : ((g.length : Int) * ((drawN 6 (amountF p).2).1 : Int)).natAbs = g.length * (drawN 6 (amountF p).2).1 := by
      rw [Int.natAbs_mul]; simp
    simp only [e]
    omega
  have b1 : ∀ k : Int, 0 ≤ k → k < 4 → Bd 6 (k, 1) := fun k h1 h2 => ⟨by simp, by simp, by simp; omega⟩
  split
  · have := drawN_lt 4 (amountF p).2 (by omega)
    split
    · have b := b1 (drawN 4 (amountF p).2).1 (by omega) (by omega)
      exact ⟨(minus_bd pb' b).more (by omega), minus_red pb'.pos b.pos⟩
    · have b := b1 (((drawN 4 (amountF p).2).1 : Int) * (if (drawN 6 (drawN 4 (amountF p).2).2).1 = 0 then 1 else 0)) (by split <;> omega) (by split <;> omega)
      exact ⟨(minus_bd pb' b).more (by omega), minus_red pb'.pos b.pos⟩
  split
  · have h1 := drawN_lt 6 (amountF p).2 (by omega)
    have h2 := drawN_lt 2 (drawN 6 (amountF p).2).2 (by omega)
    have b : Bd 6 (lessN (((drawN 6 (amountF p).2).1 : Int) - ((way : Int) - 2)) (1 + (drawN 2 (drawN 6 (amountF p).2).2).1)) := less_bd (by omega) (by omega) (by omega)
    exact ⟨(minus_bd pb' b).more (by omega), minus_red pb'.pos b.pos⟩
  · exact ⟨pb'.more (by omega), pr⟩
theorem rows_fst (n way : Nat) (ps : List (Int × Int)) : ∀ (l : List (List Nat)) (p : Pool), ((rowsF n way ps l p).1.map (·.1)) = l
  | [], _ => rfl
  | g :: l, p => by
    have := rows_fst n way ps l (rowF n way ps g p).2
    unfold rowsF at this ⊢
    rw [mapS, List.map_cons, this]
theorem tabF_ok (n : Nat) (p : Pool) (n1 : 1 ≤ n) (n5 : n ≤ 5) : Good n ((tabF n p).1.map (·.1)) ∧ ∀ x ∈ (tabF n p).1, Bd 44 x.2 ∧ Red x.2 := by
  have f := fam_ok n p n5 n1
  have hw := drawN_lt 5 (famF n p).2 (by omega)
  refine ⟨?_, fun x hx => ?_⟩
  · unfold tabF
    rw [rows_fst]
    exact fam_good n1 n5 f
  · unfold tabF rowsF at hx
    obtain ⟨g, hg, q, rfl⟩ := mapS_mem _ _ _ hx
    have gm := gT_mem n5 (f.sub.subset hg)
    exact rowF_ok q n5 (by omega) (pays_len _ _) (pays_bd _ _) gm.2 gm.1
theorem big_ok {n : Nat} {rows : List Rw} {k : Int} (h : Good n (rows.map (·.1)) ∧ ∀ x ∈ rows, Bd 44 x.2 ∧ Red x.2) (k0 : 0 < k) (k1 : k < 2 ^ 84) : Lp n (bigR k rows) := by
  refine ⟨?_, fun x hx => ?_, fun x hx => ?_⟩
  · unfold bigR
    rw [List.map_map]
    exact h.1
  · obtain ⟨y, hy, rfl⟩ := List.mem_map.mp hx
    have b := (h.2 y hy).1
    refine less_bd b.pos (Int.lt_trans b.den (by decide)) ?_
    rw [Int.natAbs_mul, show (2 : Nat) ^ 128 = 2 ^ 44 * 2 ^ 84 by decide]
    exact Nat.mul_lt_mul_of_lt_of_le b.num (by omega) (by decide)
  · obtain ⟨y, hy, rfl⟩ := List.mem_map.mp hx
    exact less_red (h.2 y hy).1.pos
end Lw
end
end
section
set_option Elab.async false
set_option linter.all false
set_option maxRecDepth 100000
set_option maxHeartbeats 4000000
set_option exponentiation.threshold 5000
noncomputable section
namespace Lw
open Pm PySem
/-! sp0: splits of the members into groups, in the program's way and in the law's (plain; behind groups). -/
abbrev Spl := List (List Nat)
/-- the program's: the first member's group, then the splits of the rest -/
def pSp (gs : List (List Nat)) : Nat → List Nat → List Spl
  | _, [] => [[]]
  | 0, _ :: _ => []
  | k + 1, a :: l => gs.flatMap fun g => if g.head? = some a ∧ (g.all fun i => decide (i ∈ a :: l)) = true then (pSp gs k ((a :: l).filter fun i => decide (i ∉ g))).map (g :: ·) else []
/-- the law's: one member after the other joins a group or opens one -/
def lStep (k : Nat) (s : Spl) : List Spl := (s ++ [[k]]) :: (List.range s.length).map fun i => s.take i ++ [s.getD i [] ++ [k]] ++ s.drop (i + 1)
def lSp : Nat → List Spl
  | 0 => [[]]
  | k + 1 => (lSp k).flatMap (lStep k)
theorem psp_mem {gs all : List (List Nat)} (h : ∀ g ∈ gs, g ∈ all) : ∀ (k : Nat) (l : List Nat) (s : Spl), s ∈ pSp gs k l ↔ s ∈ pSp all k l ∧ ∀ g ∈ s, g ∈ gs
  | k, [], s => by
    have e : ∀ x : List (List Nat), pSp x k [] = [[]] := fun x => by cases k <;> rfl
    rw [e, e]
    constructor
    · intro q
      refine ⟨q, fun g hg => ?_⟩
      rw [List.mem_singleton.mp q] at hg
      cases hg
    · exact fun q => q.1
  | 0, a :: l, s => by simp [pSp]
  | k + 1, a :: l, s => by
    simp only [pSp, List.mem_flatMap]
    constructor
    · rintro ⟨g, hg, hs⟩
      split at hs
      · rename_i c
        obtain ⟨t, ht, rfl⟩ := List.mem_map.mp hs
        obtain ⟨t1, t2⟩ := (psp_mem h k _ t).mp ht
        refine ⟨⟨g, h g hg, ?_⟩, fun x hx => ?_⟩
        · rw [if_pos c]
          exact List.mem_map_of_mem t1
        · rcases List.mem_cons.mp hx with rfl | hx
          · exact hg
          · exact t2 x hx
      · cases hs
    · rintro ⟨⟨g, hg, hs⟩, hq⟩
      split at hs
      · rename_i c
        obtain ⟨t, ht, rfl⟩ := List.mem_map.mp hs
        refine ⟨g, hq g List.mem_cons_self, ?_⟩
        rw [if_pos c]
        exact List.mem_map_of_mem ((psp_mem h k _ t).mpr ⟨ht, fun x hx => hq x (List.mem_cons_of_mem _ hx)⟩)
      · cases hs
theorem sp_same : ∀ n, n ≤ 5 → ((pSp (gT n) n (List.range n)).all fun s => decide (s ∈ lSp n)) = true ∧ ((lSp n).all fun s => decide (s ∈ pSp (gT n) n (List.range n))) = true := by
  intro n h
  match n, h with
  | 0, _ | 1, _ | 2, _ | 3, _ | 4, _ | 5, _ => decide +kernel
/-- sizes -/
theorem sp_size : ∀ n, n ≤ 5 → ((lSp n).all fun s => decide (s.length ≤ 5) && s.all fun g => decide (g.length ≤ 5)) = true ∧ (lSp n).length ≤ 52 ∧ (pSp (gT n) n (List.range n)).length ≤ 52 := by
  intro n h
  match n, h with
  | 0, _ | 1, _ | 2, _ | 3, _ | 4, _ | 5, _ => decide +kernel
/-- the law's splits of known groups -/
def lSpG (gs : List (List Nat)) (n : Nat) : List Spl := (lSp n).filter fun s => decide ((s.filter fun g => decide (g ∉ gs)).length = 0)
theorem lspg_mem (gs : List (List Nat)) (n : Nat) (s : Spl) : s ∈ lSpG gs n ↔ s ∈ lSp n ∧ ∀ g ∈ s, g ∈ gs := by
  unfold lSpG
  rw [List.mem_filter, decide_eq_true_eq, List.length_eq_zero_iff, List.filter_eq_nil_iff]
  simp
theorem sp_eq {gs : List (List Nat)} {n : Nat} (hn : n ≤ 5) (h : ∀ g ∈ gs, g ∈ gT n) (s : Spl) : s ∈ pSp gs n (List.range n) ↔ s ∈ lSpG gs n := by
  rw [psp_mem h, lspg_mem]
  obtain ⟨h1, h2⟩ := sp_same n hn
  rw [List.all_eq_true] at h1 h2
  constructor
  · exact fun q => ⟨by simpa using h1 s q.1, q.2⟩
  · exact fun q => ⟨by simpa using h2 s q.1, q.2⟩
theorem psp_len {gs : List (List Nat)} : ∀ (k : Nat) (l : List Nat), gs.Nodup → ∀ {all : List (List Nat)}, gs.Sublist all → (pSp gs k l).length ≤ (pSp all k l).length
  | k, [], _, all, _ => by
    have e : ∀ x : List (List Nat), pSp x k [] = [[]] := fun x => by cases k <;> rfl
    rw [e, e]
    exact Nat.le_refl _
  | 0, a :: l, _, _, _ => by simp [pSp]
  | k + 1, a :: l, nd, all, h => by
    have m : ∀ (xs : List (List Nat)) (F G : List Nat → List Spl), (∀ g ∈ xs, (F g).length ≤ (G g).length) → (xs.flatMap F).length ≤ (xs.flatMap G).length := fun xs F G => by
      induction xs with
      | nil => intro _; exact Nat.le_refl _
      | cons x xs ih =>
        intro q
        rw [List.flatMap_cons, List.flatMap_cons, List.length_append, List.length_append]
        have := q x List.mem_cons_self
        have := ih fun g hg => q g (List.mem_cons_of_mem _ hg)
        omega
    have s : ∀ {xs ys : List (List Nat)} (F : List Nat → List Spl), xs.Sublist ys → (xs.flatMap F).length ≤ (ys.flatMap F).length := fun {xs ys} F q => by
      induction q with
      | slnil => exact Nat.le_refl _
      | cons y q ih => rw [List.flatMap_cons, List.length_append]; omega
      | cons_cons y q ih => rw [List.flatMap_cons, List.flatMap_cons, List.length_append, List.length_append]; omega
    refine Nat.le_trans ?_ (s _ h)
    refine m _ _ _ fun g hg => ?_
    split
    · rw [List.length_map, List.length_map]
      exact psp_len k _ nd h
    · exact Nat.le_refl _
end Lw
end
end
section
set_option Elab.async false
set_option linter.all false
set_option maxRecDepth 100000
set_option maxHeartbeats 4000000
set_option exponentiation.threshold 5000
noncomputable section
namespace Lw
open Pm PySem
/-! sp1: the order of splits, and the best one (plain; behind sp0). -/
abbrev Tk := List (Int ⊕ List Nat)
def dSp (s : Spl) : D := .tup (s.map dG)
theorem dSp_eq (s : Spl) : dSp s = .tup (s.map dG) := rfl
def kt (s : Spl) : Tk := PySem.W.keyToks (pd (slfK (dSp s)))
def ltS (s t : Spl) : Bool := PySem.W.dataLt (pd (slfK (dSp s))) (pd (slfK (dSp t)))
theorem tg_inj : ∀ {g h : List Nat} {x y : Tk}, PySem.W.keyToksAll (pds (g.map dN)) ++ x = PySem.W.keyToksAll (pds (h.map dN)) ++ y → g = h ∧ x = y
  | [], [], x, y, e => by
    simp only [List.map_nil, pds, PySem.W.keyToksAll, List.cons_append, List.nil_append] at e
    injection e with _ e
    exact ⟨rfl, e⟩
  | [], b :: h, x, y, e => by
    simp [pds, PySem.W.keyToksAll] at e
  | a :: g, [], x, y, e => by
    simp [pds, PySem.W.keyToksAll] at e
  | a :: g, b :: h, x, y, e => by
    simp only [List.map_cons, dN_eq, pds, pd, PySem.W.keyToksAll, PySem.W.keyToks, List.cons_append, List.nil_append] at e
    injection e with _ e
    injection e with e1 e2
    injection e1 with e1
    obtain ⟨h1, h2⟩ := tg_inj e2
    exact ⟨by rw [h1, show a = b by omega], h2⟩
theorem ts_inj : ∀ {s t : Spl}, PySem.W.keyToksAll (pds (s.map dG)) = PySem.W.keyToksAll (pds (t.map dG)) → s = t
  | [], [], _ => rfl
  | [], b :: t, e => by simp [pds, PySem.W.keyToksAll] at e
  | a :: s, [], e => by simp [pds, PySem.W.keyToksAll] at e
  | a :: s, b :: t, e => by
    simp only [List.map_cons, dG_eq, pds, pd, PySem.W.keyToksAll, PySem.W.keyToks, List.cons_append, List.nil_append] at e
    injection e with _ e
    obtain ⟨h1, h2⟩ := tg_inj e
    rw [h1, ts_inj h2]
theorem kt_inj {s t : Spl} (h : kt s = kt t) : s = t := by
  unfold kt slfK dSp at h
  simp only [pd, pds, PySem.W.keyToksAll, PySem.W.keyToks, List.cons_append, List.nil_append] at h
  injection h with _ h
  injection h with _ h
  injection h with _ h
  exact ts_inj (List.append_cancel_right h)
abbrev OT : PyProof.Rows.KeyOrd := PyProof.Rows.listOrd PyProof.Rows.itemOrd
theorem ltS_irr (s : Spl) : ltS s s = false := OT.irrefl (kt s)
theorem ltS_trans {a b c : Spl} (h1 : ltS a b = true) (h2 : ltS b c = true) : ltS a c = true := OT.trans (kt a) (kt b) (kt c) h1 h2
theorem ltS_tot {a b : Spl} (h1 : ltS a b = false) (h2 : ltS b a = false) : a = b := kt_inj (OT.total (kt a) (kt b) h1 h2)
theorem ltS_neg {a b c : Spl} (h1 : ltS b a = false) (h2 : ltS c b = false) : ltS c a = false := by
  cases e : ltS c a with
  | false => rfl
  | true =>
    rcases OT.negTrans (kt c) (kt b) (kt a) e with q | q
    · rw [show ltS c b = true from q] at h2; cases h2
    · rw [show ltS b a = true from q] at h1; cases h1
theorem ltS_asym {a b : Spl} (h : ltS a b = true) : ltS b a = false := by
  cases e : ltS b a with
  | false => rfl
  | true => have := ltS_trans h e; rw [ltS_irr] at this; cases this
/-! sorted by length first -/
def srtS (l : List Spl) : List Spl := l.mergeSort fun a b => !ltS b a
theorem slfD_dSp (l : List Spl) : slfD (l.map dSp) = (srtS l).map dSp := by
  unfold slfD srtS
  rw [← List.map_mergeSort (r := fun a b => !ltS b a) (fun a _ b _ => rfl)]
theorem srtS_mem (l : List Spl) (s : Spl) : s ∈ srtS l ↔ s ∈ l := (List.mergeSort_perm _ _).mem_iff
theorem srtS_asc (l : List Spl) : (srtS l).Pairwise fun a b => ltS b a = false := by
  have := List.pairwise_mergeSort (le := fun a b => !ltS b a) (fun a b c h1 h2 => by
    simp only [Bool.not_eq_true'] at h1 h2 ⊢
    exact ltS_neg h1 h2) (fun a b => by
    cases e : ltS b a with
    | false => rfl
    | true => rw [ltS_asym e]; rfl) l
  exact this.imp fun h => by simpa using h
/-! amounts -/
def aLt (x y : Int × Int) : Prop := x.1 * y.2 < y.1 * x.2
instance (x y : Int × Int) : Decidable (aLt x y) := inferInstanceAs (Decidable (_ < _))
theorem aLt_asym {x y : Int × Int} (h : aLt x y) : ¬ aLt y x := by
  unfold aLt at *
  omega
theorem aLt_trans {x y z : Int × Int} (hx : 0 < x.2) (hy : 0 < y.2) (hz : 0 < z.2) (h1 : aLt x y) (h2 : aLt y z) : aLt x z := by
  unfold aLt at *
  have a := Int.mul_lt_mul_of_pos_right h1 hz
  have b := Int.mul_lt_mul_of_pos_right h2 hx
  have e1 : y.1 * x.2 * z.2 = y.1 * z.2 * x.2 := by rw [Int.mul_assoc, Int.mul_comm x.2, ← Int.mul_assoc]
  have c : x.1 * z.2 * y.2 < z.1 * x.2 * y.2 := by
    have e2 : x.1 * z.2 * y.2 = x.1 * y.2 * z.2 := by rw [Int.mul_assoc, Int.mul_comm z.2, ← Int.mul_assoc]
    have e3 : z.1 * x.2 * y.2 = z.1 * y.2 * x.2 := by rw [Int.mul_assoc, Int.mul_comm x.2, ← Int.mul_assoc]
    rw [e2, e3]
    omega
  exact Int.lt_of_mul_lt_mul_right c (Int.le_of_lt hy)
theorem aLt_tot {x y : Int × Int} (hx : 0 < x.2) (hy : 0 < y.2) (rx : Red x) (ry : Red y) (h1 : ¬ aLt x y) (h2 : ¬ aLt y x) : x = y := by
  unfold aLt at *
  have e := lessN_eq hx hy (show x.1 * y.2 = y.1 * x.2 by omega)
  unfold Red at rx ry
  rw [rx, ry] at e
  exact e
/-! the best split -/
section
variable (A : Spl → Int × Int)
def Bt (L : List Spl) (b : Spl) : Prop := b ∈ L ∧ ∀ s ∈ L, aLt (A s) (A b) ∨ (A s = A b ∧ ltS s b = false)
/-- the program's step, the law's -/
def stepP (b : Option Spl) (s : Spl) : Option Spl := match b with
  | none => some s
  | some b => if aLt (A b) (A s) then some s else some b
def stepL (b : Option Spl) (s : Spl) : Option Spl := match b with
  | none => some s
  | some b => if aLt (A b) (A s) ∨ (A s = A b ∧ ltS s b = true) then some s else some b
variable {A}
theorem Bt.one (s : Spl) : Bt A [s] s := ⟨List.mem_singleton.mpr rfl, fun t ht => by
  rw [List.mem_singleton.mp ht]
  exact .inr ⟨rfl, ltS_irr s⟩⟩
theorem Bt.uniq {L L' : List Spl} {b b' : Spl} (h : Bt A L b) (h' : Bt A L' b') (e : ∀ s, s ∈ L ↔ s ∈ L') : b = b' := by
  rcases h.2 b' ((e b').mpr h'.1) with q | ⟨q1, q2⟩
  · rcases h'.2 b ((e b).mp h.1) with r | ⟨r1, _⟩
    · exact absurd q (aLt_asym r)
    · rw [r1] at q; exact absurd q (aLt_asym q)
  · rcases h'.2 b ((e b).mp h.1) with r | ⟨_, r2⟩
    · rw [q1] at r; exact absurd r (aLt_asym r)
    · exact ltS_tot r2 q2
variable {S : List Spl} (hA : ∀ s ∈ S, 0 < (A s).2 ∧ Red (A s))
include hA
theorem Bt.stepP {L : List Spl} {b s : Spl} (h : Bt A L b) (hs : s ∈ S) (hL : ∀ t ∈ L, t ∈ S) (asc : ∀ t ∈ L, ltS s t = false) : ∃ b', stepP A (some b) s = some b' ∧ Bt A (L ++ [s]) b' := by
  unfold Lw.stepP
  have hb := hL b h.1
  by_cases c : aLt (A b) (A s)
  · refine ⟨s, if_pos c, List.mem_append_right _ (List.mem_singleton.mpr rfl), fun t ht => ?_⟩
    rcases List.mem_append.mp ht with ht | ht
    · rcases h.2 t ht with q | ⟨q, _⟩
      · exact .inl (aLt_trans (hA t (hL t ht)).1 (hA b hb).1 (hA s hs).1 q c)
      · rw [q]; exact .inl c
    · rw [List.mem_singleton.mp ht]; exact .inr ⟨rfl, ltS_irr s⟩
  · refine ⟨b, if_neg c, List.mem_append_left _ h.1, fun t ht => ?_⟩
    rcases List.mem_append.mp ht with ht | ht
    · exact h.2 t ht
    · rw [List.mem_singleton.mp ht]
      by_cases d : aLt (A s) (A b)
      · exact .inl d
      · exact .inr ⟨aLt_tot (hA s hs).1 (hA b hb).1 (hA s hs).2 (hA b hb).2 d c, asc b h.1⟩
theorem Bt.stepL {L : List Spl} {b s : Spl} (h : Bt A L b) (hs : s ∈ S) (hL : ∀ t ∈ L, t ∈ S) : ∃ b', stepL A (some b) s = some b' ∧ Bt A (L ++ [s]) b' := by
  unfold Lw.stepL
  have hb := hL b h.1
  by_cases c : aLt (A b) (A s) ∨ (A s = A b ∧ ltS s b = true)
  · refine ⟨s, if_pos c, List.mem_append_right _ (List.mem_singleton.mpr rfl), fun t ht => ?_⟩
    rcases List.mem_append.mp ht with ht | ht
    · rcases c with c | ⟨c1, c2⟩
      · rcases h.2 t ht with q | ⟨q, _⟩
        · exact .inl (aLt_trans (hA t (hL t ht)).1 (hA b hb).1 (hA s hs).1 q c)
        · rw [q]; exact .inl c
      · rw [c1]
        rcases h.2 t ht with q | ⟨q, q2⟩
        · exact .inl q
        · refine .inr ⟨q, ?_⟩
          cases e : ltS t s with
          | false => rfl
          | true => rw [ltS_trans e c2] at q2; cases q2
    · rw [List.mem_singleton.mp ht]; exact .inr ⟨rfl, ltS_irr s⟩
  · refine ⟨b, if_neg c, List.mem_append_left _ h.1, fun t ht => ?_⟩
    rcases List.mem_append.mp ht with ht | ht
    · exact h.2 t ht
    · rw [List.mem_singleton.mp ht]
      by_cases d : aLt (A s) (A b)
      · exact .inl d
      · have e := aLt_tot (hA s hs).1 (hA b hb).1 (hA s hs).2 (hA b hb).2 d fun q => c (.inl q)
        refine .inr ⟨e, ?_⟩
        cases e2 : ltS s b with
        | false => rfl
        | true => exact absurd (.inr ⟨e, e2⟩) c
theorem foldP : ∀ (L pre : List Spl) (b : Spl), Bt A pre b → (∀ t ∈ pre, t ∈ S) → (∀ t ∈ L, t ∈ S) → L.Pairwise (fun a b => ltS b a = false) → (∀ s ∈ L, ∀ t ∈ pre, ltS s t = false) → ∃ b', L.foldl (Lw.stepP A) (some b) = some b' ∧ Bt A (pre ++ L) b'
  | [], pre, b, h, _, _, _, _ => ⟨b, rfl, by rw [List.append_nil]; exact h⟩
  | s :: L, pre, b, h, h1, h2, h3, h4 => by
    obtain ⟨b1, e1, k1⟩ := h.stepP hA (h2 s List.mem_cons_self) h1 (h4 s List.mem_cons_self)
    rw [List.pairwise_cons] at h3
    obtain ⟨b2, e2, k2⟩ := foldP L (pre ++ [s]) b1 k1 (fun t ht => by
      rcases List.mem_append.mp ht with ht | ht
      · exact h1 t ht
      · rw [List.mem_singleton.mp ht]; exact h2 s List.mem_cons_self) (fun t ht => h2 t (List.mem_cons_of_mem _ ht)) h3.2 fun t ht u hu => by
      rcases List.mem_append.mp hu with hu | hu
      · exact h4 t (List.mem_cons_of_mem _ ht) u hu
      · rw [List.mem_singleton.mp hu]; exact h3.1 t ht
    refine ⟨b2, by rw [List.foldl_cons, e1]; exact e2, ?_⟩
    rwa [List.append_assoc] at k2
theorem foldL : ∀ (L pre : List Spl) (b : Spl), Bt A pre b → (∀ t ∈ pre, t ∈ S) → (∀ t ∈ L, t ∈ S) → ∃ b', L.foldl (Lw.stepL A) (some b) = some b' ∧ Bt A (pre ++ L) b'
  | [], pre, b, h, _, _ => ⟨b, rfl, by rw [List.append_nil]; exact h⟩
  | s :: L, pre, b, h, h1, h2 => by
    obtain ⟨b1, e1, k1⟩ := h.stepL hA (h2 s List.mem_cons_self) h1
    obtain ⟨b2, e2, k2⟩ := foldL L (pre ++ [s]) b1 k1 (fun t ht => by
      rcases List.mem_append.mp ht with ht | ht
      · exact h1 t ht
      · rw [List.mem_singleton.mp ht]; exact h2 s List.mem_cons_self) fun t ht => h2 t (List.mem_cons_of_mem _ ht)
    refine ⟨b2, by rw [List.foldl_cons, e1]; exact e2, ?_⟩
    rwa [List.append_assoc] at k2
theorem bestP {L : List Spl} (h0 : L ≠ []) (hL : ∀ t ∈ L, t ∈ S) : ∃ b, (srtS L).foldl (Lw.stepP A) none = some b ∧ Bt A L b := by
  have hm := srtS_mem L
  have ha := srtS_asc L
  cases e : srtS L with
  | nil =>
    cases L with
    | nil => exact absurd rfl h0
    | cons a L => have := (hm a).mpr List.mem_cons_self; rw [e] at this; cases this
  | cons s M =>
    rw [e] at ha hm
    rw [List.pairwise_cons] at ha
    obtain ⟨b, e1, k⟩ := foldP hA M [s] s (Bt.one s) (fun t ht => by rw [List.mem_singleton.mp ht]; exact hL s ((hm s).mp List.mem_cons_self)) (fun t ht => hL t ((hm t).mp (List.mem_cons_of_mem _ ht))) ha.2 fun t ht u hu => by
      rw [List.mem_singleton.mp hu]; exact ha.1 t ht
    exact ⟨b, e1, (hm b).mp k.1, fun t ht => k.2 t ((hm t).mpr ht)⟩
theorem bestL {L : List Spl} (h0 : L ≠ []) (hL : ∀ t ∈ L, t ∈ S) : ∃ b, L.foldl (Lw.stepL A) none = some b ∧ Bt A L b := by
  cases L with
  | nil => exact absurd rfl h0
  | cons s M =>
    obtain ⟨b, e1, k⟩ := foldL hA M [s] s (Bt.one s) (fun t ht => by rw [List.mem_singleton.mp ht]; exact hL s List.mem_cons_self) fun t ht => hL t (List.mem_cons_of_mem _ ht)
    exact ⟨b, e1, k⟩
end
end Lw
end
end
section
set_option Elab.async false
set_option linter.all false
set_option maxRecDepth 100000
set_option maxHeartbeats 4000000
set_option exponentiation.threshold 5000
noncomputable section
namespace Lw
open Pm PySem
/-! sp2: the program's splits (behind sp1, lmade). -/
theorem noLs_dN : ∀ g : List Nat, noLs (g.map dN) = true
  | [] => rfl
  | a :: g => by rw [List.map_cons, noLs, noLs_dN g]; rfl
theorem noLs_dG : ∀ s : Spl, noLs (s.map dG) = true
  | [] => rfl
  | a :: s => by rw [List.map_cons, noLs, noLs_dG s, dG_eq, noL, noLs_dN]; rfl
theorem alikeA_dN : ∀ g h : List Nat, PySem.W.alikeAll (pds (g.map dN)) (pds (h.map dN)) = true
  | [], _ => by simp [pds, PySem.W.alikeAll]
  | _ :: _, [] => by simp [pds, PySem.W.alikeAll]
  | a :: g, b :: h => by simp [pds, pd, PySem.W.alikeAll, PySem.W.alike, alikeA_dN g h]
theorem alikeA_dG : ∀ s t : Spl, PySem.W.alikeAll (pds (s.map dG)) (pds (t.map dG)) = true
  | [], _ => by simp [pds, PySem.W.alikeAll]
  | _ :: _, [] => by simp [pds, PySem.W.alikeAll]
  | a :: s, b :: t => by simp [pds, pd, PySem.W.alikeAll, PySem.W.alike, alikeA_dG s t, alikeA_dN a b]
theorem alike_key (s t : Spl) : PySem.W.alike (pd (slfK (dSp s))) (pd (slfK (dSp t))) = true := by
  simp [slfK, dSp, pd, pds, PySem.W.alike, PySem.W.alikeAll, alikeA_dG]
theorem flp_key (s : Spl) : flp (slfK (dSp s)) = true := by
  have h := deps_dG s
  have e : dep (slfK (dSp s)) ≤ 4 := by
    simp [slfK, dSp, dep, deps]
    omega
  unfold flp
  rw [Bool.and_eq_true, decide_eq_true_eq]
  refine ⟨?_, by omega⟩
  simp [slfK, dSp, flt, flts]
theorem slfOk_dSp {l : List Spl} (hl : l.length ≤ 1000) (hs : ∀ s ∈ l, s.length ≤ 1000) : slfOk (l.map dSp) = true := by
  unfold slfOk
  simp only [Bool.and_eq_true, decide_eq_true_eq, List.all_eq_true, List.length_map]
  refine ⟨by unfold lim; omega, fun x hx => ?_, fun x hx y hy => ?_⟩
  · obtain ⟨s, h, rfl⟩ := List.mem_map.mp hx
    refine ⟨?_, flp_key s⟩
    have := hs s h
    unfold dSp isTupD
    rw [Bool.and_eq_true, decide_eq_true_eq, List.length_map]
    exact ⟨by unfold lim; omega, noLs_dG s⟩
  · obtain ⟨s, _, rfl⟩ := List.mem_map.mp hx
    obtain ⟨t, _, rfl⟩ := List.mem_map.mp hy
    exact alike_key s t
/-! the members that are left -/
theorem left_fil : ∀ n, n ≤ 5 → (([] :: gT n).all fun l => (gT n).all fun g => decide ((l.filter fun i => decide (i ∉ g)) ∈ [] :: gT n)) = true := by
  intro n h
  match n, h with
  | 0, _ | 1, _ | 2, _ | 3, _ | 4, _ | 5, _ => decide +kernel
theorem left_len : ∀ n, n ≤ 5 → (([] :: gT n).all fun l => (List.range 6).all fun k => decide ((pSp (gT n) k l).length ≤ 52)) = true := by
  intro n h
  match n, h with
  | 0, _ | 1, _ | 2, _ | 3, _ | 4, _ | 5, _ => decide +kernel
theorem range_gT : ∀ n, 1 ≤ n → n ≤ 5 → decide (List.range n ∈ gT n) = true := by
  intro n h1 h
  match n, h1, h with
  | 1, _, _ | 2, _, _ | 3, _, _ | 4, _, _ | 5, _, _ => decide +kernel
/-- the splits with one group in front -/
def spF (gs : List (List Nat)) (k : Nat) (a : Nat) (l : List Nat) (g : List Nat) : List Spl := if g.head? = some a ∧ (g.all fun i => decide (i ∈ a :: l)) = true then (pSp gs k ((a :: l).filter fun i => decide (i ∉ g))).map (g :: ·) else []
theorem nodup_asc {gs : List (List Nat)} (h : gs.Pairwise fun a b => ltG a b = true) : gs.Nodup := h.imp fun {a b} q e => by
  subst e
  have := ltG_asym q
  rw [q] at this
  cases this
theorem psp_size {gs : List (List Nat)} : ∀ (k : Nat) (l : List Nat) (s : Spl), s ∈ pSp gs k l → s.length ≤ k
  | k, [], s, h => by
    have e : pSp gs k [] = [[]] := by cases k <;> rfl
    rw [e] at h
    rw [List.mem_singleton.mp h]
    exact Nat.zero_le _
  | 0, a :: l, s, h => by simp [pSp] at h
  | k + 1, a :: l, s, h => by
    simp only [pSp, List.mem_flatMap] at h
    obtain ⟨g, _, hs⟩ := h
    split at hs
    · obtain ⟨t, ht, rfl⟩ := List.mem_map.mp hs
      have := psp_size k _ t ht
      rw [List.length_cons]
      omega
    · cases hs
section
variable {n : Nat} {rows : List Rw} (h : Lp n rows) (hs : (rows.map (·.1)).Sublist (gT n))
include h hs
theorem psp52 {k : Nat} {l : List Nat} (hk : k ≤ 5) (hl : l ∈ [] :: gT n) : (pSp (rows.map (·.1)) k l).length ≤ 52 := by
  have q := List.all_eq_true.mp (List.all_eq_true.mp (left_len n h.good.n5) l hl) k (List.mem_range.mpr (by omega))
  exact Nat.le_trans (psp_len k l (nodup_asc h.good.asc) hs) (by simpa using q)
theorem sp_turn (fu j : Nat) {k : Nat} (hk : k ≤ 4) {a : Nat} {l : List Nat} (hl : a :: l ∈ [] :: gT n) (hl1 : l.length ≤ k)
    (ih : ∀ (l' : List Nat) (m : Mu), l' ∈ [] :: gT n → l'.length ≤ k → evP Tb Pg fu (j + k + 1) i_splits [dTab (n, rows), .lst (l'.map dN)] m = .ok (.lst ((pSp (rows.map (·.1)) k l').map dSp)) m)
    {x : Rw} (hx : x ∈ rows) (acc : List Spl) (ha : acc.length ≤ 60000) (m : Mu) (u3 u4 u5 : S) :
    ∃ v3 v4 v5 : S, turnS Tb (evP Tb Pg fu (j + k + 1)) fu (.tup [.nam 3, .nam 4]) w_splits_4 (dRq x) [.val (dTab (n, rows)), .val (.lst ((a :: l).map dN)), .own (acc.map dSp), u3, u4, u5, .emp, .emp] m =
      .nx [.val (dTab (n, rows)), .val (.lst ((a :: l).map dN)), .own ((acc ++ spF (rows.map (·.1)) k a l x.1).map dSp), v3, v4, v5, .emp, .emp] m := by
  obtain ⟨g0, g1, g2⟩ := h.grp hx
  have gm : x.1 ∈ gT n := hs.subset (List.mem_map_of_mem hx)
  have ll : (a :: l).length ≤ 100000 := by rw [List.length_cons]; omega
  have sfn : ¬ (x.1.head? = some a ∧ (x.1.all fun i => decide (i ∈ a :: l)) = true) → spF (rows.map (·.1)) k a l x.1 = [] := fun z => if_neg z
  have sfp : (x.1.head? = some a ∧ (x.1.all fun i => decide (i ∈ a :: l)) = true) → spF (rows.map (·.1)) k a l x.1 = (pSp (rows.map (·.1)) k ((a :: l).filter fun i => decide (i ∉ x.1))).map (x.1 :: ·) := fun z => if_pos z
  have rm : ((a :: l).filter fun i => decide (i ∉ x.1)) ∈ [] :: gT n := by
    have := List.all_eq_true.mp (List.all_eq_true.mp (left_fil n h.good.n5) _ hl) _ gm
    simpa using this
  have rl : x.1.head? = some a → ((a :: l).filter fun i => decide (i ∉ x.1)).length ≤ k := fun z => by
    have hm : a ∈ x.1 := List.mem_of_mem_head? z
    rw [List.filter_cons, if_neg (by simpa using hm)]
    exact Nat.le_trans (List.length_filter_le _ _) hl1
  have e3 := fun m z => ih _ m rm (rl z)
  have e4 := psp52 h hs (k := k) (by omega) rm
  have e6 := fun s => psp_size (gs := rows.map (·.1)) k ((a :: l).filter fun i => decide (i ∉ x.1)) s
  have hL : ((a :: l).map dN)[0]? = some (.int a) := rfl
  have hG : ∃ b, (x.1.map dN)[0]? = some (.int (b : Nat)) ∧ (x.1.head? = some a ↔ b = a) := by
    cases e : x.1 with
    | nil => exact absurd e g0
    | cons b g => exact ⟨b, rfl, by simp⟩
  obtain ⟨b, hG, hba⟩ := hG
  rw [hba] at sfn sfp e3
  obtain ⟨G, e⟩ := x
  simp only at *
  generalize hr : ((a :: l).filter fun i => decide (i ∉ G)) = rest at *
  generalize spF (rows.map (·.1)) k a l G = F at *
  generalize hq : a :: l = L at *
  generalize pSp (rows.map (·.1)) k rest = sp at *
  have e1 : ∀ v2 v3 v4 v5 v7 : S, loopL (Kd.fr.ok (G.map dN)) (turnL Tb (evP Tb Pg fu (j + k + 1)) [6] (.nam 6) c_splits_1 e_splits_1 [.val (dTab (n, rows)), .val (.lst (L.map dN)), v2, v3, v4, v5, .emp, v7]) (G.map dN) m = .ok (G.map fun i => .bl (decide (i ∈ L))) m := fun v2 v3 v4 v5 v7 => by
    refine lc_pure _ (fun i _ => ?_) trivial
    simp [turnL_eq, c_splits_1, e_splits_1]
  have e2 : ∀ v2 v4 v5 v7 : S, loopL (Kd.fr.ok (L.map dN)) (turnL Tb (evP Tb Pg fu (j + k + 1)) [6] (.nam 6) c_splits_2 e_splits_2 [.val (dTab (n, rows)), .val (.lst (L.map dN)), v2, .val (dG G), v4, v5, .emp, v7]) (L.map dN) m = .ok (rest.map dN) m := fun v2 v4 v5 v7 => by
    rw [← hr]
    refine lc_filterTo dN id (fun i => decide (i ∉ G)) _ (by simp) (fun i _ => ?_) trivial
    by_cases c : i ∈ G <;> simp [turnL_eq, c_splits_2, e_splits_2, c]
  have e5 : ∀ v2 v4 v5 v6 : S, loopL (Kd.fr.ok (sp.map dSp)) (turnL Tb (evP Tb Pg fu (j + k + 1)) [7] (.nam 7) c_splits_3 e_splits_3 [.val (dTab (n, rows)), .val (.lst (L.map dN)), v2, .val (dG G), v4, v5, v6, .emp]) (sp.map dSp) m = .ok ((sp.map (G :: ·)).map dSp) m := fun v2 v4 v5 v6 => by
    refine lc_to dSp (G :: ·) _ rfl (fun s hs => ?_) trivial
    have := e6 s hs
    simp [turnL_eq, c_splits_3, e_splits_3, dSp, lim, show 1 + s.length ≤ 100000 by omega]
  have gl : G.length ≤ 100000 := by omega
  simp only [dTab_eq, dG_eq] at e1 e2 e3 e5
  by_cases c : b = a
  · have c' : (b : Int) = (a : Int) := by omega
    by_cases d : (G.all fun i => decide (i ∈ L)) = true
    · have e3 := fun m => e3 m c
      rw [sfp ⟨c, d⟩]
      refine ⟨.val (dG G), .val (dQ e), .val (.lst (rest.map dN)), ?_⟩
      simp [turnS_eq, w_splits_4, lim, e1, e2, e3, e5, hG, hL, c', d, ll, gl, show sp.length ≤ 100000 by omega, show acc.length + sp.length ≤ 100000 by omega]
    · rw [sfn fun z => d z.2]
      refine ⟨.val (dG G), .val (dQ e), u5, ?_⟩
      simp [turnS_eq, w_splits_4, lim, e1, hG, hL, c', d, ll, gl]
  · have c' : ¬ (b : Int) = (a : Int) := by omega
    rw [sfn fun z => c z.1]
    refine ⟨.val (dG G), .val (dQ e), u5, ?_⟩
    simp [turnS_eq, w_splits_4, lim, c', hG, hL]
theorem sp_loop (fu j : Nat) {k : Nat} (hk : k ≤ 4) {a : Nat} {l : List Nat} (hl : a :: l ∈ [] :: gT n) (hl1 : l.length ≤ k)
    (ih : ∀ (l' : List Nat) (m : Mu), l' ∈ [] :: gT n → l'.length ≤ k → evP Tb Pg fu (j + k + 1) i_splits [dTab (n, rows), .lst (l'.map dN)] m = .ok (.lst ((pSp (rows.map (·.1)) k l').map dSp)) m) (m : Mu) (ck : Mu → Prop) (hck : ck m) :
    ∀ (r : List Rw) (acc : List Spl) (u3 u4 u5 : S), (∀ x ∈ r, x ∈ rows) → acc.length + 52 * r.length ≤ 60000 →
    ∃ v3 v4 v5 : S, loopS ck (turnS Tb (evP Tb Pg fu (j + k + 1)) fu (.tup [.nam 3, .nam 4]) w_splits_4) (r.map dRq) [.val (dTab (n, rows)), .val (.lst ((a :: l).map dN)), .own (acc.map dSp), u3, u4, u5, .emp, .emp] m =
      .nx [.val (dTab (n, rows)), .val (.lst ((a :: l).map dN)), .own ((acc ++ (r.map (·.1)).flatMap (spF (rows.map (·.1)) k a l)).map dSp), v3, v4, v5, .emp, .emp] m
  | [], acc, u3, u4, u5, _, _ => ⟨u3, u4, u5, by rw [List.map_nil, loopS, if_pos hck]; simp⟩
  | x :: r, acc, u3, u4, u5, hr, ha => by
    rw [List.length_cons] at ha
    obtain ⟨w3, w4, w5, e⟩ := sp_turn h hs fu j hk hl hl1 ih (hr x List.mem_cons_self) acc (by omega) m u3 u4 u5
    have le : (spF (rows.map (·.1)) k a l x.1).length ≤ 52 := by
      unfold spF
      split
      · rw [List.length_map]
        have gm : x.1 ∈ gT n := hs.subset (List.mem_map_of_mem (hr x List.mem_cons_self))
        have := List.all_eq_true.mp (List.all_eq_true.mp (left_fil n h.good.n5) _ hl) _ gm
        exact psp52 h hs (by omega) (by simpa using this)
      · exact Nat.zero_le _
    obtain ⟨v3, v4, v5, e2⟩ := sp_loop fu j hk hl hl1 ih m ck hck r (acc ++ spF (rows.map (·.1)) k a l x.1) w3 w4 w5 (fun y hy => hr y (List.mem_cons_of_mem _ hy)) (by rw [List.length_append]; omega)
    refine ⟨v3, v4, v5, ?_⟩
    rw [List.map_cons, loopS, if_pos hck, e]
    show loopS _ _ _ _ _ = _
    rw [e2]
    simp only [List.map_cons, List.flatMap_cons, List.append_assoc]
theorem splits_ok (fu : Nat) : ∀ (k j : Nat) (l : List Nat) (m : Mu), l ∈ [] :: gT n → l.length ≤ k → k ≤ 5 → evP Tb Pg fu (j + k + 1) i_splits [dTab (n, rows), .lst (l.map dN)] m = .ok (.lst ((pSp (rows.map (·.1)) k l).map dSp)) m
  | k, j, [], m, _, _, _ => by
    have e : pSp (rows.map (·.1)) k [] = [[]] := by cases k <;> rfl
    rw [e, call_at at_splits]
    simp [runF_eq, r_splits, b_splits, enter, lim, dSp]
  | 0, j, a :: l, m, _, h1, _ => by simp at h1
  | k + 1, j, a :: l, m, h1, h2, h3 => by
    have rl := h.len
    rw [List.length_cons] at h2
    obtain ⟨v3, v4, v5, e⟩ := sp_loop h hs fu j (k := k) (by omega) h1 (by omega) (fun l' m q1 q2 => splits_ok fu k j l' m q1 q2 (by omega)) m (Kd.fr.ok (rows.map dRq)) trivial rows [] .emp .emp .emp (fun x hx => hx) (by simp; omega)
    have e0 : pSp (rows.map (·.1)) (k + 1) (a :: l) = (rows.map (·.1)).flatMap (spF (rows.map (·.1)) k a l) := rfl
    rw [e0, show j + (k + 1) + 1 = j + k + 1 + 1 by omega, call_at at_splits]
    simp only [List.nil_append, dTab_eq, List.map_nil] at e
    generalize (rows.map (·.1)).flatMap (spF (rows.map (·.1)) k a l) = sp at *
    simp only [List.map_cons, dN_eq] at e
    simp [runF_eq, r_splits, b_splits, enter, lim, e, show l.length ≤ 99999 by omega]
end
end Lw
end
end
section
set_option Elab.async false
set_option linter.all false
set_option maxRecDepth 100000
set_option maxHeartbeats 4000000
set_option exponentiation.threshold 5000
noncomputable section
namespace Lw
open Pm PySem
/-! sp3: the program's best split, the law's splits (behind sp2). -/
def eR (rows : List Rw) (g : List Nat) : Int × Int := (lookG rows g).getD (0, 1)
/-- what a split earns -/
def amtS (rows : List Rw) (s : Spl) : Int × Int := sumN (s.map (eR rows))
theorem eR_of {n : Nat} {rows : List Rw} (h : Lp n rows) {g : List Nat} (hg : g ∈ rows.map (·.1)) : lookG rows g = some (eR rows g) ∧ Bd 128 (eR rows g) ∧ Red (eR rows g) ∧ (g, eR rows g) ∈ rows := by
  obtain ⟨x, hx, rfl⟩ := List.mem_map.mp hg
  have e := lookG_mem (g := x.1) (e := x.2) hx h.good.asc
  have e2 : eR rows x.1 = x.2 := by unfold eR; rw [e]; rfl
  rw [e2]
  exact ⟨e, h.bd x hx, h.red x hx, hx⟩
/-- splits of known groups, not too many -/
def Ks (rows : List Rw) (s : Spl) : Prop := s.length ≤ 5 ∧ ∀ g ∈ s, g ∈ rows.map (·.1)
section
variable {n : Nat} {rows : List Rw} (h : Lp n rows)
include h
theorem amt_ok {s : Spl} (hs : Ks rows s) : Bd 880 (amtS rows s) ∧ Red (amtS rows s) := by
  have hb : ∀ x ∈ s.map (eR rows), Bd 128 x := fun x hx => by
    obtain ⟨g, hg, rfl⟩ := List.mem_map.mp hx
    exact (eR_of h (hs.2 g hg)).2.1
  refine ⟨(sum_bd _ hb).more ?_, sum_red _ fun x hx => (hb x hx).pos⟩
  rw [List.length_map]
  have := hs.1
  omega
theorem amt_run (fu j : Nat) (hf : 4000 < fu) {s : Spl} (hs : Ks rows s) (m : Mu) : evP Tb Pg fu (j + 4) i_added [.lst ((s.map (eR rows)).map dQ)] m = .ok (dQ (amtS rows s)) m :=
  added_ok fu j hf (s.map (eR rows)) m (B := 128) (fun x hx => by
    obtain ⟨g, hg, rfl⟩ := List.mem_map.mp hx
    exact (eR_of h (hs.2 g hg)).2.1) (by rw [List.length_map]; have := hs.1; omega) D.lst (.inl rfl)
def encB (rows : List Rw) : Option Spl → D
  | none => .non
  | some b => .tup [dQ (amtS rows b), dSp b]
theorem bs_turn (fu j : Nat) (hf : 4000 < fu) {s : Spl} (hs : Ks rows s) (b : Option Spl) (hb : ∀ x, b = some x → Ks rows x) (m : Mu) (u2 u3 : S) :
    ∃ v2 v3, turnS Tb (evP Tb Pg fu (j + 5)) fu (.nam 2) w_best_split_2 (dSp s) [.val (dTab (n, rows)), .val (encB rows b), u2, u3, .emp] m =
      .nx [.val (dTab (n, rows)), .val (encB rows (stepP (amtS rows) b s)), v2, v3, .emp] m := by
  have e1 : ∀ v1 v2 v3 : S, loopL (Kd.fr.ok (s.map dG)) (turnL Tb (evP Tb Pg fu (j + 5)) [4] (.nam 4) c_best_split_1 e_best_split_1 [.val (dTab (n, rows)), v1, v2, v3, .emp]) (s.map dG) m = .ok ((s.map (eR rows)).map dQ) m := fun v1 v2 v3 => by
    refine lc_to dQ (eR rows) _ rfl (fun g hg => ?_) trivial
    have e := earning_ok fu (j + 4) n rows g _ m (eR_of h (hs.2 g hg)).1
    simp only [dTab_eq] at e
    simp [turnL_eq, c_best_split_1, e_best_split_1, e]
  have e2 : evP Tb Pg fu (j + 5) i_added [.lst ((s.map (eR rows)).map dQ)] m = .ok (dQ (amtS rows s)) m := amt_run h fu (j + 1) hf hs m
  have sl : s.length ≤ 100000 := by have := hs.1; omega
  have bs := amt_ok h hs
  simp only [dTab_eq, dQ_eq, List.map_map] at e1 e2
  refine ⟨.val (dSp s), .val (dQ (amtS rows s)), ?_⟩
  cases b with
  | none => simp [turnS_eq, w_best_split_2, encB, stepP, dSp, lim, e1, e2, sl]
  | some b =>
    have e3 : evP Tb Pg fu (j + 5) _ _ m = _ := qless_ok fu (j + 4) m ((amt_ok h (hb b rfl)).1.more (show 880 ≤ 900 by omega)) (bs.1.more (show 880 ≤ 900 by omega))
    simp only [dQ_eq] at e3
    by_cases c : aLt (amtS rows b) (amtS rows s)
    · have c' : (amtS rows b).1 * (amtS rows s).2 < (amtS rows s).1 * (amtS rows b).2 := c
      simp [turnS_eq, w_best_split_2, encB, stepP, dSp, lim, e1, e2, e3, sl, c, c']
    · have c' : ¬ (amtS rows b).1 * (amtS rows s).2 < (amtS rows s).1 * (amtS rows b).2 := c
      simp [turnS_eq, w_best_split_2, encB, stepP, dSp, lim, e1, e2, e3, sl, c, c']
variable (hs : (rows.map (·.1)).Sublist (gT n))
include hs
theorem psp_ks {s : Spl} (m : s ∈ pSp (rows.map (·.1)) n (List.range n)) : Ks rows s := by
  have n5 := h.good.n5
  have q := (sp_eq n5 (fun g hg => hs.subset hg) s).mp m
  obtain ⟨q1, q2⟩ := (lspg_mem _ n s).mp q
  have q3 := List.all_eq_true.mp (sp_size n n5).1 s q1
  simp only [Bool.and_eq_true, decide_eq_true_eq] at q3
  exact ⟨q3.1, q2⟩
theorem best_split_ok (fu j : Nat) (hf : 4000 < fu) (m : Mu) : ∃ b, Bt (amtS rows) (pSp (rows.map (·.1)) n (List.range n)) b ∧ evP Tb Pg fu (j + 7) i_best_split [dTab (n, rows)] m = .ok (.tup [dQ (amtS rows b), dSp b]) m := by
  have n1 := h.good.n1
  have n5 := h.good.n5
  have e1 := fun m => splits_ok h hs fu n (j + (5 - n)) (List.range n) m (List.mem_cons_of_mem _ (by simpa using range_gT n n1 n5)) (by rw [List.length_range]; exact Nat.le_refl _) n5
  rw [show j + (5 - n) + n + 1 = j + 6 by omega] at e1
  have ks := fun s => psp_ks h hs (s := s)
  have l52 := psp52 h hs (k := n) n5 (List.mem_cons_of_mem _ (show List.range n ∈ gT n by simpa using range_gT n n1 n5))
  have ne : pSp (rows.map (·.1)) n (List.range n) ≠ [] := by
    have q : List.map (fun i => [i]) (List.range n) ∈ lSpG (rows.map (·.1)) n := by
      rw [lspg_mem]
      refine ⟨?_, fun g hg => ?_⟩
      · have : ∀ n, n ≤ 5 → decide (List.map (fun i => [i]) (List.range n) ∈ lSp n) = true := fun n hn => by
          match n, hn with
          | 0, _ | 1, _ | 2, _ | 3, _ | 4, _ | 5, _ => decide +kernel
        simpa using this n n5
      · obtain ⟨i, hi, rfl⟩ := List.mem_map.mp hg
        exact h.good.one i (List.mem_range.mp hi)
    have q2 := (sp_eq n5 (fun g hg => hs.subset hg) _).mpr q
    intro z
    rw [z] at q2
    cases q2
  generalize pSp (rows.map (·.1)) n (List.range n) = P at *
  obtain ⟨b, f1, f2⟩ := bestP (A := amtS rows) (S := P) (fun s hs => ⟨(amt_ok h (ks s hs)).1.pos, (amt_ok h (ks s hs)).2⟩) ne fun _ t => t
  have sk : ∀ s ∈ srtS P, Ks rows s := fun s q => ks s ((srtS_mem P s).mp q)
  have so : slfOk (P.map dSp) = true := slfOk_dSp (by omega) fun s hs => by have := (ks s hs).1; omega
  have sd := slfD_dSp P
  generalize srtS P = Q at *
  obtain ⟨s', m', e2, _, u2, u3, rfl, rfl⟩ := for_inv (f := turnS Tb (evP Tb Pg fu (j + 1 + 5)) fu (.nam 2) w_best_split_2) (ck := Kd.fr.ok (Q.map dSp)) dSp
    (fun (b : Option Spl) s' m' => (∀ x, b = some x → Ks rows x) ∧ ∃ u2 u3, s' = [.val (dTab (n, rows)), .val (encB rows b), u2, u3, .emp] ∧ m' = m) (stepP (amtS rows)) (fun _ _ _ _ => trivial) (l := Q) (b := none)
    (s := [.val (dTab (n, rows)), .val .non, .emp, .emp, .emp]) (m := m) (fun s hsq b s' m' hI => by
      obtain ⟨hb, u2, u3, rfl, rfl⟩ := hI
      obtain ⟨v2, v3, e⟩ := bs_turn h fu (j + 1) hf (sk s hsq) b hb m' u2 u3
      refine ⟨_, _, .inl e, fun x hx => ?_, v2, v3, rfl, rfl⟩
      unfold stepP at hx
      cases b with
      | none => cases hx; exact sk s hsq
      | some b =>
        simp only at hx
        split at hx
        · cases hx; exact sk s hsq
        · cases hx; exact hb _ rfl) ⟨fun x hx => (by cases hx), .emp, .emp, rfl, rfl⟩
  rw [f1] at e2
  refine ⟨b, f2, ?_⟩
  simp only [dTab_eq] at e1 e2
  rw [call_at at_best_split]
  simp [runF_eq, r_best_split, b_best_split, enter, lim, rng_eq, rngOk_nat (show n ≤ 100000 by omega), show n ≤ 100000 by omega, e1, so, sd, e2, encB]
end
end Lw
end
end
section
set_option Elab.async false
set_option linter.all false
set_option maxRecDepth 100000
set_option maxHeartbeats 4000000
set_option exponentiation.threshold 5000
noncomputable section
namespace Lw
open Pm PySem
/-! sp4: the law's splits (behind sp3). -/
def dSl (s : Spl) : D := .lst (s.map dG)
def puts (k : Nat) (s : Spl) (i : Nat) : Spl := s.take i ++ [s.getD i [] ++ [k]] ++ s.drop (i + 1)
theorem lStep_eq (k : Nat) (s : Spl) : lStep k s = (s ++ [[k]]) :: (List.range s.length).map (puts k s) := rfl
/-- sizes of a split -/
def Sz (s : Spl) : Prop := s.length ≤ 5 ∧ ∀ g ∈ s, g.length ≤ 5
theorem ls1 (C : CF) (fu k : Nat) {s : Spl} (hs : Sz s) (m : Mu) (ck : Mu → Prop) (hck : ck m) (t0 t1 t3 : S) : ∀ (r : List Nat) (acc : List Spl) (u6 : S), (∀ i ∈ r, i < s.length) → acc.length + r.length ≤ 10000 →
    ∃ v6, loopS ck (turnS Tb C fu (.nam 6) w_l_splits_1) (r.map dN) [t0, t1, .val (.int k), t3, .own (acc.map dSl), .val (dSl s), u6, .emp, .emp] m = .nx [t0, t1, .val (.int k), t3, .own ((acc ++ r.map (puts k s)).map dSl), .val (dSl s), v6, .emp, .emp] m
  | [], acc, u6, _, _ => ⟨u6, by rw [List.map_nil, loopS, if_pos hck]; simp⟩
  | i :: r, acc, u6, hr, ha => by
    rw [List.length_cons] at ha
    have hi := hr i List.mem_cons_self
    obtain ⟨s1, s2⟩ := hs
    have g1 := getD_map s dG i [] hi
    have g2 : (s.getD i []).length ≤ 5 := by
      rw [List.getD_eq_getElem?_getD, List.getElem?_eq_getElem hi]
      exact s2 _ (List.getElem_mem hi)
    have c1 := cutD_to (s.map dG) i
    have c2 := cutD_from (s.map dG) (i + 1)
    push_cast at c2
    have e : turnS Tb C fu (.nam 6) w_l_splits_1 (dN i) [t0, t1, .val (.int k), t3, .own (acc.map dSl), .val (dSl s), u6, .emp, .emp] m = .nx [t0, t1, .val (.int k), t3, .own ((acc ++ [puts k s i]).map dSl), .val (dSl s), .val (.int i), .emp, .emp] m := by
      have l1 : min i s.length + 1 ≤ 100000 := by omega
      have l2 : min i s.length + 1 + (s.length - (i + 1)) ≤ 100000 := by omega
      have l3 : acc.length < 100000 := by omega
      have l4 : (s.getD i []).length + 1 ≤ 100000 := by omega
      unfold puts
      generalize s.getD i [] = G at *
      simp [turnS_eq, w_l_splits_1, dSl, lim, g1, c1, c2, l1, l2, l3, l4]
    obtain ⟨v6, e2⟩ := ls1 C fu k ⟨s1, s2⟩ m ck hck t0 t1 t3 r (acc ++ [puts k s i]) (.val (.int i)) (fun x hx => hr x (List.mem_cons_of_mem _ hx)) (by rw [List.length_append, List.length_singleton]; omega)
    refine ⟨v6, ?_⟩
    rw [List.map_cons, loopS, if_pos hck, e]
    show loopS _ _ _ _ _ = _
    rw [e2]
    simp only [List.map_cons, List.append_assoc, List.singleton_append]
theorem ls2 (C : CF) (fu k : Nat) (m : Mu) (ck : Mu → Prop) (hck : ck m) (t0 t1 t3 : S) : ∀ (r : List Spl) (acc : List Spl) (u5 u6 : S), u5.isOwn = false → (∀ s ∈ r, Sz s) → acc.length + 6 * r.length ≤ 5000 →
    ∃ v5 v6, v5.isOwn = false ∧ loopS ck (turnS Tb C fu (.nam 5) w_l_splits_2) (r.map dSl) [t0, t1, .val (.int k), t3, .own (acc.map dSl), u5, u6, .emp, .emp] m = .nx [t0, t1, .val (.int k), t3, .own ((acc ++ r.flatMap (lStep k)).map dSl), v5, v6, .emp, .emp] m
  | [], acc, u5, u6, h5, _, _ => ⟨u5, u6, h5, by rw [List.map_nil, loopS, if_pos hck]; simp⟩
  | s :: r, acc, u5, u6, _, hr, ha => by
    rw [List.length_cons] at ha
    have hs := hr s List.mem_cons_self
    obtain ⟨s1, s2⟩ := hs
    obtain ⟨v6, e1⟩ := ls1 C fu k ⟨s1, s2⟩ m (Kd.fr.ok ((List.range s.length).map dN)) trivial t0 t1 t3 (List.range s.length) (acc ++ [s ++ [[k]]]) u6 (fun i hi => List.mem_range.mp hi) (by rw [List.length_append, List.length_singleton, List.length_range]; omega)
    have e : turnS Tb C fu (.nam 5) w_l_splits_2 (dSl s) [t0, t1, .val (.int k), t3, .own (acc.map dSl), u5, u6, .emp, .emp] m = .nx [t0, t1, .val (.int k), t3, .own ((acc ++ lStep k s).map dSl), .val (dSl s), v6, .emp, .emp] m := by
      rw [lStep_eq]
      have l1 : acc.length < 100000 := by omega
      have l2 : s.length + 1 ≤ 100000 := by omega
      have q : (acc ++ [s ++ [[k]]]).map dSl = acc.map dSl ++ [.lst (s.map dG ++ [.tup [.int k]])] := by simp [dSl]
      have q2 : acc ++ [s ++ [[k]]] ++ (List.range s.length).map (puts k s) = acc ++ (s ++ [[k]]) :: (List.range s.length).map (puts k s) := by simp
      rw [q, q2] at e1
      generalize (acc ++ (s ++ [[k]]) :: (List.range s.length).map (puts k s)).map dSl = Z at *
      simp only [dSl] at e1
      simp [turnS_eq, w_l_splits_2, dSl, lim, rng_eq, rngOk_nat (show s.length ≤ 100000 by omega), show s.length ≤ 100000 by omega, l1, l2, e1]
    have ls : (lStep k s).length ≤ 6 := by
      rw [lStep_eq, List.length_cons, List.length_map, List.length_range]
      omega
    obtain ⟨v5, v6, w5, e2⟩ := ls2 C fu k m ck hck t0 t1 t3 r (acc ++ lStep k s) (.val (dSl s)) v6 rfl (fun x hx => hr x (List.mem_cons_of_mem _ hx)) (by rw [List.length_append]; omega)
    refine ⟨v5, v6, w5, ?_⟩
    rw [List.map_cons, loopS, if_pos hck, e]
    show loopS _ _ _ _ _ = _
    rw [e2]
    simp only [List.map_cons, List.flatMap_cons, List.append_assoc]
theorem lSp_sz : ∀ k, k ≤ 5 → (∀ s ∈ lSp k, Sz s) ∧ (lSp k).length ≤ 52 := fun k h => by
  obtain ⟨h1, h2, _⟩ := sp_size k h
  refine ⟨fun s hs => ?_, h2⟩
  have := List.all_eq_true.mp h1 s hs
  simp only [Bool.and_eq_true, decide_eq_true_eq, List.all_eq_true] at this
  exact this
theorem ls3 (C : CF) (fu : Nat) (m : Mu) (ck : Mu → Prop) (hck : ck m) (t0 t3 : S) : ∀ (len k : Nat) (u2 u4 u5 u6 : S), u5.isOwn = false → k + len ≤ 5 →
    ∃ v2 v4 v5 v6, v5.isOwn = false ∧ loopS ck (turnS Tb C fu (.nam 2) w_l_splits_3) ((List.range' k len).map dN) [t0, .val (.lst ((lSp k).map dSl)), u2, t3, u4, u5, u6, .emp, .emp] m = .nx [t0, .val (.lst ((lSp (k + len)).map dSl)), v2, t3, v4, v5, v6, .emp, .emp] m
  | 0, k, u2, u4, u5, u6, h5, _ => ⟨u2, u4, u5, u6, h5, by rw [List.range'_zero, List.map_nil, loopS, if_pos hck, Nat.add_zero]⟩
  | len + 1, k, u2, u4, u5, u6, h5, h => by
    obtain ⟨z1, z2⟩ := lSp_sz k (by omega)
    obtain ⟨v5, v6, w5, e1⟩ := ls2 C fu k m (Kd.fr.ok ((lSp k).map dSl)) trivial t0 (.val (.lst ((lSp k).map dSl))) t3 (lSp k) [] u5 u6 h5 z1 (by rw [List.length_nil]; omega)
    have e : turnS Tb C fu (.nam 2) w_l_splits_3 (dN k) [t0, .val (.lst ((lSp k).map dSl)), u2, t3, u4, u5, u6, .emp, .emp] m = .nx [t0, .val (.lst ((lSp (k + 1)).map dSl)), .val (.int k), t3, .val (.lst ((lSp (k + 1)).map dSl)), v5, v6, .emp, .emp] m := by
      rw [show lSp (k + 1) = (lSp k).flatMap (lStep k) from rfl]
      rw [List.nil_append, List.map_nil] at e1
      generalize ((lSp k).flatMap (lStep k)).map dSl = Z at *
      simp [turnS_eq, w_l_splits_3, lim, e1]
    obtain ⟨v2, v4, v5, v6, w5, e2⟩ := ls3 C fu m ck hck t0 t3 len (k + 1) (.val (.int k)) (.val (.lst ((lSp (k + 1)).map dSl))) v5 v6 w5 (by omega)
    refine ⟨v2, v4, v5, v6, w5, ?_⟩
    rw [List.range'_succ, List.map_cons, loopS, if_pos hck, e]
    show loopS _ _ _ _ _ = _
    rw [e2, show k + 1 + len = k + (len + 1) by omega]
theorem free5 {s0 s1 s2 s3 s4 s5 s6 s7 s8 : S} (h : s5.isOwn = false) : freeS [s0, s1, s2, s3, s4, s5, s6, s7, s8] [5] = true := by
  cases s5 <;> simp_all [S.isOwn]
theorem lsplits_ok (fu j : Nat) {n : Nat} {rows : List Rw} (h : Lp n rows) (m : Mu) : evP Tb Pg fu (j + 1) i_l_splits [dLt (n, rows)] m = .ok (.lst ((lSpG (rows.map (·.1)) n).map dSp)) m := by
  have n5 := h.good.n5
  have rl := h.len
  obtain ⟨v2, v4, v5, v6, w5, e1⟩ := ls3 (evP Tb Pg fu j) fu m (Kd.fr.ok ((List.range n).map dN)) trivial (.val (dLt (n, rows))) .emp n 0 .emp .emp .emp .emp rfl (by omega)
  rw [← List.range_eq_range', Nat.zero_add] at e1
  have e0 : ((lSp 0).map dSl) = [.lst []] := rfl
  rw [e0] at e1
  have e2 : ∀ t1 t2 t3 t4 t5 t6 : S, loopL (Kd.fr.ok (rows.map dRow)) (turnL Tb (evP Tb Pg fu j) [7, 8] (.tup [.nam 7, .nam 8]) c_l_splits_4 e_l_splits_4 [.val (dLt (n, rows)), t1, t2, t3, t4, t5, t6, .emp, .emp]) (rows.map dRow) m = .ok ((rows.map (·.1)).map dG) m := fun t1 t2 t3 t4 t5 t6 => by
    refine lc_to dG (fun x => x.1) _ rfl (fun x _ => ?_) trivial
    simp [turnL_eq, c_l_splits_4, e_l_splits_4]
  obtain ⟨z1, z2⟩ := lSp_sz n n5
  have gl : (rows.map (·.1)).length ≤ 1000 := by rw [List.length_map]; exact rl
  generalize hg : rows.map (·.1) = gs at *
  have e3 : ∀ t1 t2 t4 t5 t6 : S, loopL (Kd.fr.ok ((lSp n).map dSl)) (turnL Tb (evP Tb Pg fu j) [5] (.nam 5) c_l_splits_6 e_l_splits_6 [.val (dLt (n, rows)), t1, t2, .val (.lst (gs.map dG)), t4, t5, t6, .emp, .emp]) ((lSp n).map dSl) m = .ok ((lSpG gs n).map dSp) m := fun t1 t2 t4 t5 t6 => by
    refine lc_filterTo dSp id (fun s => decide ((s.filter fun g => decide (g ∉ gs)).length = 0)) _ (by unfold lSpG; simp) (fun s hs => ?_) trivial
    have e4 : ∀ t1 t2 t4 t6 : S, loopL (Kd.fr.ok (s.map dG)) (turnL Tb (evP Tb Pg fu j) [7] (.nam 7) c_l_splits_5 e_l_splits_5 [.val (dLt (n, rows)), t1, t2, .val (.lst (gs.map dG)), t4, .val (.lst (s.map dG)), t6, .emp, .emp]) (s.map dG) m = .ok ((s.filter fun g => decide (g ∉ gs)).map dG) m := fun t1 t2 t4 t6 => by
      refine lc_filterTo dG id (fun g => decide (g ∉ gs)) _ (by simp) (fun g _ => ?_) trivial
      by_cases c : g ∈ gs <;> simp [turnL_eq, c_l_splits_5, e_l_splits_5, c]
    have sl : s.length ≤ 100000 := by have := (z1 s hs).1; omega
    have fl : (s.filter fun g => decide (g ∉ gs)).length ≤ 100000 := Nat.le_trans (List.length_filter_le _ _) sl
    generalize s.filter (fun g => decide (g ∉ gs)) = F at *
    simp only [dLt_eq] at e4
    by_cases c : F.length = 0
    · have c' : (F.length : Int) = 0 := by omega
      simp [turnL_eq, c_l_splits_6, e_l_splits_6, dSl, dSp, lim, e4, c, c', sl, fl]
    · have c' : ¬ (F.length : Int) = 0 := by omega
      simp [turnL_eq, c_l_splits_6, e_l_splits_6, dSl, dSp, lim, e4, c, c', sl, fl]
  rw [call_at at_l_splits]
  simp only [dLt_eq] at e1 e2 e3
  simp [runF_eq, r_l_splits, b_l_splits, enter, lim, rng_eq, rngOk_nat (show n ≤ 100000 by omega), show n ≤ 100000 by omega, e1, e2, e3, show rows.length ≤ 100000 by omega, show (lSp n).length ≤ 100000 by omega, free5 w5]
end Lw
end
end
section
set_option Elab.async false
set_option linter.all false
set_option maxRecDepth 100000
set_option maxHeartbeats 4000000
set_option exponentiation.threshold 5000
noncomputable section
namespace Lw
open Pm PySem
/-! sp5: the dict of earnings, earnings that are drawn anew, the law's best split (behind sp4). -/
theorem keyT_dG {g : List Nat} (h : g ≠ []) : keyT (.tup (g.map dN)) = true := by
  cases g with
  | nil => exact absurd rfl h
  | cons a g =>
    show ((dN a :: g.map dN).all keyS) = true
    rw [List.all_eq_true]
    intro x hx
    rcases List.mem_cons.mp hx with rfl | hx
    · rfl
    · obtain ⟨i, _, rfl⟩ := List.mem_map.mp hx
      rfl
def kvR (x : Rw) : D × D := (dG x.1, dR x.2)
theorem pairs_dRow : ∀ R : List Rw, (∀ r ∈ R, r.1 ≠ []) → pairsOf (R.map dRow) = some (R.map kvR)
  | [], _ => rfl
  | r :: R, h => by
    have k : keyT (dG r.1) = true := keyT_dG (h r List.mem_cons_self)
    rw [List.map_cons, dRow, pairsOf, if_pos k, pairs_dRow R fun s hs => h s (List.mem_cons_of_mem _ hs)]
    rfl
theorem eqd_dG (g h : List Nat) : eqd (dG g) (dG h) = decide (g = h) := by
  rw [eqd_of (p := g = h)]
  exact ⟨fun e => dG_inj e, fun e => by rw [e]⟩
theorem merge_dRow (R : List Rw) (hn : (R.map (·.1)).Nodup) : mergeD (R.map kvR) = R.map kvR := by
  have go : ∀ (R A : List Rw), ((A ++ R).map (·.1)).Nodup → (R.map kvR).foldl (fun acc p => kput acc p.1 p.2) (A.map kvR) = (A ++ R).map kvR := by
    intro R
    induction R with
    | nil => exact fun A _ => by rw [List.append_nil]; rfl
    | cons r R ih =>
      intro A hn
      rw [List.map_cons, List.foldl_cons]
      have k : kput (A.map kvR) (dG r.1) (dR r.2) = (A ++ [r]).map kvR := by
        unfold kput
        rw [if_neg, List.map_append]
        · rfl
        · intro z
          obtain ⟨p, hp, e⟩ := List.any_eq_true.mp z
          obtain ⟨s, hs, rfl⟩ := List.mem_map.mp hp
          rw [show (kvR s).1 = dG s.1 from rfl, eqd_dG, decide_eq_true_eq] at e
          rw [List.map_append, List.map_cons] at hn
          have := (List.nodup_append.mp hn).2.2 s.1 (List.mem_map.mpr ⟨s, hs, rfl⟩) r.1 List.mem_cons_self
          exact this e
      rw [show kput (A.map kvR) (kvR r).1 (kvR r).2 = _ from k, ih (A ++ [r]) (by rw [List.append_assoc]; exact hn), List.append_assoc]
      rfl
  exact go R [] hn
theorem kfind_dRow {R : List Rw} {g : List Nat} {e : Int × Int} (hn : (R.map (·.1)).Nodup) (hr : (g, e) ∈ R) : kfind (R.map kvR) (.tup (g.map dN)) = some (dR e) := by
  unfold kfind
  induction R with
  | nil => cases hr
  | cons x R ih =>
    rw [List.map_cons, List.nodup_cons] at hn
    rw [List.map_cons, List.find?_cons]
    have q : eqd (kvR x).1 (.tup (g.map dN)) = decide (x.1 = g) := eqd_dG x.1 g
    rw [q]
    by_cases c : x.1 = g
    · rw [decide_eq_true c]
      rcases List.mem_cons.mp hr with rfl | hr
      · rfl
      · exact absurd (List.mem_map_of_mem (f := (·.1)) hr) (by rw [← c]; exact hn.1)
    · rw [decide_eq_false c]
      refine ih hn.2 ?_
      rcases List.mem_cons.mp hr with rfl | hr
      · exact absurd rfl c
      · exact hr
/-! earnings anew -/
def reF (x : Rw) (p : Pool) : Rw × Pool := ((x.1, (((x.1.length * (drawN 2 p).1 : Nat) : Int), 1)), (drawN 2 p).2)
theorem re_fst : ∀ (rows : List Rw) (p : Pool), (mapS reF rows p).1.map (·.1) = rows.map (·.1)
  | [], _ => rfl
  | x :: rows, p => by
    have := re_fst rows (reF x p).2
    rw [mapS, List.map_cons, List.map_cons, this]
    rfl
theorem re_lp {n : Nat} {rows : List Rw} (h : Good n (rows.map (·.1))) (p : Pool) : Lp n (mapS reF rows p).1 := by
  have hx : ∀ y ∈ (mapS reF rows p).1, Bd 128 y.2 ∧ Red y.2 := fun y hy => by
    obtain ⟨x, hx, q, rfl⟩ := mapS_mem _ _ _ hy
    have h1 := (isGrp_mem (h.grp x.1 (List.mem_map_of_mem hx))).2.1
    have h2 := drawN_lt 2 q (by omega)
    have h3 : x.1.length * (drawN 2 q).1 ≤ 5 * 1 := Nat.mul_le_mul (by have := h.n5; omega) (by omega)
    unfold reF
    simp only
    generalize x.1.length * (drawN 2 q).1 = k at h3
    refine ⟨⟨by simp, by simp, ?_⟩, red1 _⟩
    have : (2 : Nat) ^ 128 > 5 := by decide
    simp
    omega
  exact ⟨by rw [re_fst]; exact h, fun y hy => (hx y hy).1, fun y hy => (hx y hy).2⟩
/-! the law's best split -/
theorem lt_key (s t : Spl) : ltD (.tup [.int (s.length : Int), .tup (s.map dG)]) (.tup [.int (t.length : Int), .tup (t.map dG)]) = some (ltS s t) := by
  have e : ∀ s : Spl, D.tup [.int (s.length : Int), .tup (s.map dG)] = slfK (dSp s) := fun s => by
    unfold slfK dSp
    simp
  rw [e, e]
  have h1 := flp_key s
  have h2 := flp_key t
  have h3 := alike_key s t
  unfold ltS
  rw [← e, ← e] at *
  unfold ltD
  simp only [show ∀ s : Spl, intsOf [D.int (s.length : Int), D.tup (s.map dG)] = none from fun s => rfl]
  rw [if_pos]
  rw [h1, h2, h3]
  rfl
def encL (rows : List Rw) : Option Spl → D
  | none => .non
  | some b => .tup [dR (amtS rows b), dSp b]
theorem lb_turn (fu j : Nat) {n : Nat} {rows : List Rw} (h : Lp n rows) {s : Spl} (hs : Ks rows s) (b : Option Spl) (hb : ∀ x, b = some x → Ks rows x) (m : Mu) (q : Nat) (hm : m[q]? = some (.dct true (rows.map kvR))) (t0 t1 t2 t6 t7 t8 t10 t12 u5 u9 : S) :
    ∃ v5 v9, turnS Tb (evP Tb Pg fu (j + 3)) fu (.nam 5) w_law_3 (dSp s) [t0, t1, t2, .val (.ref q), .val (encL rows b), u5, t6, t7, t8, u9, t10, .emp, t12] m =
      .nx [t0, t1, t2, .val (.ref q), .val (encL rows (stepL (amtS rows) b s)), v5, t6, t7, t8, v9, t10, .emp, t12] m := by
  have nd := nodup_asc h.good.asc
  have e1 : ∀ t4 t5 t9 : S, loopL (Kd.fr.ok (s.map dG)) (turnL Tb (evP Tb Pg fu (j + 3)) [11] (.nam 11) c_law_2 e_law_2 [t0, t1, t2, .val (.ref q), t4, t5, t6, t7, t8, t9, t10, .emp, t12]) (s.map dG) m = .ok ((s.map (eR rows)).map dR) m := fun t4 t5 t9 => by
    refine lc_to dR (eR rows) _ rfl (fun g hg => ?_) trivial
    have e := kfind_dRow nd (eR_of h (hs.2 g hg)).2.2.2
    have g0 : g ≠ [] := (h.grp (eR_of h (hs.2 g hg)).2.2.2).1
    have k := keyT_dG g0
    simp [turnL_eq, c_law_2, e_law_2, hm, dctOf, keyOk, k, e]
  have e2 : evP Tb Pg fu (j + 3) i_l_sum [.lst ((s.map (eR rows)).map dR)] m = .ok (dR (amtS rows s)) m := sum_ok fu j (s.map (eR rows)) m (B := 128) (fun x hx => by
    obtain ⟨g, hg, rfl⟩ := List.mem_map.mp hx
    exact (eR_of h (hs.2 g hg)).2.1) (by rw [List.length_map]; have := hs.1; omega)
  have sl : s.length ≤ 100000 := by have := hs.1; omega
  have bs := amt_ok h hs
  simp only [dR_eq, List.map_map] at e1 e2
  refine ⟨.val (dSp s), .val (dR (amtS rows s)), ?_⟩
  cases b with
  | none => simp [turnS_eq, w_law_3, encL, stepL, dSp, lim, e1, e2, sl]
  | some b =>
    have kb := hb b rfl
    have e3 : evP Tb Pg fu (j + 3) _ _ m = _ := lbelow_ok fu (j + 2) m ((amt_ok h kb).1.more (show 880 ≤ 900 by omega)) (bs.1.more (show 880 ≤ 900 by omega))
    have bl : b.length ≤ 100000 := by have := kb.1; omega
    have e4 := lt_key s b
    by_cases c : aLt (amtS rows b) (amtS rows s)
    · have hst : stepL (amtS rows) (some b) s = some s := if_pos (.inl c)
      have c' : (amtS rows b).1 * (amtS rows s).2 < (amtS rows s).1 * (amtS rows b).2 := c
      rw [hst]
      simp [turnS_eq, w_law_3, encL, dSp, lim, e1, e2, e3, sl, c']
    · have c' : ¬ (amtS rows b).1 * (amtS rows s).2 < (amtS rows s).1 * (amtS rows b).2 := c
      by_cases d : amtS rows s = amtS rows b
      · cases e5 : ltS s b with
        | true =>
          have hst : stepL (amtS rows) (some b) s = some s := if_pos (.inr ⟨d, e5⟩)
          rw [e5] at e4
          rw [hst]
          simp only [encL]
          rw [d] at e2 e3 c' ⊢
          simp [turnS_eq, w_law_3, encL, dSp, lim, e1, e2, e3, e4, sl, bl, c']
        | false =>
          have hst : stepL (amtS rows) (some b) s = some b := if_neg fun z => by
            rcases z with z | z
            · exact c z
            · rw [e5] at z; cases z.2
          rw [e5] at e4
          rw [hst]
          simp only [encL]
          rw [d] at e2 e3 c' ⊢
          simp [turnS_eq, w_law_3, encL, dSp, lim, e1, e2, e3, e4, sl, bl, c']
      · have hst : stepL (amtS rows) (some b) s = some b := if_neg fun z => by
          rcases z with z | z
          · exact c z
          · exact d z.1
        have d1 : ¬ ((amtS rows s).1 = (amtS rows b).1 ∧ (amtS rows s).2 = (amtS rows b).2) := fun z => d (Prod.ext z.1 z.2)
        rw [hst]
        simp [turnS_eq, w_law_3, encL, dSp, lim, e1, e2, e3, sl, bl, c', d1]
end Lw
end
end
section
set_option Elab.async false
set_option linter.all false
set_option maxRecDepth 100000
set_option maxHeartbeats 4000000
set_option exponentiation.threshold 5000
noncomputable section
namespace Lw
open Pm PySem
/-! law26: the law on best splits (behind sp5). -/
theorem flts_dRow : ∀ rows : List Rw, flts (rows.map dRow) = true
  | [] => rfl
  | x :: rows => by rw [List.map_cons, flts, flts_dRow rows]; simp [flt, flts]
theorem deps_dRow : ∀ rows : List Rw, deps (rows.map dRow) ≤ 3
  | [] => by simp [deps]
  | x :: rows => by
    have := deps_dRow rows
    have h1 := deps_dN x.1
    rw [List.map_cons, deps]
    simp [dep, deps]
    omega
theorem eqD_dRows (T : Tab) (C : CF) (m : Mu) (rows : List Rw) : eqD T C m (.lst (rows.map dRow)) (.lst (rows.map dRow)) = some true := by
  have f : flp (.lst (rows.map dRow)) = true := by
    have := deps_dRow rows
    unfold flp
    rw [Bool.and_eq_true, decide_eq_true_eq]
    refine ⟨by simp [flt, flts_dRow], ?_⟩
    simp [dep]
    omega
  rw [eqD_flp T C m (by rw [vw_ls]; exact f) (by rw [vw_ls]; exact f) rfl rfl, eqd_self]
theorem law_turn (fu j : Nat) (hf : 4000 < fu) {n : Nat} {rows : List Rw} (h : Lp n rows) {b : Spl} (hb : Ks rows b)
    (hbs : ∀ m, evP Tb Pg fu (j + 7) i_best_split [dTab (n, rows)] m = .ok (.tup [dQ (amtS rows b), dSp b]) m) (i : Nat) (hi : i < 2) (m : Mu) (t0 t1 t2 t3 t5 t7 t8 t9 t10 t11 t12 : S) :
    turnS Tb (evP Tb Pg fu (j + 7)) fu (.nam 7) w_law_4 (dN i) [t0, t1, t2, t3, .val (encL rows (some b)), t5, .val (dTab (n, rows)), t7, t8, t9, t10, t11, t12] m =
      .nx [t0, t1, t2, t3, .val (encL rows (some b)), t5, .val (dTab (n, rows)), .val (.int i), t8, t9, .val (.tup [dQ (amtS rows b), dSp b]), t11, t12] m := by
  have hs : smd 3 (.lst [.int (amtS rows b).1, .int (amtS rows b).2, dSp b]) = true := by
    have h2 : ∀ g ∈ b, g.length ≤ 5 := fun g hg => (h.grp (eR_of h (hb.2 g hg)).2.2.2).2.2
    have h1 := hb.1
    simp only [smd, dSp, List.length_map, List.length_cons, List.length_nil, List.all_cons, List.all_nil, Bool.and_eq_true, decide_eq_true_eq, List.all_eq_true, Bool.and_true, and_true]
    refine ⟨by omega, trivial, trivial, by omega, fun x hx => ?_⟩
    obtain ⟨g, hg, rfl⟩ := List.mem_map.mp hx
    have := h2 g hg
    exact smd_dG g (by omega)
  have e1 := same_refl fu 3 _ (j + 3) m hs
  simp only [dTab_eq, dQ_eq, dSp] at hbs e1
  rcases (show i = 0 ∨ i = 1 by omega) with rfl | rfl <;>
    simp [turnS_eq, w_law_4, encL, dSp, lim, hbs, e1, okVx, isiD, tyIs]
theorem draws {n : Nat} {rows0 : List Rw} (h0 : Lp n rows0) (hs : (rows0.map (·.1)).Sublist (gT n)) (p : Pool) : ∃ rows p', Lp n rows ∧ (rows.map (·.1)).Sublist (gT n) ∧
    ∀ (fu j : Nat) (r : Mu) (t0 : S), exs Tb (evP Tb Pg fu (j + 8)) fu (tkS 1 (dpS 2 b_law)) [t0, .val (.ref 0), .val (dLt (n, rows0)), .emp, .emp, .emp, .emp, .emp, .emp, .emp, .emp, .emp, .emp] (pc p :: r) =
      .nx [t0, .val (.ref 0), .val (dLt (n, rows)), .emp, .emp, .emp, .emp, .emp, .emp, .emp, .emp, .emp, .emp] (pc p' :: r) := by
  have rl := h0.len
  by_cases c : (drawN 3 p).1 = 0
  · refine ⟨(mapS reF rows0 (drawN 3 p).2).1, (mapS reF rows0 (drawN 3 p).2).2, re_lp h0.good _, by rw [re_fst]; exact hs, fun fu j r t0 => ?_⟩
    have e1 := drw fu (j + 7) 3 p r (by omega) (by omega)
    have e2 : ∀ t2 : S, loopL (Kd.fr.ok (rows0.map dRow)) (turnL Tb (evP Tb Pg fu (j + 8)) [11, 12] (.tup [.nam 11, .nam 12]) c_law_1 e_law_1 [t0, .val (.ref 0), t2, .emp, .emp, .emp, .emp, .emp, .emp, .emp, .emp, .emp, .emp]) (rows0.map dRow) (pc (drawN 3 p).2 :: r) = .ok ((mapS reF rows0 (drawN 3 p).2).1.map dRow) (pc (mapS reF rows0 (drawN 3 p).2).2 :: r) := fun t2 => by
      refine lc_stateS (fun p => pc p :: r) reF dRow (drawN 3 p).2 (fun x hx q => ?_) (fun _ => trivial)
      have d := drw fu (j + 7) 2 q r (by omega) (by omega)
      have dl := drawN_lt 2 q (by omega)
      have xl := (h0.grp hx).2.2
      have lg : x.1.length.log2 + (drawN 2 q).1.log2 < 1000000 := by
        have l1 := lg (n := x.1.length) (k := 3) (by omega)
        have l2 := lg (n := (drawN 2 q).1) (k := 1) (by omega)
        omega
      simp [turnL_eq, c_law_1, e_law_1, d, reF, lg, lim, show x.1.length ≤ 100000 by omega]
    simp only [dLt_eq]
    simp [tkS, dpS, b_law, e1, c, e2, lim, show rows0.length ≤ 100000 by omega]
  · refine ⟨rows0, (drawN 3 p).2, h0, hs, fun fu j r t0 => ?_⟩
    have e1 := drw fu (j + 7) 3 p r (by omega) (by omega)
    simp [tkS, dpS, b_law, e1, c]
theorem law_ok (fu j : Nat) (hf : 4000 < fu) (ns : List Int) (hl : ns.length ≤ 63) : ∃ m, evP Tb Pg fu (j + 9) i_law [.scr (ns.map .int)] [] = .ok (.bl true) m := by
  have e1 := pool_ok fu (j + 7) ns 0 [] hl
  have e2 := fun p r => table_ok fu (j + 3) p r
  generalize hp0 : pool0 ns 0 = p0 at e1
  have e2 := e2 p0 []
  obtain ⟨c1, c2⟩ := cnt_le p0
  generalize hn : cntF p0 = n at e2 c1 c2
  have t0 := tabF_ok n (drawN 8 p0).2 c1 c2
  have s0 : ((tabF n (drawN 8 p0).2).1.map (·.1)).Sublist (gT n) := by
    unfold tabF
    rw [rows_fst]
    exact (fam_ok n _ c2 c1).sub
  generalize tabF n (drawN 8 p0).2 = tp at e2 t0 s0
  obtain ⟨rows0, p1⟩ := tp
  simp only at e2 t0 s0
  have h0 : Lp n rows0 := ⟨t0.1, fun x hx => (t0.2 x hx).1.more (by omega), fun x hx => (t0.2 x hx).2⟩
  obtain ⟨rows, p2, h, hs, e3⟩ := draws h0 s0 p1
  have e3 := e3 fu j [] (.val (.scr (ns.map .int)))
  have n5 := h.good.n5
  have rl := h.len
  have nd := nodup_asc h.good.asc
  have kq : ∀ s ∈ lSpG (rows.map (·.1)) n, Ks rows s := fun s hm => psp_ks h hs ((sp_eq n5 (fun g hg => hs.subset hg) s).mpr hm)
  have se := sp_eq n5 fun g hg => hs.subset hg
  have ebs := fun m => best_split_ok h hs fu (j + 1) hf m
  have els := fun m => lsplits_ok fu (j + 7) h m
  have ne : lSpG (rows.map (·.1)) n ≠ [] := fun z => by
    obtain ⟨b, f, _⟩ := ebs []
    have := (se b).mp f.1
    rw [z] at this
    cases this
  obtain ⟨b, f1, f2⟩ := bestL (A := amtS rows) (S := lSpG (rows.map (·.1)) n) (fun s hs => ⟨(amt_ok h (kq s hs)).1.pos, (amt_ok h (kq s hs)).2⟩) ne fun _ t => t
  have hbs : ∀ m, evP Tb Pg fu (j + 8) i_best_split [dTab (n, rows)] m = .ok (.tup [dQ (amtS rows b), dSp b]) m := fun m => by
    obtain ⟨b', g1, g2⟩ := ebs m
    rw [Bt.uniq f2 g1 fun s => (se s).symm]
    exact g2
  have kb := kq b f2.1
  have pr : pairsOf (rows.map dRow) = some (rows.map kvR) := pairs_dRow rows fun r hr => (h.grp hr).1
  have mg := merge_dRow rows nd
  generalize hm : [pc p2, Cell.dct true (rows.map kvR)] = m2
  have hq : m2[1]? = some (.dct true (rows.map kvR)) := by rw [← hm]; rfl
  generalize hLs : lSpG (rows.map (·.1)) n = Ls at *
  obtain ⟨s', m', e4, _, u5, u9, rfl, q4⟩ := for_inv (f := turnS Tb (evP Tb Pg fu (j + 8)) fu (.nam 5) w_law_3) (ck := Kd.fr.ok (Ls.map dSp)) dSp
    (fun (x : Option Spl) s' m' => (∀ y, x = some y → Ks rows y) ∧ ∃ u5 u9, s' = [.val (.scr (ns.map .int)), .val (.ref 0), .val (dLt (n, rows)), .val (.ref 1), .val (encL rows x), u5, .emp, .emp, .emp, u9, .emp, .emp, .emp] ∧ m' = m2) (stepL (amtS rows)) (fun _ _ _ _ => trivial) (l := Ls) (b := none)
    (s := [.val (.scr (ns.map .int)), .val (.ref 0), .val (dLt (n, rows)), .val (.ref 1), .val .non, .emp, .emp, .emp, .emp, .emp, .emp, .emp, .emp]) (m := m2) (fun s hsq x s' m' hI => by
      obtain ⟨hb, u5, u9, rfl, rfl⟩ := hI
      obtain ⟨v5, v9, e⟩ := lb_turn fu (j + 5) h (kq s hsq) x hb m' 1 hq (.val (.scr (ns.map .int))) (.val (.ref 0)) (.val (dLt (n, rows))) .emp .emp .emp .emp .emp u5 u9
      refine ⟨_, _, .inl e, fun y hy => ?_, v5, v9, rfl, rfl⟩
      unfold stepL at hy
      cases x with
      | none => cases hy; exact kq s hsq
      | some x =>
        simp only at hy
        split at hy
        · cases hy; exact kq s hsq
        · cases hy; exact hb _ rfl) ⟨fun x hx => (by cases hx), .emp, .emp, rfl, rfl⟩
  rw [f1, q4] at e4
  obtain ⟨s'', m'', e5, u7, u10, rfl, q5⟩ := for_inv (f := turnS Tb (evP Tb Pg fu (j + 1 + 7)) fu (.nam 7) w_law_4) (ck := Kd.fr.ok ((List.range 2).map dN)) dN
    (fun (_ : Unit) s' m' => ∃ u7 u10, s' = [.val (.scr (ns.map .int)), .val (.ref 0), .val (dLt (n, rows)), .val (.ref 1), .val (encL rows (some b)), u5, .val (dTab (n, rows)), u7, .emp, u9, u10, .emp, .emp] ∧ m' = m2) (fun _ _ => ()) (fun _ _ _ _ => trivial) (l := List.range 2) (b := ())
    (s := [.val (.scr (ns.map .int)), .val (.ref 0), .val (dLt (n, rows)), .val (.ref 1), .val (encL rows (some b)), u5, .val (dTab (n, rows)), .emp, .emp, u9, .emp, .emp, .emp]) (m := m2) (fun i hi _ s' m' hI => by
      obtain ⟨u7, u10, rfl, rfl⟩ := hI
      exact ⟨_, _, .inl (law_turn fu (j + 1) hf h kb hbs i (List.mem_range.mp hi) m' _ _ _ _ _ _ _ _ _ _ _), _, _, rfl, rfl⟩) ⟨_, _, rfl, rfl⟩
  rw [q5] at e5
  have em := fun m => made_ok fu (j + 5) n rows m hf h
  have e7 := fun m => same_refl fu 0 (.bl true) (j + 7) m rfl
  have e8 : ∀ m, eqD Tb (evP Tb Pg fu (j + 8)) m (dTab (n, rows)) (dTab (n, rows)) = some true := fun m => by
    rw [show j + 8 = j + 6 + 2 from rfl, eqD_dTab, eqd_self]
  have e9 : ∀ t2 t4 t5 t7 t9 t10 : S, loopL (Kd.fr.ok (rows.map dRq)) (turnL Tb (evP Tb Pg fu (j + 8)) [11, 12] (.tup [.nam 11, .nam 12]) c_law_5 e_law_5 [.val (.scr (ns.map .int)), .val (.ref 0), t2, .val (.ref 1), t4, t5, .val (dTab (n, rows)), t7, .emp, t9, t10, .emp, .emp]) (rows.map dRq) m2 = .ok (rows.map dRow) m2 := fun t2 t4 t5 t7 t9 t10 => by
    refine lc_to dRow id _ (by simp) (fun x _ => ?_) trivial
    simp [turnL_eq, c_law_5, e_law_5, lim]
  have e10 := fun m => eqD_dRows Tb (evP Tb Pg fu (j + 8)) m rows
  refine ⟨m2, ?_⟩
  have E1 : exs Tb (evP Tb Pg fu (j + 8)) fu (tkS 2 b_law) [.val (.scr (ns.map .int)), .emp, .emp, .emp, .emp, .emp, .emp, .emp, .emp, .emp, .emp, .emp, .emp] [] = .nx [.val (.scr (ns.map .int)), .val (.ref 0), .val (dLt (n, rows0)), .emp, .emp, .emp, .emp, .emp, .emp, .emp, .emp, .emp, .emp] [pc p1] := by
    simp only [dLt_eq] at e2 ⊢
    simp [tkS, b_law, e1, e2]
  have hd : [pc p2] ++ [Cell.dct true (rows.map kvR)] = m2 := hm
  have b5 : encL rows none = .non := rfl
  simp only [dLt_eq, dTab_eq] at els e4 e5 em e8 e9
  have E2 : exs Tb (evP Tb Pg fu (j + 8)) fu (dpS 1 (dpS 2 b_law)) [.val (.scr (ns.map .int)), .val (.ref 0), .val (dLt (n, rows)), .emp, .emp, .emp, .emp, .emp, .emp, .emp, .emp, .emp, .emp] [pc p2] = .rt (.bl true) m2 := by
    generalize encL rows (some b) = Z at *
    simp [dpS, b_law, lim, rng_eq, pr, mg, hm, els, e4, e5, em, e7, e8, e9, e10, show rows.length ≤ 100000 by omega]
  rw [call_at at_law]
  simp only [runF_eq, r_law, enter]
  simp
  rw [exs_tk _ _ _ 2 b_law, E1, RS.seqH_nx, exs_tk _ _ _ 1, e3, RS.seqH_nx, E2]
  rfl
end Lw
end
end
section
set_option Elab.async false
set_option linter.all false
set_option maxRecDepth 100000
set_option maxHeartbeats 0
set_option exponentiation.threshold 5000
namespace Lw
open PySem PySem.Spec PyProof.Rows L2
abbrev prog_ : List Pm.Fn := rows.map (·.fn)
/-- the inner program, at the law's def -/
noncomputable abbrev evL (ns : List Int) : Pm.R Pm.D := Pm.evP (Pm.tabOf tl) prog_ 1000000000000000000 16 37 [.scr (ns.map .int)] []
theorem facts (hev : ∀ ns : List Int, ns.length ≤ 63 → ∃ m, evL ns = .ok (.bl true) m) {P : Program} {w : World} {K : PySem.W.Frag} {h : Heap} {mg : Str → Option Value} {f : Addr} (X : K.In h) (G : h.Ns mainGlobals mg) (hfa : mg ("law" : Str) = some (.ref f)) (c : Pm.obsP tl (rows.map (·.d)) K = Pm.valP (rows.map (·.d))) :
    ∃ (fd : FuncData) (sp : Sp), (∀ (s : Shared) (v : Value), BindsTo s fd ⟨[v], []⟩ [("_law_script", v)]) ∧ (∀ (H : Hp) (a : Addr) (ns : List Int), ns.length ≤ 63 → Only H → SqL K H a (ns.map V.int) → sp [.ref a] H (fun v _ => v = .bl true) fun _ _ _ => False) ∧
      ∀ base : Heap, K.In base → base.Ns mainGlobals mg → FnOk P w K mg base (L2.CX P w) (8 * 16) f fd ["_law_script"] sp := by
  obtain ⟨hk, hd⟩ := Pm.saysP c
  obtain ⟨Df, d⟩ := Pm.df_of hd (by intro z; cases z)
  have F := d.fd 37 r_law rfl
  have e0 : mg ("law" : Str) = some (.ref (He.fAd K r_law.d.at_)) := by
    have q := List.all_eq_true.mp (Bool.and_eq_true_iff.mp (Bool.and_eq_true_iff.mp (Bool.and_eq_true_iff.mp (Bool.and_eq_true_iff.mp hk).2).2).2).1 (⟨("law", none), 1, false, false⟩ : Pm.DefL) (List.mem_of_getElem? (i := 37) rfl)
    exact He.glo_ok X G (Bool.and_eq_true_iff.mp (by simpa using q)).1
  rw [hfa] at e0
  cases e0
  refine ⟨Df.fd 37, Pm.SpM (Pm.zeOf K tl) (Pm.evP (Pm.tabOf tl) prog_ 1000000000000000000 16) 37, ?_, fun H a ns hl _ hS => Pm.sp_law hS rfl rfl (hev ns hl), fun base _ _ => Pm.law_ok (r := r_law) (fun C k => Pm.srt_all _ C k) X G st_ok hk d (rows_ok K) (pats_ok hk d) rfl base⟩
  have b := FunD.bindsA (ps := ["_law_script"]) F fun _ _ _ _ _ _ us hl => match us, hl with | [_], _ => rfl
  exact fun s v => b s [v] rfl
end Lw
open PySem PySem.W PySem.Calls PyProof.Rows
theorem law_of_ev (hev : ∀ ns : List Int, ns.length ≤ 63 → ∃ m, Lw.evL ns = .ok (.bl true) m) : PySem.Challenge.rw_nogroupleaves_k26_best_splits.Holds := by
  w_on; o_law
  refine HandSHeadRun.head_any (r := OpenLaw.row PySem.Challenge.rw_nogroupleaves_k26_best_splits) (q := view (OpenLaw.row PySem.Challenge.rw_nogroupleaves_k26_best_splits).prog [34]) (H := Lw.hk) (ob := Lw.ob) (M := 60000) (loose := Lw.loose) (d := HandSHeadRun.topDef (OpenLaw.row PySem.Challenge.rw_nogroupleaves_k26_best_splits).prog 34) (kwd := []) Lw.ob_eq
    (by kernel_rfl) (fun s => by kernel_rfl) Lw.run (by kernel_rfl) (by kernel_rfl) (by kernel_rfl) (by rfl) (by first | assumption | decide +kernel) (by decide +kernel) ⟨rfl, rfl, rfl, rfl, rfl, by decide +kernel⟩ ?hw ?hc
  case hw => w_witness2
  case hc =>
    refine Pm.walk_ofP (l := PySem.Challenge.rw_nogroupleaves_k26_best_splits) (n := 63) (k := 8 * 16) (x := "_law_script") rfl (by decide) (by kernel_rfl) ⟨rfl, by decide, by decide⟩ ?F
    intro w mg fa h Y G hmg0
    obtain ⟨K, KX, c⟩ := Y
    have hmg : mg ("law" : PySem.Str) = some (.ref fa) := by
      have e : (HandSHeadRun.topDef (OpenLaw.row PySem.Challenge.rw_nogroupleaves_k26_best_splits).prog 34).name = ("law" : PySem.Str) := by kernel_rfl
      rw [← e]
      exact hmg0
    obtain ⟨fd, sp, hb, hs, hF⟩ := Lw.facts hev (P := (PySem.Challenge.rw_nogroupleaves_k26_best_splits).prog) (w := w) KX G hmg c
    exact ⟨K, fd, sp, KX, hb, hs, hF⟩
end
open PySem PySem.W PyProof.Rows
set_option Elab.async false
set_option maxRecDepth 100000 in
set_option maxHeartbeats 8000000 in
theorem PySem.Challenge.cw_nogroupleaves_k26_best_splits_holds : PySem.Challenge.rw_nogroupleaves_k26_best_splits.Holds := by
  exact law_of_ev fun ns hl => Lw.law_ok 1000000000000000000 7 (by decide) ns hl

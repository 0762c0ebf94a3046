import PyProof.Rows.All
import Wide.All
import OpenK.AllK
import Wide.FinOn
import HandS.ForMost
import HandS.ForExc
import HandS.Walk
import HandS.Deep
import HandS.CallSlots
import HandS.TupAny
import HandS.TupMul
import PyProof.NoPylong
import Flt.Len
import KE.DataMinMax
import KE.KTupSum
import HandS.IsInst
import HandS.Property
import HandS.Zip
import HandS.Iter
import KE.GoesMore
import KE.GoesEnum
import KE.GoesZip
import HandS.Style
import KE.DataFind
import HandS.WordsExc
import HandS.SortInts
import HandS.Conv
import KE.KDictZip
import HandS.More
import HandS.NamedTupGet
import HandS.SlotsOwn
import HandS.Dict
import HandS.Text
import HandS.ExcOwn
import HandS.ExcIs
import HandS.ExcInit
import HandS.Nested
import HandS.ClsMeth
import KE.KExcSuper
import HandS.Exc
import HandS.TryMany
import HandS.ExcField
import KE.KExcIs
import KE.RegKSuper
import PySem.Challenge.RW_nothinglost_k01_models_refused
set_option Elab.async false
set_option linter.all false
set_option maxRecDepth 100000
/-! PV1: data trees, the state of a def's names, and the combinators that a def's text is turned into. Plain Lean: no heap. -/
namespace PV
open PySem

/-- a value as data; mdl: an instance of Model by its tables; hnd: the source of draws; fn: a def or class of the text; exc: an error that was caught, its class and its fields -/
inductive D where
  | non | bl (b : Bool) | int (i : Int) | str (s : Str)
  | tup (ds : List D) | lst (ds : List D)
  | mdl (t : D) | hnd | fn (x : Str) | exc (c : Str) (fs : List (Str × D))
  deriving Inhabited

/-- what a name of a def holds: data; a list that may yet change; a list of such lists; a dict by ints; a dict by pairs of ints -/
inductive SV where
  | dat (d : D) | own (ds : List D) | owns (dss : List (List D)) | dk (kvs : List (Int × D)) | dt (kvs : List ((Int × Int) × D))
  deriving Inhabited

/-- the source of draws: its number, its cells, its index -/
structure Rng where
  st : Int
  cells : List Int
  ix : Int

structure Exn where
  c : Str
  fs : List (Str × D)

abbrev Env := List (Option SV)
inductive Res (α : Type) where
  | ok (a : α) (e : Env) (g : Rng)
  | exc (x : Exn) (e : Env) (g : Rng)
  | stuck
abbrev M (α : Type) := Env → Rng → Res α

def Res.bind {α β : Type} (r : Res α) (f : α → M β) : Res β := match r with
  | .ok a e g => f a e g
  | .exc x e g => .exc x e g
  | .stuck => .stuck
@[simp] theorem Res.bind_ok {α β : Type} (a : α) (e : Env) (g : Rng) (f : α → M β) : (Res.ok a e g).bind f = f a e g := rfl
@[simp] theorem Res.bind_exc {α β : Type} (x : Exn) (e : Env) (g : Rng) (f : α → M β) : (Res.exc x e g : Res α).bind f = .exc x e g := rfl
@[simp] theorem Res.bind_stuck {α β : Type} (f : α → M β) : (Res.stuck : Res α).bind f = .stuck := rfl

def mRet {α : Type} (a : α) : M α := fun e g => .ok a e g
def mBind {α β : Type} (m : M α) (f : α → M β) : M β := fun e g => (m e g).bind f
/-- a value or nothing -/
def mOpt {α : Type} (o : Option α) : M α := fun e g => match o with
  | some a => .ok a e g
  | none => .stuck

/-! ### data -/
/-- depth below n, texts of a size that may stand -/
def D.fine : Nat → D → Bool
  | _, .non => true
  | _, .bl _ => true
  | _, .int _ => true
  | _, .str x => PyData.strOk x
  | 0, .tup _ => false
  | 0, .lst _ => false
  | n + 1, .tup ds => ds.all (D.fine n)
  | n + 1, .lst ds => ds.all (D.fine n)
  | _, _ => false
mutual
def D.py : D → Option PyData
  | .non => some .none
  | .bl b => some (.bool b)
  | .int i => some (.int i)
  | .str s => some (.str s)
  | .tup ds => (D.pys ds).map .tuple
  | .lst ds => (D.pys ds).map .list
  | _ => none
def D.pys : List D → Option (List PyData)
  | [] => some []
  | d :: ds => match D.py d, D.pys ds with
    | some p, some ps => some (p :: ps)
    | _, _ => none
end
mutual
/-- Python's == of data -/
def D.eqv : D → D → Bool
  | .non, .non => true
  | .bl a, .bl b => a == b
  | .bl a, .int j => (if a then 1 else 0) == j
  | .int i, .bl b => i == (if b then 1 else 0)
  | .int i, .int j => i == j
  | .str x, .str y => x == y
  | .tup xs, .tup ys => D.eqvs xs ys
  | .lst xs, .lst ys => D.eqvs xs ys
  | _, _ => false
def D.eqvs : List D → List D → Bool
  | [], [] => true
  | x :: xs, y :: ys => D.eqv x y && D.eqvs xs ys
  | _, _ => false
end

/-- kinds that isinstance asks for -/
inductive Ty where
  | int | bool | str | tuple | list | model
  deriving DecidableEq
def D.isa : D → Ty → Bool
  | .int _, .int => true
  | .bl _, .int => true
  | .bl _, .bool => true
  | .str _, .str => true
  | .tup _, .tuple => true
  | .lst _, .list => true
  | .mdl _, .model => true
  | _, _ => false

/-! ### values of names -/
/-- a new value as data, a list that might change now fixed -/
def SV.frz : SV → Option D
  | .dat d => some d
  | .own ds => some (.lst ds)
  | _ => none
/-- a value as data, for a look -/
def SV.view : SV → Option D
  | .dat d => some d
  | .own ds => some (.lst ds)
  | .owns dss => some (.lst (dss.map .lst))
  | _ => none
/-- a list, or a tuple, by its items -/
def SV.seq : SV → Option (List D)
  | .dat (.lst ds) => some ds
  | .dat (.tup ds) => some ds
  | .own ds => some ds
  | _ => none
def SV.list : SV → Option (List D)
  | .dat (.lst ds) => some ds
  | .own ds => some ds
  | _ => none
def D.ints : List D → Option (List Int)
  | [] => some []
  | .int i :: ds => (D.ints ds).map (i :: ·)
  | _ => none
def D.bls : List D → Option (List Bool)
  | [] => some []
  | .bl b :: ds => (D.bls ds).map (b :: ·)
  | _ => none
def D.strs : List D → Option (List Str)
  | [] => some []
  | .str x :: ds => (D.strs ds).map (x :: ·)
  | _ => none

/-! ### reading names -/
/-- a name's value for keeps: a list that might change is fixed from here on -/
def mVarF (i : Nat) : M SV := fun e g => match e[i]? with
  | some (some sv) => match sv with
    | .dat d => .ok (.dat d) e g
    | .own ds => .ok (.dat (.lst ds)) (e.set i (some (.dat (.lst ds)))) g
    | .owns dss => .ok (.dat (.lst (dss.map .lst))) (e.set i (some (.dat (.lst (dss.map .lst))))) g
    | _ => .stuck
  | _ => .stuck
/-- a name's value for a look -/
def mVarP (i : Nat) : M SV := fun e g => match e[i]? with
  | some (some sv) => .ok sv e g
  | _ => .stuck
/-- a name's value handed out of the def -/
def mVarM (i : Nat) : M SV := mVarP i
def mC (d : D) : M SV := fun e g => .ok (.dat d) e g
def mFrz (m : M SV) : M D := mBind m fun sv => mOpt sv.frz
def mDat (m : M D) : M SV := mBind m fun d => mRet (.dat d)
def mAll {α : Type} : List (M α) → M (List α)
  | [] => mRet []
  | m :: ms => mBind m fun a => mBind (mAll ms) fun as => mRet (a :: as)

/-! ### operators -/
def MulOk (i j : Int) : Prop := i.natAbs < 2 ^ 64 ∨ j.natAbs < 2 ^ 64 ∨ (i.natAbs < 2 ^ 400000 ∧ j.natAbs < 2 ^ 400000)
instance (i j : Int) : Decidable (MulOk i j) := by unfold MulOk; exact inferInstance
def DivOk (j : Int) : Prop := j ≠ 0 ∧ j.natAbs < 2 ^ 8999
instance (j : Int) : Decidable (DivOk j) := by unfold DivOk; exact inferInstance
/-- no list, tuple or text of the text grows beyond this -/
def line : Nat := 100000
inductive Op where
  | add | sub | mul | fdiv | mod | pow
  deriving DecidableEq
def opAdd : SV → SV → Option SV
  | .dat (.int i), .dat (.int j) => some (.dat (.int (i + j)))
  | .dat (.tup xs), .dat (.tup ys) => if xs.length + ys.length ≤ line then some (.dat (.tup (xs ++ ys))) else none
  | .dat (.str x), .dat (.str y) => if x.length + y.length ≤ line then some (.dat (.str (x ++ y))) else none
  | a, b => match a.list, b.list with
    | some xs, some ys => if xs.length + ys.length ≤ line then some (.own (xs ++ ys)) else none
    | _, _ => none
def opSub : SV → SV → Option SV
  | .dat (.int i), .dat (.int j) => some (.dat (.int (i - j)))
  | _, _ => none
def opMul : SV → SV → Option SV
  | .dat (.int i), .dat (.int j) => if MulOk i j then some (.dat (.int (i * j))) else none
  | .dat (.tup xs), .dat (.int k) => if xs.length ≤ 1000 ∧ k ≤ 1000 ∧ -1000 ≤ k then some (.dat (.tup (List.replicate k.toNat xs).flatten)) else none
  | a, .dat (.int k) => match a.list with
    | some xs => if xs.length ≤ 1000 ∧ k ≤ 1000 ∧ -1000 ≤ k then some (.own (List.replicate k.toNat xs).flatten) else none
    | none => none
  | _, _ => none
def opFdiv : SV → SV → Option SV
  | .dat (.int i), .dat (.int j) => if DivOk j then some (.dat (.int (i.fdiv j))) else none
  | _, _ => none
def opMod : SV → SV → Option SV
  | .dat (.int i), .dat (.int j) => if j ≠ 0 then some (.dat (.int (i.fmod j))) else none
  | _, _ => none
def opPow : SV → SV → Option SV
  | .dat (.int i), .dat (.int j) => if 0 ≤ j ∧ j ≤ 1000 ∧ i.natAbs < 2 ^ 64 then some (.dat (.int (i ^ j.toNat))) else none
  | _, _ => none
def opBin : Op → SV → SV → Option SV
  | .add => opAdd
  | .sub => opSub
  | .mul => opMul
  | .fdiv => opFdiv
  | .mod => opMod
  | .pow => opPow
inductive Cmp where
  | eq | ne | lt | le | gt | ge | isin | notin | is | isnot
  deriving DecidableEq
/-- by which == data are looked at: depth and texts in bounds -/
def eqD (a b : SV) : Option Bool := match a.view, b.view with
  | some x, some y => if x.fine 60 && y.fine 60 then some (x.eqv y) else none
  | _, _ => none
def opIn (a b : SV) : Option Bool := match a, b with
  | .dat (.str x), .dat (.str y) => some (!(Builtin.Str.occurrences y x 0 y.length 1).isEmpty)
  | .dat x, b => match b.list with
    | some ds => if x.fine 60 && ds.all (D.fine 60) then some (ds.any fun z => z.eqv x) else none
    | none => none
  | _, _ => none
def opLt : SV → SV → Option Bool
  | .dat (.int i), .dat (.int j) => some (decide (i < j))
  | _, _ => none
def opLe : SV → SV → Option Bool
  | .dat (.int i), .dat (.int j) => some (decide (i ≤ j))
  | _, _ => none
def isNon : SV → SV → Option Bool
  | .dat x, .dat .non => some (match x with | .non => true | _ => false)
  | .own _, .dat .non => some false
  | _, _ => none
def opCmp : Cmp → SV → SV → Option Bool
  | .eq, a, b => eqD a b
  | .ne, a, b => (eqD a b).map (!·)
  | .lt, a, b => opLt a b
  | .le, a, b => opLe a b
  | .gt, a, b => opLt b a
  | .ge, a, b => opLe b a
  | .isin, a, b => opIn a b
  | .notin, a, b => (opIn a b).map (!·)
  | .is, a, b => isNon a b
  | .isnot, a, b => (isNon a b).map (!·)
def mBin (o : Op) (a b : M SV) : M SV := mBind a fun x => mBind b fun y => mOpt (opBin o x y)
def mCmp (o : Cmp) (a b : M SV) : M Bool := mBind a fun x => mBind b fun y => mOpt (opCmp o x y)
/-- a o1 b o2 c -/
def mChain (o1 o2 : Cmp) (a b c : M SV) : M Bool := mBind a fun x => mBind b fun y => mBind (mOpt (opCmp o1 x y)) fun k => if k then mBind c fun z => mOpt (opCmp o2 y z) else mRet false
def mNeg (a : M SV) : M SV := mBind a fun x => match x with
  | .dat (.int i) => mRet (.dat (.int (-i)))
  | _ => mOpt none
def mNot (a : M Bool) : M Bool := mBind a fun b => mRet (!b)
def mAnd (a b : M Bool) : M Bool := mBind a fun x => if x then b else mRet false
def mOr (a b : M Bool) : M Bool := mBind a fun x => if x then mRet true else b
def mIf {α : Type} (c : M Bool) (a b : M α) : M α := mBind c fun x => if x then a else b
/-- a truth value as a value, a value as a truth value -/
def mB (a : M Bool) : M SV := mBind a fun b => mRet (.dat (.bl b))
def mT (a : M SV) : M Bool := mBind a fun x => match x with
  | .dat (.bl b) => mRet b
  | _ => mOpt none

/-! ### displays, items, slices -/
def mTup (ms : List (M D)) : M SV := mBind (mAll ms) fun ds => if ds.length ≤ line then mRet (.dat (.tup ds)) else mOpt none
def mLst (ms : List (M D)) : M SV := mBind (mAll ms) fun ds => if ds.length ≤ line then mRet (.own ds) else mOpt none
abbrev ixAt (n : Nat) (i : Int) : Option Nat := L2.ixN n i
def opIdx : SV → SV → Option SV
  | .dat (.str z), .dat (.int i) => match ixAt z.cps.toList.length i with
    | some j => if z.length ≤ line then (z.cps.toList[j]?).map fun c => .dat (.str ⟨#[c]⟩) else none
    | none => none
  | a, .dat (.int i) => match a.seq with
    | some ds => (ixAt ds.length i).bind fun j => (ds[j]?).map .dat
    | none => none
  | _, _ => none
def mIdx (a i : M SV) : M SV := mBind a fun x => mBind i fun y => mOpt (opIdx x y)
/-- x[i] of a list of lists that may change, for a look -/
def mRowP (x : Nat) (i : M SV) : M SV := mBind (mVarP x) fun _ => mBind i fun y => mBind (mVarP x) fun sv => match sv with
  | .owns dss => match y with
    | .dat (.int k) => mOpt ((ixAt dss.length k).bind fun j => (dss[j]?).map .own)
    | _ => mOpt none
  | sv => mOpt (opIdx sv y)
def cutAt {α : Type} (ds : List α) (lo hi : Option Int) : List α :=
  (ds.drop (HT.sIx ds.length 0 lo)).take (HT.sIx ds.length ds.length hi - HT.sIx ds.length 0 lo)
def opSlice (a : SV) (lo hi : Option Int) : Option SV := match a with
  | .dat (.tup ds) => some (.dat (.tup (cutAt ds lo hi)))
  | a => (a.list).map fun ds => .own (cutAt ds lo hi)
def mPart : Option (M SV) → M (Option Int)
  | none => mRet none
  | some m => mBind m fun x => match x with
    | .dat (.int i) => mRet (some i)
    | _ => mOpt none
def mSlice (a : M SV) (lo hi : Option (M SV)) : M SV := mBind a fun x => mBind (mPart lo) fun l => mBind (mPart hi) fun h => mOpt (opSlice x l h)

/-! ### what a walk goes over -/
/-- the items that a for or a comprehension goes over -/
inductive Src where
  | seq (m : M SV)
  | rng1 (b : M SV) | rng2 (a b : M SV)
  | enum (m : M SV) | enumFrom (m : M SV) (k : Int)
  | zip2 (a b : M SV) | zip3 (a b c : M SV)
def opRange (a b : SV) : Option (List D) := match a, b with
  | .dat (.int i), .dat (.int j) => if -100000 ≤ i ∧ i ≤ 100000 ∧ -100000 ≤ j ∧ j ≤ 100000 then some ((List.range (j - i).toNat).map fun (k : Nat) => .int (i + k)) else none
  | _, _ => none
def enumD (k : Int) : List D → List D
  | [] => []
  | d :: ds => .tup [.int k, d] :: enumD (k + 1) ds
def zipD2 : List D → List D → List D
  | a :: as, b :: bs => .tup [a, b] :: zipD2 as bs
  | _, _ => []
def zipD3 : List D → List D → List D → List D
  | a :: as, b :: bs, c :: cs => .tup [a, b, c] :: zipD3 as bs cs
  | _, _, _ => []
def Src.items : Src → M (List D)
  | .seq m => mBind m fun x => match x with
    | .dat (.str z) => if z.length ≤ line then mRet (z.cps.toList.map fun c => .str ⟨#[c]⟩) else mOpt none
    | x => mOpt x.seq
  | .rng1 b => mBind b fun y => mOpt (opRange (.dat (.int 0)) y)
  | .rng2 a b => mBind a fun x => mBind b fun y => mOpt (opRange x y)
  | .enum m => mBind m fun x => mOpt (x.seq.map (enumD 0))
  | .enumFrom m k => mBind m fun x => mOpt (x.seq.map (enumD k))
  | .zip2 a b => mBind a fun x => mBind b fun y => mOpt (match x.seq, y.seq with
    | some xs, some ys => some (zipD2 xs ys)
    | _, _ => none)
  | .zip3 a b c => mBind a fun x => mBind b fun y => mBind c fun z => mOpt (match x.seq, y.seq, z.seq with
    | some xs, some ys, some zs => some (zipD3 xs ys zs)
    | _, _, _ => none)
/-- a target: a name, or names for the items of a tuple -/
inductive Tgt where
  | name (i : Nat) | names (is : List Nat)
def setAll (e : Env) : List Nat → List D → Env
  | i :: is, d :: ds => setAll (e.set i (some (.dat d))) is ds
  | _, _ => e
def Tgt.bind (t : Tgt) (d : D) (e : Env) : Option Env := match t with
  | .name i => some (e.set i (some (.dat d)))
  | .names is => match d with
    | .tup ds => if ds.length = is.length then some (setAll e is ds) else none
    | _ => none
def wipe (e : Env) : List Nat → Env
  | [] => e
  | i :: is => (wipe e is).set i none
/-- the slots that a comprehension has for itself hold nothing that may change -/
def still (e : Env) (is : List Nat) : Bool := is.all fun i => match e[i]? with
  | some (some (.dat _)) => true
  | some none => true
  | none => true
  | _ => false
/-- behind a comprehension its own slots are as before -/
def unwipe (e0 : Env) (e : Env) : List Nat → Env
  | [] => e
  | i :: is => (unwipe e0 e is).set i (e0[i]?.join)
/-- one turn after another: what is kept, from the left -/
def compLoop (own : List Nat) (t : Tgt) (cond : M Bool) (elt : M D) : List D → List D → M (List D)
  | [], acc => mRet acc
  | d :: ds, acc => fun e g => match t.bind d e with
    | none => .stuck
    | some e1 => match cond e1 g with
      | .ok false e2 g2 => compLoop own t cond elt ds acc (wipe e2 own) g2
      | .ok true e2 g2 => match elt e2 g2 with
        | .ok y e3 g3 => if acc.length < line then compLoop own t cond elt ds (acc ++ [y]) (wipe e3 own) g3 else .stuck
        | _ => .stuck
      | _ => .stuck
def mComp (own : List Nat) (t : Tgt) (src : Src) (cond : M Bool) (elt : M D) : M SV := mBind src.items fun items => fun e g =>
  if still e own then
    match compLoop own t cond elt items [] (wipe e own) g with
    | .ok ys e' g' => .ok (.own ys) (unwipe e e' own) g'
    | _ => .stuck
  else .stuck
/-- two for clauses; own1: the inner one's names -/
def compLoopIn (own1 : List Nat) (t1 : Tgt) (elt : M D) : List D → List D → M (List D)
  | [], acc => mRet acc
  | d :: ds, acc => fun e g => match t1.bind d e with
    | none => .stuck
    | some e1 => match elt e1 g with
      | .ok y e3 g3 => if acc.length < line then compLoopIn own1 t1 elt ds (acc ++ [y]) (wipe e3 own1) g3 else .stuck
      | _ => .stuck
def compLoop2 (own own1 : List Nat) (t t1 : Tgt) (src1 : Src) (elt : M D) : List D → List D → M (List D)
  | [], acc => mRet acc
  | d :: ds, acc => fun e g => match t.bind d e with
    | none => .stuck
    | some e1 => match src1.items e1 g with
      | .ok items e2 g2 => match compLoopIn own1 t1 elt items acc (wipe e2 own1) g2 with
        | .ok acc' e3 g3 => compLoop2 own own1 t t1 src1 elt ds acc' (wipe e3 own) g3
        | _ => .stuck
      | _ => .stuck
def mComp2 (own own1 : List Nat) (t : Tgt) (src : Src) (t1 : Tgt) (src1 : Src) (elt : M D) : M SV := mBind src.items fun items => fun e g =>
  if still e own then
    match compLoop2 own own1 t t1 src1 elt items [] (wipe e own) g with
    | .ok ys e' g' => .ok (.own ys) (unwipe e e' own) g'
    | _ => .stuck
  else .stuck
/-- [[] for .. in ..] -/
def mRows (src : Src) : M SV := mBind src.items fun items => if items.length ≤ line then mRet (.owns (items.map fun _ => [])) else mOpt none

/-! ### calls -/
inductive FRes where
  | ok (sv : SV) (g : Rng)
  | exc (x : Exn) (g : Rng)
  | stuck
/-- what a def of the text does with data -/
abbrev SemF := List D → Rng → FRes
def mCall (n : Nat) (f : SemF) (ms : List (M D)) : M SV := mBind (mAll ms) fun ds => fun e g => if ds.length = n then
    match f ds g with
    | .ok sv g' => .ok sv e g'
    | .exc x g' => .exc x e g'
    | .stuck => .stuck
  else .stuck
inductive Bi where
  | len | sum | max | min | max2 | min2 | abs | all | any | tuple | list | str | int
  deriving DecidableEq
def opMax : List Int → Option SV
  | [] => none
  | n :: ns => some (.dat (.int (ns.foldl max n)))
def opMin : List Int → Option SV
  | [] => none
  | n :: ns => some (.dat (.int (ns.foldl min n)))
def opLen : SV → Option SV
  | .dat (.mdl (.tup ds)) => some (.dat (.int ds.length))
  | .dat (.str x) => if x.length ≤ line then some (.dat (.int x.length)) else none
  | .owns dss => some (.dat (.int dss.length))
  | a => (a.seq).map fun ds => .dat (.int ds.length)
def opBi : Bi → List SV → Option SV
  | .len, [a] => opLen a
  | .sum, [a] => (a.seq.bind D.ints).map fun ns => .dat (.int ns.sum)
  | .max, [a] => (a.seq.bind D.ints).bind opMax
  | .min, [a] => (a.seq.bind D.ints).bind opMin
  | .max2, [.dat (.int i), .dat (.int j)] => some (.dat (.int (if j > i then j else i)))
  | .min2, [.dat (.int i), .dat (.int j)] => some (.dat (.int (if j < i then j else i)))
  | .abs, [.dat (.int i)] => some (.dat (.int (if i < 0 then -i else i)))
  | .all, [a] => (a.list.bind D.bls).map fun bs => .dat (.bl (bs.all id))
  | .any, [a] => (a.list.bind D.bls).map fun bs => .dat (.bl (bs.any id))
  | .tuple, [a] => (a.seq).map fun ds => .dat (.tup ds)
  | .list, [a] => (a.seq).map fun ds => .own ds
  | .int, [.dat (.int i)] => some (.dat (.int i))
  | .int, [.dat (.bl b)] => some (.dat (.int (if b then 1 else 0)))
  | .int, [.dat (.str x)] => if x.length ≤ 640 then (PySem.intText? x).map fun i => .dat (.int i) else none
  | .str, [.dat (.int i)] => if i.natAbs.log2 < 1920 then some (.dat (.str (toString i))) else none
  | _, _ => none
def mBi (b : Bi) (ms : List (M SV)) : M SV := mBind (mAll ms) fun xs => mOpt (opBi b xs)
/-- tuple(..), list(..) of what is walked (a range, a zip) -/
def mOfSrc (tuple : Bool) (src : Src) : M SV := mBind src.items fun ds => mRet (if tuple then .dat (.tup ds) else .own ds)
/-- data whose kind can be asked for -/
def SV.kind : SV → Option D
  | .dat .hnd => none
  | .dat (.fn _) => none
  | .dat (.exc _ _) => none
  | .dat d => some d
  | .own ds => some (.lst ds)
  | _ => none
def mIsa (a : M SV) (ts : List Ty) : M Bool := mBind a fun x => mBind (mOpt x.kind) fun d => mRet (ts.any fun t => d.isa t)
/-- l.index(x): the first place of an equal one -/
def opIndex (a : SV) (x : D) : Option SV := match a.list with
  | some ds => if x.fine 60 && ds.all (D.fine 60) then (ds.findIdx? fun z => z.eqv x).map fun j => .dat (.int (j : Nat)) else none
  | none => none
def mIndex (a : M SV) (x : M D) : M SV := mBind a fun l => mBind (mOpt l.list) fun _ => mBind x fun d => mOpt (opIndex l d)
/-- model.rows -/
def opTabs : SV → Option SV
  | .dat (.mdl t) => some (.dat t)
  | _ => none
def mTabs (a : M SV) : M SV := mBind a fun v => mOpt (opTabs v)
/-- model.tables, model.outcomes: a property, by its getter -/
def mProp (f : SemF) (a : M SV) : M SV := mBind a fun v => fun e g => match v with
  | .dat (.mdl t) => match f [.mdl t] g with
    | .ok sv g' => .ok sv e g'
    | _ => .stuck
  | _ => .stuck

/-! ### statements: none, the next one; some, what is handed back -/
abbrev S := M (Option SV)
def sNil : S := mRet none
def sSeq (a b : S) : S := mBind a fun r => match r with
  | none => b
  | some v => mRet (some v)
def put (i : Nat) (sv : SV) : M Unit := fun e g => if i < e.length then .ok () (e.set i (some sv)) g else .stuck
def sSet (i : Nat) (m : M SV) : S := mBind m fun sv => mBind (put i sv) fun _ => mRet none
/-- a, b, .. = x, y, .. -/
def sPar (is : List Nat) (ms : List (M SV)) : S := mBind (mAll ms) fun svs => fun e g => if svs.length = is.length then .ok none ((is.zip svs).foldl (fun e p => e.set p.1 (some p.2)) e) g else .stuck
/-- a, b, .. = t -/
def sUnp (t : Tgt) (m : M D) : S := mBind m fun d => fun e g => match t.bind d e with
  | some e' => .ok none e' g
  | none => .stuck
def sDrop (m : M SV) : S := mBind m fun _ => mRet none
def sIf (c : M Bool) (a b : S) : S := mBind c fun x => if x then a else b
def sRet (m : M SV) : S := mBind m fun sv => mRet (some sv)
def sRaise (c : Str) (fs : List Str) (ms : List (M D)) : S := mBind (mAll ms) fun ds => fun e g => .exc ⟨c, fs.zip ds⟩ e g
def rowAt (e : Env) (i : Nat) (z : Int) : Option (List (List D) × Nat × List D) := match e[i]? with
  | some (some (.owns dss)) => match ixAt dss.length z with
    | some j => (dss[j]?).map fun ds => (dss, j, ds)
    | none => none
  | _ => none
def SV.int : SV → Option Int
  | .dat (.int z) => some z
  | _ => none
def mInt (m : M SV) : M Int := mBind m fun sv => mOpt sv.int
def mOwn (i : Nat) : M (List D) := fun e g => match e[i]? with
  | some (some (.own ds)) => .ok ds e g
  | _ => .stuck
def mRowAt (i : Nat) (z : Int) : M (List (List D) × Nat × List D) := fun e g => mOpt (rowAt e i z) e g
def mMust (b : Bool) : M Unit := if b then mRet () else mOpt none
def setOwn (i : Nat) (ds : List D) : S := fun e g => .ok none (e.set i (some (.own ds))) g
def setRow (i : Nat) (dss : List (List D)) (j : Nat) (ds : List D) : S := fun e g => .ok none (e.set i (some (.owns (dss.set j ds)))) g
/-- l.append(x) -/
def sApp (i : Nat) (m : M D) : S := mBind (mOwn i) fun _ => mBind m fun d => mBind (mOwn i) fun ds => mBind (mMust (decide (ds.length < line))) fun _ => setOwn i (ds ++ [d])
/-- l[k].append(x) -/
def sAppR (i : Nat) (k : M SV) (m : M D) : S := mBind (mVarP i) fun _ => mBind (mInt k) fun z => mBind (mRowAt i z) fun _ => mBind m fun d => mBind (mRowAt i z) fun p => mBind (mMust (decide (p.2.2.length < line))) fun _ => setRow i p.1 p.2.1 (p.2.2 ++ [d])
/-- l[k] = x -/
def sPut (i : Nat) (k : M SV) (m : M D) : S := mBind m fun d => mBind (mOwn i) fun _ => mBind (mInt k) fun z => mBind (mOwn i) fun ds => mBind (mOpt (ixAt ds.length z)) fun j => setOwn i (ds.set j d)
/-- l[k][m] = x -/
def sPutR (i : Nat) (k k2 : M SV) (m : M D) : S := mBind m fun d => mBind (mVarP i) fun _ => mBind (mInt k) fun z => mBind (mRowAt i z) fun _ => mBind (mInt k2) fun z2 => mBind (mRowAt i z) fun p => mBind (mOpt (ixAt p.2.2.length z2)) fun j => setRow i p.1 p.2.1 (p.2.2.set j d)
def getI (ds : List D) (j : Nat) : Option Int := match ds[j]? with
  | some (.int x) => some x
  | _ => none
/-- l[k] += x, ints -/
def sAugI (i : Nat) (k : M SV) (m : M SV) : S := mBind (mOwn i) fun _ => mBind (mInt k) fun z => mBind (mOwn i) fun ds => mBind (mOpt (ixAt ds.length z)) fun j => mBind (mOpt (getI ds j)) fun x => mBind (mInt m) fun y => mBind (mOwn i) fun ds' => mBind (mMust (decide (ds'.length = ds.length))) fun _ => setOwn i (ds'.set j (.int (x + y)))
/-- x += y, ints -/
def sAug (i : Nat) (m : M SV) : S := mBind (mInt (mVarP i)) fun x => mBind (mInt m) fun y => mBind (put i (.dat (.int (x + y)))) fun _ => mRet none
/-- l += m, a list that may change -/
def sAugL (i : Nat) (m : M SV) : S := mBind (mOwn i) fun _ => mBind m fun dv => mBind (mOpt dv.list) fun ys => mBind (mOwn i) fun xs => mBind (mMust (decide (xs.length + ys.length ≤ line))) fun _ => setOwn i (xs ++ ys)
/-- l.remove(x): the first equal one goes -/
def sRemove (i : Nat) (m : M D) : S := mBind (mOwn i) fun _ => mBind m fun d => mBind (mOwn i) fun ds => mBind (mMust (d.fine 60 && ds.all (D.fine 60))) fun _ => mBind (mOpt (ds.findIdx? fun z => z.eqv d)) fun j => setOwn i (ds.eraseIdx j)
/-- x = y, y's own list goes over to x -/
def sMove (i j : Nat) : S := fun e g => match e[j]? with
  | some (some sv) => if i < e.length ∧ i ≠ j then .ok none ((e.set j none).set i (some sv)) g else .stuck
  | _ => .stuck
/-- l.append(r), r's own list goes over to the list of lists l -/
def sAppO (i j : Nat) : S := fun e g => match e[i]?, e[j]? with
  | some (some (.owns dss)), some (some (.own ds)) => if dss.length < line then .ok none ((e.set j none).set i (some (.owns (dss ++ [ds])))) g else .stuck
  | _, _ => .stuck
def sForGo (t : Tgt) (b : S) : List D → S
  | [] => sNil
  | d :: ds => fun e g => match t.bind d e with
    | none => .stuck
    | some e1 => match b e1 g with
      | .ok none e2 g2 => sForGo t b ds e2 g2
      | .ok (some v) e2 g2 => .ok (some v) e2 g2
      | .exc x e2 g2 => .exc x e2 g2
      | .stuck => .stuck
def sFor (t : Tgt) (src : Src) (b : S) : S := mBind src.items fun items => sForGo t b items
def whileN (c : M Bool) (b : S) : Nat → S
  | 0 => fun _ _ => .stuck
  | n + 1 => fun e g => match c e g with
    | .ok false e1 g1 => .ok none e1 g1
    | .ok true e1 g1 => match b e1 g1 with
      | .ok none e2 g2 => whileN c b n e2 g2
      | .ok (some v) e2 g2 => .ok (some v) e2 g2
      | .exc x e2 g2 => .exc x e2 g2
      | .stuck => .stuck
    | .exc x e1 g1 => .exc x e1 g1
    | .stuck => .stuck
open Classical in
noncomputable def sWhile (c : M Bool) (b : S) : S := fun e g => if h : ∃ n, whileN c b n e g ≠ .stuck then whileN c b (Classical.choose h) e g else .stuck
/-- a def: its names, its body -/
def runFn (n : Nat) (b : S) : SemF := fun ds g => match b (ds.map (fun d => some (.dat d)) ++ List.replicate (n - ds.length) none) g with
  | .ok none _ g' => .ok (.dat .non) g'
  | .ok (some sv) _ g' => .ok sv g'
  | .exc x _ g' => .exc x g'
  | .stuck => .stuck
/-- try: body except C as n: suite .. -/
def sTry (b : S) (hs : List (Str × Nat × S)) (sub : Str → Str → Bool) : S := fun e g => match b e g with
  | .exc x e1 g1 => match hs.find? fun h => sub x.c h.1 with
    | some (_, i, s) => match s (e1.set i (some (.dat (.exc x.c x.fs)))) g1 with
      | .ok r e2 g2 => .ok r (e2.set i none) g2
      | _ => .stuck
    | none => .exc x e1 g1
  | r => r
end PV
set_option Elab.async false
set_option linter.all false
set_option maxRecDepth 100000
set_option maxHeartbeats 4000000
/-! PV2: how data lie in the heap; what a combinator means; the core of the soundness of expressions. -/
namespace PV
open PySem L2

abbrev Tm := Addr → Option Nat
/-- what stands fixed through a run: the source of draws (L, its cells C), the class Model, where the text's defs and classes stand -/
structure Cn where
  L : Addr
  C : Addr
  Md : Addr
  fa : Str → Option Addr

mutual
/-- v bears the data d, by the fixed part F of the heap -/
inductive Rep (c : Cn) (F : Hp) : V → D → Prop
  | non : Rep c F .non .non
  | bl (b : Bool) : Rep c F (.bl b) (.bl b)
  | int (i : Int) : Rep c F (.int i) (.int i)
  | str (x : Str) : Rep c F (.str x) (.str x)
  | tup {a : Addr} {xs : List V} {ds : List D} : F a = some (.tup xs) → Reps c F xs ds → Rep c F (.ref a) (.tup ds)
  | lst {a : Addr} {xs : List V} {ds : List D} : F a = some (.lst xs) → Reps c F xs ds → Rep c F (.ref a) (.lst ds)
  | mdl {a dx : Addr} {v : V} {t : D} : F a = some (.ins c.Md dx [("rows", v)]) → Rep c F v t → Rep c F (.ref a) (.mdl t)
  | hnd : Rep c F (.ref c.L) .hnd
  | fn {x : Str} {f : Addr} : c.fa x = some f → Rep c F (.ref f) (.fn x)
inductive Reps (c : Cn) (F : Hp) : List V → List D → Prop
  | nil : Reps c F [] []
  | cons {v : V} {vs : List V} {d : D} {ds : List D} : Rep c F v d → Reps c F vs ds → Reps c F (v :: vs) (d :: ds)
end

def Sub (F F' : Hp) : Prop := ∀ a o, F a = some o → F' a = some o
theorem Sub.refl (F : Hp) : Sub F F := fun _ _ h => h
theorem Sub.trans {F G H : Hp} (a : Sub F G) (b : Sub G H) : Sub F H := fun x o h => b x o (a x o h)
theorem Sub.new {F : Hp} {p : Addr} {o : HO} (h : F p = none) : Sub F (upd F p o) := fun a u e => by
  rw [upd_ne (ne_of_none e h)]; exact e

mutual
theorem Rep.mono {c : Cn} {F F' : Hp} (s : Sub F F') : ∀ {d : D} {v : V}, Rep c F v d → Rep c F' v d
  | _, _, .non => .non
  | _, _, .bl b => .bl b
  | _, _, .int i => .int i
  | _, _, .str x => .str x
  | _, _, .tup h r => .tup (s _ _ h) (Reps.mono s r)
  | _, _, .lst h r => .lst (s _ _ h) (Reps.mono s r)
  | _, _, .mdl h r => .mdl (s _ _ h) (Rep.mono s r)
  | _, _, .hnd => .hnd
  | _, _, .fn h => .fn h
theorem Reps.mono {c : Cn} {F F' : Hp} (s : Sub F F') : ∀ {ds : List D} {vs : List V}, Reps c F vs ds → Reps c F' vs ds
  | _, _, .nil => .nil
  | _, _, .cons r rs => .cons (Rep.mono s r) (Reps.mono s rs)
end
section
variable {c : Cn} {F F' : Hp}
theorem Reps.length : ∀ {ds : List D} {vs : List V}, Reps c F vs ds → vs.length = ds.length
  | _, _, .nil => rfl
  | _, _, .cons _ rs => by simp [Reps.length rs]
theorem Reps.append : ∀ {ds es : List D} {vs ws : List V}, Reps c F vs ds → Reps c F ws es → Reps c F (vs ++ ws) (ds ++ es)
  | _, _, _, _, .nil, s => s
  | _, _, _, _, .cons r rs, s => .cons r (Reps.append rs s)
theorem Reps.get : ∀ {ds : List D} {vs : List V} {i : Nat} {d : D}, Reps c F vs ds → ds[i]? = some d → ∃ v, vs[i]? = some v ∧ Rep c F v d
  | _, _, _, _, .nil, e => by simp at e
  | _, _, 0, _, .cons r _, e => by simp at e; subst e; exact ⟨_, rfl, r⟩
  | _, _, i + 1, d, .cons _ rs, e => by
    obtain ⟨v, h1, h2⟩ := Reps.get (i := i) (d := d) rs (by simpa using e)
    exact ⟨v, by simpa using h1, h2⟩
theorem Reps.getV : ∀ {ds : List D} {vs : List V} {i : Nat} {v : V}, Reps c F vs ds → vs[i]? = some v → ∃ d, ds[i]? = some d ∧ Rep c F v d
  | _, _, _, _, .nil, e => by simp at e
  | _, _, 0, _, .cons r _, e => by simp at e; subst e; exact ⟨_, rfl, r⟩
  | _, _, i + 1, d, .cons _ rs, e => by
    obtain ⟨v, h1, h2⟩ := Reps.getV (i := i) (v := d) rs (by simpa using e)
    exact ⟨v, by simpa using h1, h2⟩
theorem Reps.set {v : V} {d : D} (r : Rep c F v d) : ∀ {ds : List D} {vs : List V} (i : Nat), Reps c F vs ds → Reps c F (vs.set i v) (ds.set i d)
  | _, _, _, .nil => .nil
  | _, _, 0, .cons _ rs => .cons r rs
  | _, _, i + 1, .cons q rs => .cons q (Reps.set r i rs)
theorem Reps.take : ∀ {ds : List D} {vs : List V} (n : Nat), Reps c F vs ds → Reps c F (vs.take n) (ds.take n)
  | _, _, 0, _ => .nil
  | _, _, _ + 1, .nil => .nil
  | _, _, n + 1, .cons r rs => .cons r (Reps.take n rs)
theorem Reps.drop : ∀ {ds : List D} {vs : List V} (n : Nat), Reps c F vs ds → Reps c F (vs.drop n) (ds.drop n)
  | _, _, 0, r => r
  | _, _, _ + 1, .nil => .nil
  | _, _, n + 1, .cons _ rs => Reps.drop n rs
theorem Reps.erase : ∀ {ds : List D} {vs : List V} (n : Nat), Reps c F vs ds → Reps c F (vs.eraseIdx n) (ds.eraseIdx n)
  | _, _, _, .nil => .nil
  | _, _, 0, .cons _ rs => rs
  | _, _, n + 1, .cons r rs => .cons r (Reps.erase n rs)
theorem Reps.rep {ds : List D} {vs : List V} (r : Reps c F vs ds) : ∀ k : Nat, Reps c F (List.replicate k vs).flatten (List.replicate k ds).flatten
  | 0 => .nil
  | k + 1 => by
    rw [List.replicate_succ, List.replicate_succ, List.flatten_cons, List.flatten_cons]
    exact r.append (Reps.rep r k)
theorem Reps.ints : ∀ {ns : List Int}, Reps c F (ns.map V.int) (ns.map D.int)
  | [] => .nil
  | n :: ns => .cons (.int n) Reps.ints
/-- the ints of a row of ints -/
theorem Reps.ints_of : ∀ {ds : List D} {vs : List V} {ns : List Int}, Reps c F vs ds → D.ints ds = some ns → vs = ns.map V.int
  | _, _, _, .nil, e => by simp [D.ints] at e; subst e; rfl
  | _, _, ns, .cons (d := d) (ds := ds) r rs, e => by
    cases d with
    | int i =>
      cases r
      simp only [D.ints] at e
      cases h : D.ints ds with
      | none => rw [h] at e; cases e
      | some ms => rw [h] at e; cases e; rw [Reps.ints_of rs h]; rfl
    | _ => simp [D.ints] at e
theorem Reps.bls_of : ∀ {ds : List D} {vs : List V} {ns : List Bool}, Reps c F vs ds → D.bls ds = some ns → vs = ns.map V.bl
  | _, _, _, .nil, e => by simp [D.bls] at e; subst e; rfl
  | _, _, ns, .cons (d := d) (ds := ds) r rs, e => by
    cases d with
    | bl i =>
      cases r
      simp only [D.bls] at e
      cases h : D.bls ds with
      | none => rw [h] at e; cases e
      | some ms => rw [h] at e; cases e; rw [Reps.bls_of rs h]; rfl
    | _ => simp [D.bls] at e
theorem Reps.strs_of : ∀ {ds : List D} {vs : List V} {ns : List Str}, Reps c F vs ds → D.strs ds = some ns → vs = ns.map V.str
  | _, _, _, .nil, e => by simp [D.strs] at e; subst e; rfl
  | _, _, ns, .cons (d := d) (ds := ds) r rs, e => by
    cases d with
    | str i =>
      cases r
      simp only [D.strs] at e
      cases h : D.strs ds with
      | none => rw [h] at e; cases e
      | some ms => rw [h] at e; cases e; rw [Reps.strs_of rs h]; rfl
    | _ => simp [D.strs] at e
end

/-! ### the state -/
/-- the source of draws stands; F is a fixed part of H -/
structure Base (c : Cn) (F : Hp) (g : Rng) (H : Hp) : Prop where
  sub : Sub F H
  hL : H c.L = some (.lst [.int g.st, .ref c.C, .int g.ix])
  hC : H c.C = some (.lst (g.cells.map V.int))
  ne : c.L ≠ c.C
  FL : F c.L = none
  FC : F c.C = none

/-- what slot i bears; T: which slot an object that may change belongs to -/
def SlotRep (c : Cn) (F : Hp) (T : Tm) (H : Hp) (i : Nat) (v : V) : SV → Prop
  | .dat d => Rep c F v d
  | .own ds => ∃ a xs, v = .ref a ∧ T a = some i ∧ H a = some (.lst xs) ∧ Reps c F xs ds
  | .owns dss => ∃ (a : Addr) (as : List Addr), v = .ref a ∧ T a = some i ∧ H a = some (.lst (as.map V.ref)) ∧ (a :: as).Nodup ∧ as.length = dss.length ∧
      ∀ (j : Nat) b ds, as[j]? = some b → dss[j]? = some ds → T b = some i ∧ ∃ xs, H b = some (.lst xs) ∧ Reps c F xs ds
  | .dk kvs => ∃ a ws, v = .ref a ∧ T a = some i ∧ H a = some (.dK ws) ∧ ws.length = kvs.length ∧ ∀ (j : Nat) kv w, kvs[j]? = some kv → ws[j]? = some w → w.1 = Sum.inl kv.1 ∧ Rep c F w.2 kv.2
  | .dt kvs => ∃ a ws, v = .ref a ∧ T a = some i ∧ H a = some (.dT ws) ∧ ws.length = kvs.length ∧ ∀ (j : Nat) kv w, kvs[j]? = some kv → ws[j]? = some w → w.1 = [Sum.inl kv.1.1, Sum.inl kv.1.2] ∧ Rep c F w.2 kv.2

structure Rel (c : Cn) (F : Hp) (T : Tm) (e : Env) (g : Rng) (σ : L2.St) (H : Hp) : Prop where
  base : Base c F g H
  TL : T c.L = none
  TC : T c.C = none
  dom : ∀ a i, T a = some i → H a ≠ none ∧ F a = none
  len : e.length = σ.length
  slot : ∀ (i : Nat) sv, e[i]? = some (some sv) → ∃ v, σ[i]? = some (some v) ∧ SlotRep c F T H i v sv

/-- behind an expression -/
structure Ext (c : Cn) (F : Hp) (T : Tm) (H : Hp) (F' : Hp) (T' : Tm) (H' : Hp) : Prop where
  f : Sub F F'
  h : ∀ a o, a ≠ c.L → a ≠ c.C → H a = some o → H' a = some o
  n : ∀ a, H' a = none → H a = none
  g : ∀ a o, F' a = some o → F a = some o ∨ H a = none ∨ T a ≠ none
  t : ∀ a i, T' a = some i → T a = some i
section
variable {c : Cn} {F F1 F2 : Hp} {T T1 T2 : Tm} {H H1 H2 : Hp} {e : Env} {g : Rng} {σ : L2.St}
theorem Ext.refl : Ext c F T H F T H := ⟨Sub.refl _, fun _ _ _ _ h => h, fun _ h => h, fun _ _ h => .inl h, fun _ _ h => h⟩
theorem Ext.trans (a : Ext c F T H F1 T1 H1) (b : Ext c F1 T1 H1 F2 T2 H2) : Ext c F T H F2 T2 H2 where
  f := a.f.trans b.f
  h := fun x o h1 h2 h => b.h x o h1 h2 (a.h x o h1 h2 h)
  n := fun x h => a.n x (b.n x h)
  g := fun x o h => by
    rcases b.g x o h with h | h | h
    · exact a.g x o h
    · exact .inr (.inl (a.n x h))
    · refine .inr (.inr fun z => h ?_)
      cases q : T1 x with
      | none => rfl
      | some i => rw [a.t x i q] at z; cases z
  t := fun x i h => a.t x i (b.t x i h)
theorem Base.unL (b : Base c F g H) {p : Addr} (h : H p = none) : p ≠ c.L ∧ p ≠ c.C := by
  constructor
  · rintro rfl; rw [b.hL] at h; cases h
  · rintro rfl; rw [b.hC] at h; cases h
theorem Base.free (b : Base c F g H) {p : Addr} (h : H p = none) : F p = none := by
  cases q : F p with
  | none => rfl
  | some o => rw [b.sub p o q] at h; cases h
theorem Rel.tfree (R : Rel c F T e g σ H) {p : Addr} (h : H p = none) : T p = none := by
  cases q : T p with
  | none => rfl
  | some i => exact absurd h (R.dom p i q).1
theorem SlotRep.mono {F' : Hp} {T' : Tm} {H' : Hp} {i : Nat} {v : V} (hF : Sub F F') (hT : ∀ a, T a = some i → T' a = some i) (hH : ∀ a o, T a = some i → H a = some o → H' a = some o) :
    ∀ {sv : SV}, SlotRep c F T H i v sv → SlotRep c F' T' H' i v sv
  | .dat d, h => by
    have h' : Rep c F v d := h
    exact Rep.mono hF h'
  | .own _, h => by
    obtain ⟨a, xs, e, t, k, r⟩ := h
    exact ⟨a, xs, e, hT a t, hH a _ t k, r.mono hF⟩
  | .owns _, h => by
    obtain ⟨a, as, e, t, k, nd, l, r⟩ := h
    refine ⟨a, as, e, hT a t, hH a _ t k, nd, l, fun j b ds h1 h2 => ?_⟩
    obtain ⟨tb, xs, kb, rb⟩ := r j b ds h1 h2
    exact ⟨hT b tb, xs, hH b _ tb kb, rb.mono hF⟩
  | .dk _, h => by
    obtain ⟨a, ws, e, t, k, l, r⟩ := h
    exact ⟨a, ws, e, hT a t, hH a _ t k, l, fun j kv w h1 h2 => ⟨(r j kv w h1 h2).1, (r j kv w h1 h2).2.mono hF⟩⟩
  | .dt _, h => by
    obtain ⟨a, ws, e, t, k, l, r⟩ := h
    exact ⟨a, ws, e, hT a t, hH a _ t k, l, fun j kv w h1 h2 => ⟨(r j kv w h1 h2).1, (r j kv w h1 h2).2.mono hF⟩⟩
/-- a new object that no name knows yet -/
theorem Rel.alloc (R : Rel c F T e g σ H) {p : Addr} {o : HO} (hp : H p = none) : Rel c F T e g σ (upd H p o) where
  base := ⟨R.base.sub.trans (Sub.new hp), by rw [upd_ne (Ne.symm (R.base.unL hp).1)]; exact R.base.hL, by rw [upd_ne (Ne.symm (R.base.unL hp).2)]; exact R.base.hC, R.base.ne, R.base.FL, R.base.FC⟩
  TL := R.TL
  TC := R.TC
  dom := fun a i h => ⟨fun z => by
    by_cases q : a = p
    · subst q; rw [upd_same] at z; cases z
    · rw [upd_ne q] at z; exact (R.dom a i h).1 z, (R.dom a i h).2⟩
  len := R.len
  slot := fun i sv h => by
    obtain ⟨v, h1, h2⟩ := R.slot i sv h
    exact ⟨v, h1, h2.mono (Sub.refl _) (fun _ q => q) fun a o _ q => Sub.new hp a o q⟩
theorem Ext.alloc {p : Addr} {o : HO} (hp : H p = none) : Ext c F T H F T (upd H p o) :=
  ⟨Sub.refl _, fun a u _ _ h => Sub.new hp a u h, fun a h => by
    by_cases q : a = p
    · subst q; exact hp
    · rw [upd_ne q] at h; exact h, fun _ _ h => .inl h, fun _ _ h => h⟩
/-- an object that no name owns is fixed -/
theorem Rel.fix (R : Rel c F T e g σ H) {p : Addr} {o : HO} (hp : H p = some o) (hF : F p = none) (hT : T p = none) (h1 : p ≠ c.L) (h2 : p ≠ c.C) : Rel c (upd F p o) T e g σ H where
  base := ⟨fun a u h => by
    by_cases q : a = p
    · subst q; rw [upd_same] at h; cases h; exact hp
    · rw [upd_ne q] at h; exact R.base.sub a u h, R.base.hL, R.base.hC, R.base.ne, by rw [upd_ne (Ne.symm h1)]; exact R.base.FL, by rw [upd_ne (Ne.symm h2)]; exact R.base.FC⟩
  TL := R.TL
  TC := R.TC
  dom := fun a i h => ⟨(R.dom a i h).1, by
    have q : a ≠ p := by rintro rfl; rw [hT] at h; cases h
    rw [upd_ne q]; exact (R.dom a i h).2⟩
  len := R.len
  slot := fun i sv h => by
    obtain ⟨v, h1, h2⟩ := R.slot i sv h
    exact ⟨v, h1, h2.mono (Sub.new hF) (fun _ q => q) fun _ _ _ q => q⟩
end

/-! ### results -/
/-- a value that is new, or data -/
def ORes (c : Cn) (H0 : Hp) (F : Hp) (T : Tm) (H : Hp) (v : V) : SV → Prop
  | .dat d => Rep c F v d
  | .own ds => ∃ a xs, v = .ref a ∧ H0 a = none ∧ F a = none ∧ T a = none ∧ H a = some (.lst xs) ∧ Reps c F xs ds
  | .owns dss => ∃ (a : Addr) (as : List Addr), v = .ref a ∧ H0 a = none ∧ F a = none ∧ T a = none ∧ H a = some (.lst (as.map V.ref)) ∧ (a :: as).Nodup ∧ as.length = dss.length ∧
      ∀ (j : Nat) b ds, as[j]? = some b → dss[j]? = some ds → H0 b = none ∧ F b = none ∧ T b = none ∧ ∃ xs, H b = some (.lst xs) ∧ Reps c F xs ds
  | .dk kvs => kvs = [] ∧ ∃ a, v = .ref a ∧ H0 a = none ∧ F a = none ∧ T a = none ∧ H a = some (.dK [])
  | .dt kvs => kvs = [] ∧ ∃ a, v = .ref a ∧ H0 a = none ∧ F a = none ∧ T a = none ∧ H a = some (.dT [])
/-- a value that is looked at -/
def PRes (c : Cn) (F : Hp) (H : Hp) (v : V) : SV → Prop
  | .dat d => Rep c F v d
  | .own ds => ∃ a xs, v = .ref a ∧ a ≠ c.L ∧ a ≠ c.C ∧ H a = some (.lst xs) ∧ Reps c F xs ds
  | .owns dss => ∃ (a : Addr) (as : List Addr), v = .ref a ∧ a ≠ c.L ∧ a ≠ c.C ∧ H a = some (.lst (as.map V.ref)) ∧ as.length = dss.length ∧
      ∀ (j : Nat) b ds, as[j]? = some b → dss[j]? = some ds → b ≠ c.L ∧ b ≠ c.C ∧ ∃ xs, H b = some (.lst xs) ∧ Reps c F xs ds
  | .dk kvs => ∃ a ws, v = .ref a ∧ a ≠ c.L ∧ a ≠ c.C ∧ H a = some (.dK ws) ∧ ws.length = kvs.length ∧ ∀ (j : Nat) kv w, kvs[j]? = some kv → ws[j]? = some w → w.1 = Sum.inl kv.1 ∧ Rep c F w.2 kv.2
  | .dt kvs => ∃ a ws, v = .ref a ∧ a ≠ c.L ∧ a ≠ c.C ∧ H a = some (.dT ws) ∧ ws.length = kvs.length ∧ ∀ (j : Nat) kv w, kvs[j]? = some kv → ws[j]? = some w → w.1 = [Sum.inl kv.1.1, Sum.inl kv.1.2] ∧ Rep c F w.2 kv.2
section
variable {c : Cn} {F F0 F1 F2 H0 : Hp} {T T1 T2 : Tm} {H H1 H2 : Hp} {e : Env} {g g0 : Rng} {σ : L2.St} {v : V}
theorem PRes.ext (x : Ext c F T H F1 T1 H1) : ∀ {sv : SV}, PRes c F H v sv → PRes c F1 H1 v sv
  | .dat d, h => by
    have h' : Rep c F v d := h
    exact Rep.mono x.f h'
  | .own _, h => by
    obtain ⟨a, xs, e, n1, n2, k, r⟩ := h
    exact ⟨a, xs, e, n1, n2, x.h a _ n1 n2 k, r.mono x.f⟩
  | .owns _, h => by
    obtain ⟨a, as, e, n1, n2, k, l, r⟩ := h
    refine ⟨a, as, e, n1, n2, x.h a _ n1 n2 k, l, fun j b ds h1 h2 => ?_⟩
    obtain ⟨m1, m2, xs, kb, rb⟩ := r j b ds h1 h2
    exact ⟨m1, m2, xs, x.h b _ m1 m2 kb, rb.mono x.f⟩
  | .dk _, h => by
    obtain ⟨a, ws, e, n1, n2, k, l, r⟩ := h
    exact ⟨a, ws, e, n1, n2, x.h a _ n1 n2 k, l, fun j kv w h1 h2 => ⟨(r j kv w h1 h2).1, (r j kv w h1 h2).2.mono x.f⟩⟩
  | .dt _, h => by
    obtain ⟨a, ws, e, n1, n2, k, l, r⟩ := h
    exact ⟨a, ws, e, n1, n2, x.h a _ n1 n2 k, l, fun j kv w h1 h2 => ⟨(r j kv w h1 h2).1, (r j kv w h1 h2).2.mono x.f⟩⟩
theorem keepsNew (x : Ext c F T H F1 T1 H1) {a : Addr} {o : HO} (h : H a = some o) (f : F a = none) (t : T a = none) : F1 a = none ∧ T1 a = none := by
  constructor
  · cases q : F1 a with
    | none => rfl
    | some u =>
      rcases x.g a u q with z | z | z
      · rw [f] at z; cases z
      · rw [h] at z; cases z
      · exact absurd t z
  · cases q : T1 a with
    | none => rfl
    | some i => rw [x.t a i q] at t; cases t
theorem ORes.ext (b : Base c F0 g0 H0) (x : Ext c F T H F1 T1 H1) : ∀ {sv : SV}, ORes c H0 F T H v sv → ORes c H0 F1 T1 H1 v sv
  | .dat d, h => by
    have h' : Rep c F v d := h
    exact Rep.mono x.f h'
  | .own _, h => by
    obtain ⟨a, xs, e, h0, f, t, k, r⟩ := h
    obtain ⟨f', t'⟩ := keepsNew x k f t
    exact ⟨a, xs, e, h0, f', t', x.h a _ (b.unL h0).1 (b.unL h0).2 k, r.mono x.f⟩
  | .owns _, h => by
    obtain ⟨a, as, e, h0, f, t, k, nd, l, r⟩ := h
    obtain ⟨f', t'⟩ := keepsNew x k f t
    refine ⟨a, as, e, h0, f', t', x.h a _ (b.unL h0).1 (b.unL h0).2 k, nd, l, fun j b' ds h1 h2 => ?_⟩
    obtain ⟨hb, fb, tb, xs, kb, rb⟩ := r j b' ds h1 h2
    obtain ⟨fb', tb'⟩ := keepsNew x kb fb tb
    exact ⟨hb, fb', tb', xs, x.h b' _ (b.unL hb).1 (b.unL hb).2 kb, rb.mono x.f⟩
  | .dk _, h => by
    obtain ⟨q, a, e, h0, f, t, k⟩ := h
    obtain ⟨f', t'⟩ := keepsNew x k f t
    exact ⟨q, a, e, h0, f', t', x.h a _ (b.unL h0).1 (b.unL h0).2 k⟩
  | .dt _, h => by
    obtain ⟨q, a, e, h0, f, t, k⟩ := h
    obtain ⟨f', t'⟩ := keepsNew x k f t
    exact ⟨q, a, e, h0, f', t', x.h a _ (b.unL h0).1 (b.unL h0).2 k⟩
theorem ORes.look (b : Base c F0 g0 H0) : ∀ {sv : SV}, ORes c H0 F T H v sv → PRes c F H v sv
  | .dat d, h => by
    have h' : Rep c F v d := h
    exact h'
  | .own _, h => by
    obtain ⟨a, xs, e, h0, f, t, k, r⟩ := h
    exact ⟨a, xs, e, (b.unL h0).1, (b.unL h0).2, k, r⟩
  | .owns _, h => by
    obtain ⟨a, as, e, h0, f, t, k, nd, l, r⟩ := h
    refine ⟨a, as, e, (b.unL h0).1, (b.unL h0).2, k, l, fun j b' ds h1 h2 => ?_⟩
    obtain ⟨hb, fb, tb, xs, kb, rb⟩ := r j b' ds h1 h2
    exact ⟨(b.unL hb).1, (b.unL hb).2, xs, kb, rb⟩
  | .dk _, h => by
    obtain ⟨q, a, e, h0, f, t, k⟩ := h
    subst q
    exact ⟨a, [], e, (b.unL h0).1, (b.unL h0).2, k, rfl, fun j kv w h1 _ => by simp at h1⟩
  | .dt _, h => by
    obtain ⟨q, a, e, h0, f, t, k⟩ := h
    subst q
    exact ⟨a, [], e, (b.unL h0).1, (b.unL h0).2, k, rfl, fun j kv w h1 _ => by simp at h1⟩
/-- a later start -/
theorem ORes.start (n : ∀ a, H1 a = none → H0 a = none) : ∀ {sv : SV}, ORes c H1 F T H v sv → ORes c H0 F T H v sv
  | .dat d, h => by
    have h' : Rep c F v d := h
    exact h'
  | .own _, h => by
    obtain ⟨a, xs, e, h0, r⟩ := h
    exact ⟨a, xs, e, n a h0, r⟩
  | .owns _, h => by
    obtain ⟨a, as, e, h0, f, t, k, nd, l, r⟩ := h
    refine ⟨a, as, e, n a h0, f, t, k, nd, l, fun j b' ds h1 h2 => ?_⟩
    obtain ⟨hb, rb⟩ := r j b' ds h1 h2
    exact ⟨n b' hb, rb⟩
  | .dk _, h => by
    obtain ⟨q, a, e, h0, r⟩ := h
    exact ⟨q, a, e, n a h0, r⟩
  | .dt _, h => by
    obtain ⟨q, a, e, h0, r⟩ := h
    exact ⟨q, a, e, n a h0, r⟩
end

/-! ### what a combinator means -/
/-- an error x in the air: its class, its own dict -/
def XRep (c : Cn) (F H : Hp) (x : Exn) (cls : Value) (d : Option Addr) : Prop :=
  ∃ f, c.fa x.c = some f ∧ cls = .ref f ∧ ((x.fs = [] ∧ d = none) ∨ x.fs ≠ [] ∧ ∃ dd fs, d = some dd ∧ H dd = some (.xd fs) ∧ F dd = none ∧ fs.map (·.1) = x.fs.map (·.1) ∧ Reps c F (fs.map (·.2)) (x.fs.map (·.2)))
def Post (c : Cn) (W : WX) (σ : L2.St) (F : Hp) (T : Tm) (H : Hp) {α : Type} (r : Res α) (K : α → Hp → Tm → Hp → Env → Rng → Prop) : Prop :=
  match r with
  | .ok a e' g' => ∀ F' T' H', Rel c F' T' e' g' σ H' → Ext c F T H F' T' H' → K a F' T' H' e' g'
  | .exc x e' g' => ∀ cls d F' T' H', Rel c F' T' e' g' σ H' → Ext c F T H F' T' H' → XRep c F' H' x cls d → W cls d σ H'
  | .stuck => False
section
variable {c : Cn} {W : WX} {σ : L2.St} {F F1 : Hp} {T T1 : Tm} {H H1 : Hp} {α β : Type}
theorem Post.imp {r : Res α} {K K' : α → Hp → Tm → Hp → Env → Rng → Prop} (h : Post c W σ F T H r K) (k : ∀ a F' T' H' e' g', Rel c F' T' e' g' σ H' → Ext c F T H F' T' H' → K a F' T' H' e' g' → K' a F' T' H' e' g') : Post c W σ F T H r K' := by
  cases r with
  | ok a e' g' => exact fun F' T' H' R x => k a F' T' H' e' g' R x (h F' T' H' R x)
  | exc x e' g' => exact h
  | stuck => exact h
theorem Post.bind {r : Res α} {f : α → M β} {K : β → Hp → Tm → Hp → Env → Rng → Prop} (h : Post c W σ F T H (r.bind f) K) :
    Post c W σ F T H r fun a F1 T1 H1 e1 g1 => Post c W σ F1 T1 H1 (f a e1 g1) K := by
  cases r with
  | ok a e' g' =>
    intro F1 T1 H1 R1 x1
    have h' : Post c W σ F T H (f a e' g') K := h
    cases q : f a e' g' with
    | ok b e2 g2 => rw [q] at h'; exact fun F' T' H' R x => h' F' T' H' R (x1.trans x)
    | exc x e2 g2 => rw [q] at h'; exact fun cls d F' T' H' R x => h' cls d F' T' H' R (x1.trans x)
    | stuck => rw [q] at h'; exact h'
  | exc x e' g' => exact h
  | stuck => exact h
theorem Post.ret {a : α} {e : Env} {g : Rng} {K : α → Hp → Tm → Hp → Env → Rng → Prop} (R : Rel c F T e g σ H) (h : Post c W σ F T H (.ok a e g) K) : K a F T H e g := h F T H R .refl
theorem Post.opt {o : Option α} {e : Env} {g : Rng} {K : α → Hp → Tm → Hp → Env → Rng → Prop} (h : Post c W σ F T H (mOpt o e g) K) : ∃ a, o = some a ∧ Post c W σ F T H (.ok a e g) K := by
  cases o with
  | none => exact h.elim
  | some a => exact ⟨a, rfl, h⟩
end

/-- the readings: a new value or data; a look; data for keeps; a test -/
def tO (c : Cn) (W : WX) (m : M SV) : TE := fun σ H Q => ∃ F T e g, Rel c F T e g σ H ∧ Post c W σ F T H (m e g) fun sv F' T' H' _ _ => ∀ v, ORes c H F' T' H' v sv → Q v H'
def tP (c : Cn) (W : WX) (m : M SV) : TE := fun σ H Q => ∃ F T e g, Rel c F T e g σ H ∧ Post c W σ F T H (m e g) fun sv F' T' H' _ _ => ∀ v, PRes c F' H' v sv → Q v H'
def tV (c : Cn) (W : WX) (m : M D) : TE := fun σ H Q => ∃ F T e g, Rel c F T e g σ H ∧ Post c W σ F T H (m e g) fun d F' T' H' _ _ => ∀ v, Rep c F' v d → Q v H'
def tT (c : Cn) (W : WX) (m : M Bool) : TT := fun σ H Q => ∃ F T e g, Rel c F T e g σ H ∧ Post c W σ F T H (m e g) fun b F' T' H' _ _ => Q b H'
def tA (c : Cn) (W : WX) (m : M (List D)) : TA := fun σ H Q => ∃ F T e g, Rel c F T e g σ H ∧ Post c W σ F T H (m e g) fun ds F' T' H' _ _ => ∀ vs, Reps c F' vs ds → Q vs H'
end PV
set_option Elab.async false
set_option linter.all false
set_option maxRecDepth 100000
set_option maxHeartbeats 4000000
/-! PV3: names, constants, operators, comparisons: each combinator's reading is had from the text's. -/
namespace PV
open PySem L2 PySem.Spec PyProof.Rows

/-! ### consequence -/
section
variable {X : Cx} {e : Expr}
theorem peImp {t t' : TE} (h : PE X e t) (k : ∀ σ H Q, t' σ H Q → t σ H Q) : PE X e t' := ⟨fun pins s σ H Q I q => h.run pins s σ H Q I (k σ H Q q)⟩
theorem ptImp {t t' : TT} (h : PT X e t) (k : ∀ σ H Q, t' σ H Q → t σ H Q) : PT X e t' := ⟨fun pins s σ H Q I q => h.run pins s σ H Q I (k σ H Q q)⟩
theorem pwImp {t t' : TT} (h : PW X e t) (k : ∀ σ H Q, t' σ H Q → t σ H Q) : PW X e t' := ⟨fun w pins s σ H Q I q => h.run w pins s σ H Q I (k σ H Q q)⟩
theorem paImp {es : List Expr} {t t' : TA} (h : PA X es t) (k : ∀ σ H Q, t' σ H Q → t σ H Q) : PA X es t' := ⟨fun p pins s σ H Q I q => h.run p pins s σ H Q I (k σ H Q q)⟩
end

section
variable {c : Cn} {W : WX} {σ : L2.St} {F F1 : Hp} {T T1 : Tm} {H H0 H1 : Hp} {e : Env} {g : Rng} {α : Type}
/-- behind a step: what is left to do, with the first's outcome in hand -/
theorem goP {m : M SV} {f : SV → M α} {K : α → Hp → Tm → Hp → Env → Rng → Prop} {Q : VK} (R : Rel c F T e g σ H) (h : Post c W σ F T H (mBind m f e g) K)
    (k : ∀ sv v F1 T1 H1 e1 g1, Rel c F1 T1 e1 g1 σ H1 → Ext c F T H F1 T1 H1 → PRes c F1 H1 v sv → Post c W σ F1 T1 H1 (f sv e1 g1) K → Q v H1) : tP c W m σ H Q :=
  ⟨F, T, e, g, R, (Post.bind h).imp fun sv F1 T1 H1 e1 g1 R1 x1 h1 v p => k sv v F1 T1 H1 e1 g1 R1 x1 p h1⟩
theorem goV {m : M D} {f : D → M α} {K : α → Hp → Tm → Hp → Env → Rng → Prop} {Q : VK} (R : Rel c F T e g σ H) (h : Post c W σ F T H (mBind m f e g) K)
    (k : ∀ d v F1 T1 H1 e1 g1, Rel c F1 T1 e1 g1 σ H1 → Ext c F T H F1 T1 H1 → Rep c F1 v d → Post c W σ F1 T1 H1 (f d e1 g1) K → Q v H1) : tV c W m σ H Q :=
  ⟨F, T, e, g, R, (Post.bind h).imp fun sv F1 T1 H1 e1 g1 R1 x1 h1 v p => k sv v F1 T1 H1 e1 g1 R1 x1 p h1⟩
theorem goO {m : M SV} {f : SV → M α} {K : α → Hp → Tm → Hp → Env → Rng → Prop} {Q : VK} (R : Rel c F T e g σ H) (h : Post c W σ F T H (mBind m f e g) K)
    (k : ∀ sv v F1 T1 H1 e1 g1, Rel c F1 T1 e1 g1 σ H1 → Ext c F T H F1 T1 H1 → ORes c H F1 T1 H1 v sv → Post c W σ F1 T1 H1 (f sv e1 g1) K → Q v H1) : tO c W m σ H Q :=
  ⟨F, T, e, g, R, (Post.bind h).imp fun sv F1 T1 H1 e1 g1 R1 x1 h1 v p => k sv v F1 T1 H1 e1 g1 R1 x1 p h1⟩
theorem goT {m : M Bool} {f : Bool → M α} {K : α → Hp → Tm → Hp → Env → Rng → Prop} {Q : Bool → Hp → Prop} (R : Rel c F T e g σ H) (h : Post c W σ F T H (mBind m f e g) K)
    (k : ∀ b F1 T1 H1 e1 g1, Rel c F1 T1 e1 g1 σ H1 → Ext c F T H F1 T1 H1 → Post c W σ F1 T1 H1 (f b e1 g1) K → Q b H1) : tT c W m σ H Q :=
  ⟨F, T, e, g, R, (Post.bind h).imp fun b F1 T1 H1 e1 g1 R1 x1 h1 => k b F1 T1 H1 e1 g1 R1 x1 h1⟩
theorem goA {m : M (List D)} {f : List D → M α} {K : α → Hp → Tm → Hp → Env → Rng → Prop} {Q : List V → Hp → Prop} (R : Rel c F T e g σ H) (h : Post c W σ F T H (mBind m f e g) K)
    (k : ∀ ds vs F1 T1 H1 e1 g1, Rel c F1 T1 e1 g1 σ H1 → Ext c F T H F1 T1 H1 → Reps c F1 vs ds → Post c W σ F1 T1 H1 (f ds e1 g1) K → Q vs H1) : tA c W m σ H Q :=
  ⟨F, T, e, g, R, (Post.bind h).imp fun sv F1 T1 H1 e1 g1 R1 x1 h1 v p => k sv v F1 T1 H1 e1 g1 R1 x1 p h1⟩
theorem Post.bind0 {β : Type} {r : Res β} {f : β → M α} {K : α → Hp → Tm → Hp → Env → Rng → Prop} (h : Post c W σ F T H (r.bind f) K) :
    Post c W σ F T H r fun a _ _ _ e1 g1 => Post c W σ F T H (f a e1 g1) K := by
  cases r with
  | ok a e' g' => exact fun _ _ _ _ _ => h
  | exc x e' g' => exact h
  | stuck => exact h
theorem Post.optBind {β : Type} {o : Option β} {f : β → M α} {K : α → Hp → Tm → Hp → Env → Rng → Prop} (h : Post c W σ F T H (mBind (mOpt o) f e g) K) : ∃ a, o = some a ∧ Post c W σ F T H (f a e g) K := by
  cases o with
  | none => exact h.elim
  | some a => exact ⟨a, rfl, h⟩
/-- an outcome that leaves the state -/
theorem doneQ {a : α} {K : α → Hp → Tm → Hp → Env → Rng → Prop} (R : Rel c F T e g σ H) (h : Post c W σ F T H (.ok a e g) K) : K a F T H e g := h F T H R .refl
/-- an outcome with a new object -/
theorem doneN {a : α} {K : α → Hp → Tm → Hp → Env → Rng → Prop} {p : Addr} {o : HO} (R : Rel c F T e g σ H) (hp : H p = none) (h : Post c W σ F T H (.ok a e g) K) : K a F T (upd H p o) e g := h F T _ (R.alloc hp) (.alloc hp)
/-- .. that is fixed at once -/
theorem Rel.put (R : Rel c F T e g σ H) {p : Addr} {o : HO} (hp : H p = none) : Rel c (upd F p o) T e g σ (upd H p o) :=
  (R.alloc hp).fix upd_same (R.base.free hp) (R.tfree hp) (R.base.unL hp).1 (R.base.unL hp).2
theorem Ext.put {p : Addr} {o : HO} (hF : F p = none) (hp : H p = none) : Ext c F T H (upd F p o) T (upd H p o) :=
  ⟨Sub.new hF, (Ext.alloc (c := c) (F := F) (T := T) hp).h, (Ext.alloc (c := c) (F := F) (T := T) hp).n, fun a u h => by
    by_cases q : a = p
    · subst q; exact .inr (.inl hp)
    · rw [upd_ne q] at h; exact .inl h, fun _ _ h => h⟩
theorem doneF {a : α} {K : α → Hp → Tm → Hp → Env → Rng → Prop} {p : Addr} {o : HO} (R : Rel c F T e g σ H) (hp : H p = none) (h : Post c W σ F T H (.ok a e g) K) : K a (upd F p o) T (upd H p o) e g :=
  h _ T _ (R.put hp) (.put (R.base.free hp) hp)
theorem fixExt {p : Addr} {o : HO} (hF : F p = none) (h0 : H p = none ∨ T p ≠ none) : Ext c F T H (upd F p o) T H :=
  ⟨Sub.new hF, fun _ _ _ _ h => h, fun _ h => h, fun a u h => by
    by_cases q : a = p
    · subst q; exact .inr h0
    · rw [upd_ne q] at h; exact .inl h, fun _ _ h => h⟩
/-- a new value that may change is data when it is fixed -/
theorem ORes.frz {sv : SV} {v : V} {d : D} (R0 : Base c F0 g0 H0) (R : Rel c F T e g σ H) (h : ORes c H0 F T H v sv) (hd : sv.frz = some d) :
    ∃ F', Rel c F' T e g σ H ∧ Sub F F' ∧ (∀ a o, F' a = some o → F a = some o ∨ H0 a = none) ∧ Rep c F' v d := by
  cases sv with
  | dat d' =>
    cases hd
    exact ⟨F, R, Sub.refl _, fun _ _ q => .inl q, h⟩
  | own ds =>
    cases hd
    obtain ⟨a, xs, rfl, h0, f, t, k, r⟩ := h
    refine ⟨upd F a (.lst xs), R.fix k f t (R0.unL h0).1 (R0.unL h0).2, Sub.new f, fun b o q => ?_, .lst upd_same (r.mono (Sub.new f))⟩
    show F b = some o ∨ H0 b = none
    by_cases z : b = a
    · subst z; exact .inr h0
    · rw [upd_ne z] at q; exact .inl q
  | owns _ => cases hd
  | dk _ => cases hd
  | dt _ => cases hd
end

section
variable {X : Cx} {c : Cn} {W : WX} {e : Expr} {m : M SV}
theorem se_look (h : PE X e (tO c W m)) : PE X e (tP c W m) := peImp h fun σ H Q ⟨F, T, en, g, R, p⟩ => ⟨F, T, en, g, R, p.imp fun sv F' T' H' _ _ _ _ k v o => k v (o.look R.base)⟩
theorem se_frz (h : PE X e (tO c W m)) : PE X e (tV c W (mFrz m)) := peImp h fun σ H Q ⟨F, T, en, g, R, p⟩ => by
  refine ⟨F, T, en, g, R, (Post.bind0 p).imp fun sv F1 T1 H1 e1 g1 R1 x1 q v o => ?_⟩
  obtain ⟨d, hd, q⟩ := Post.opt q
  obtain ⟨F2, R2, s2, n2, r2⟩ := o.frz R.base R1 hd
  refine q F2 T1 H1 R2 ⟨x1.f.trans s2, x1.h, x1.n, fun a u z => ?_, x1.t⟩ v r2
  rcases n2 a u z with z | z
  · exact x1.g a u z
  · exact .inr (.inl z)
end

/-! ### names, constants -/
section
variable {c : Cn} {W : WX} {σ : L2.St} {F : Hp} {T : Tm} {H : Hp} {e : Env} {g : Rng}
theorem Rel.tneL (R : Rel c F T e g σ H) {a : Addr} {i : Nat} (h : T a = some i) : a ≠ c.L ∧ a ≠ c.C := by
  constructor
  · rintro rfl; rw [R.TL] at h; cases h
  · rintro rfl; rw [R.TC] at h; cases h
theorem Rel.look (R : Rel c F T e g σ H) {i : Nat} {v : V} : ∀ {sv : SV}, SlotRep c F T H i v sv → PRes c F H v sv
  | .dat d, h => by
    have h' : Rep c F v d := h
    exact h'
  | .own _, h => by
    obtain ⟨a, xs, e, t, k, r⟩ := h
    exact ⟨a, xs, e, (R.tneL t).1, (R.tneL t).2, k, r⟩
  | .owns _, h => by
    obtain ⟨a, as, e, t, k, nd, l, r⟩ := h
    refine ⟨a, as, e, (R.tneL t).1, (R.tneL t).2, k, l, fun j b ds h1 h2 => ?_⟩
    obtain ⟨tb, xs, kb, rb⟩ := r j b ds h1 h2
    exact ⟨(R.tneL tb).1, (R.tneL tb).2, xs, kb, rb⟩
  | .dk _, h => by
    obtain ⟨a, ws, e, t, k, l, r⟩ := h
    exact ⟨a, ws, e, (R.tneL t).1, (R.tneL t).2, k, l, r⟩
  | .dt _, h => by
    obtain ⟨a, ws, e, t, k, l, r⟩ := h
    exact ⟨a, ws, e, (R.tneL t).1, (R.tneL t).2, k, l, r⟩
/-- a row by its places -/
theorem Reps.ofGet {c : Cn} {F : Hp} : ∀ {vs : List V} {ds : List D}, vs.length = ds.length → (∀ (j : Nat) v d, vs[j]? = some v → ds[j]? = some d → Rep c F v d) → Reps c F vs ds
  | [], [], _, _ => .nil
  | v :: vs, d :: ds, hl, h => .cons (h 0 v d rfl rfl) (Reps.ofGet (by simpa using hl) fun j v' d' h1 h2 => h (j + 1) v' d' (by simpa using h1) (by simpa using h2))
  | [], _ :: _, hl, _ => by simp at hl
  | _ :: _, [], hl, _ => by simp at hl
/-- what slot i holds is fixed -/
def frzF (F : Hp) (T : Tm) (H : Hp) (i : Nat) : Hp := fun b => if T b = some i then H b else F b
def frzT (T : Tm) (i : Nat) : Tm := fun b => if T b = some i then none else T b
theorem Rel.frzSub (R : Rel c F T e g σ H) (i : Nat) : Sub F (frzF F T H i) := fun a o h => by
  unfold frzF
  by_cases q : T a = some i
  · rw [(R.dom a i q).2] at h; cases h
  · rw [if_neg q]; exact h
theorem Rel.frzExt (R : Rel c F T e g σ H) (i : Nat) : Ext c F T H (frzF F T H i) (frzT T i) H :=
  ⟨R.frzSub i, fun _ _ _ _ h => h, fun _ h => h, fun a o h => by
    unfold frzF at h
    by_cases q : T a = some i
    · exact .inr (.inr (by rw [q]; simp))
    · rw [if_neg q] at h; exact .inl h, fun a j h => by
    unfold frzT at h
    by_cases q : T a = some i
    · rw [if_pos q] at h; cases h
    · rw [if_neg q] at h; exact h⟩
theorem Rel.frzRel (R : Rel c F T e g σ H) {i : Nat} {d : D} {v : V} (hv : σ[i]? = some (some v)) (r : Rep c (frzF F T H i) v d) : Rel c (frzF F T H i) (frzT T i) (e.set i (some (.dat d))) g σ H where
  base := ⟨fun a o h => by
    unfold frzF at h
    by_cases q : T a = some i
    · rw [if_pos q] at h; exact h
    · rw [if_neg q] at h; exact R.base.sub a o h, R.base.hL, R.base.hC, R.base.ne, by
    unfold frzF; rw [if_neg (by rw [R.TL]; simp)]; exact R.base.FL, by
    unfold frzF; rw [if_neg (by rw [R.TC]; simp)]; exact R.base.FC⟩
  TL := by unfold frzT; rw [if_neg (by rw [R.TL]; simp)]; exact R.TL
  TC := by unfold frzT; rw [if_neg (by rw [R.TC]; simp)]; exact R.TC
  dom := fun a j h => by
    unfold frzT at h
    by_cases q : T a = some i
    · rw [if_pos q] at h; cases h
    · rw [if_neg q] at h
      refine ⟨(R.dom a j h).1, ?_⟩
      unfold frzF; rw [if_neg q]; exact (R.dom a j h).2
  len := by rw [List.length_set]; exact R.len
  slot := fun j sv h => by
    by_cases hj : j = i
    · subst hj
      rw [List.getElem?_set_self (by
        have := (List.getElem?_eq_some_iff.mp hv).1
        rw [R.len]; exact this)] at h
      cases h
      exact ⟨v, hv, r⟩
    · rw [List.getElem?_set_ne (Ne.symm hj)] at h
      obtain ⟨w, h1, h2⟩ := R.slot j sv h
      refine ⟨w, h1, h2.mono (R.frzSub i) (fun a q => ?_) fun _ _ _ q => q⟩
      unfold frzT
      rw [if_neg (by rw [q]; intro z; exact hj (Option.some.inj z))]
      exact q
theorem Rel.frzOwn (R : Rel c F T e g σ H) {i : Nat} {v : V} {ds : List D} (h : SlotRep c F T H i v (.own ds)) : Rep c (frzF F T H i) v (.lst ds) := by
  obtain ⟨a, xs, rfl, t, k, r⟩ := h
  exact .lst (by unfold frzF; rw [if_pos t]; exact k) (r.mono (R.frzSub i))
theorem Rel.frzOwns (R : Rel c F T e g σ H) {i : Nat} {v : V} {dss : List (List D)} (h : SlotRep c F T H i v (.owns dss)) : Rep c (frzF F T H i) v (.lst (dss.map .lst)) := by
  obtain ⟨a, as, rfl, t, k, nd, l, r⟩ := h
  refine .lst (xs := as.map V.ref) (by unfold frzF; rw [if_pos t]; exact k) (Reps.ofGet (by simpa using l) fun j w d h1 h2 => ?_)
  rw [List.getElem?_map] at h1 h2
  cases e1 : as[j]? with
  | none => rw [e1] at h1; cases h1
  | some b =>
    cases e2 : dss[j]? with
    | none => rw [e2] at h2; cases h2
    | some ds =>
      rw [e1] at h1; rw [e2] at h2
      cases h1; cases h2
      obtain ⟨tb, xs, kb, rb⟩ := r j b ds e1 e2
      exact .lst (by unfold frzF; rw [if_pos tb]; exact kb) (rb.mono (R.frzSub i))
end
section
variable {X : Cx} {c : Cn} {W : WX} {i : Nat} {x : Str} {pos : Pos}
theorem se_varP (hN : X.N[i]? = some x) (hv : Vis X.env.scope x) (hd : (x == ("__debug__" : Str)) = false) (hcd : (x == ("__classdict__" : Str)) = false) : PE X (.Name x pos) (tP c W (mVarP i)) :=
  peImp (pe_var hN hv hd hcd) fun σ H Q ⟨F, T, e, g, R, p⟩ => by
    unfold mVarP at p
    split at p
    · rename_i sv q
      obtain ⟨v, h1, h2⟩ := R.slot i sv q
      exact ⟨v, h1, doneQ R p v (R.look h2)⟩
    · exact p.elim
theorem se_varF (hN : X.N[i]? = some x) (hv : Vis X.env.scope x) (hd : (x == ("__debug__" : Str)) = false) (hcd : (x == ("__classdict__" : Str)) = false) : PE X (.Name x pos) (tO c W (mVarF i)) :=
  peImp (pe_var hN hv hd hcd) fun σ H Q ⟨F, T, e, g, R, p⟩ => by
    unfold mVarF at p
    split at p
    · rename_i sv q
      obtain ⟨v, h1, h2⟩ := R.slot i sv q
      refine ⟨v, h1, ?_⟩
      cases sv with
      | dat d => exact doneQ R p v h2
      | own ds => exact p _ _ H (R.frzRel h1 (R.frzOwn h2)) (R.frzExt i) v (R.frzOwn h2)
      | owns dss => exact p _ _ H (R.frzRel h1 (R.frzOwns h2)) (R.frzExt i) v (R.frzOwns h2)
      | dk _ => exact p.elim
      | dt _ => exact p.elim
    · exact p.elim
theorem se_int {n : Int} {k : Nat} : PE X (.Constant (.int n) k pos) (tO c W (mC (.int n))) := peImp pe_int fun σ H Q ⟨F, T, e, g, R, p⟩ => doneQ R p _ (.int n)
theorem se_bl {b : Bool} {k : Nat} : PE X (.Constant (.bool b) k pos) (tO c W (mC (.bl b))) := peImp pe_bl fun σ H Q ⟨F, T, e, g, R, p⟩ => doneQ R p _ (.bl b)
theorem se_non {k : Nat} : PE X (.Constant .none k pos) (tO c W (mC .non)) := peImp pe_non fun σ H Q ⟨F, T, e, g, R, p⟩ => doneQ R p _ .non
theorem se_str {s : Str} {k : Nat} : PE X (.Constant (.str s) k pos) (tO c W (mC (.str s))) := peImp pe_str fun σ H Q ⟨F, T, e, g, R, p⟩ => doneQ R p _ (.str s)
/-- a module's whole number, a def or class of the text -/
theorem se_globI {n : Int} {t : Tok} (hg : Gl X x) (hm : X.mg x = some (.int n t)) (hd : (x == ("__debug__" : Str)) = false) : PE X (.Name x pos) (tO c W (mC (.int n))) :=
  peImp (pe_glob (v := .int n) hg hm ⟨t, rfl⟩ hd) fun σ H Q ⟨F, T, e, g, R, p⟩ => doneQ R p _ (.int n)
theorem se_globF {f : Addr} (hg : Gl X x) (hm : X.mg x = some (.ref f)) (hf : c.fa x = some f) (hd : (x == ("__debug__" : Str)) = false) : PE X (.Name x pos) (tO c W (mC (.fn x))) :=
  peImp (pe_glob (v := .ref f) hg hm rfl hd) fun σ H Q ⟨F, T, e, g, R, p⟩ => doneQ R p _ (.fn hf)
end

/-! ### looks at values -/
section
variable {c : Cn} {W : WX} {σ : L2.St} {F : Hp} {T : Tm} {H : Hp} {e : Env} {g : Rng} {K : PySem.W.Frag}
theorem PRes.listAt (b : Base c F g H) {v : V} : ∀ {sv : SV} {ds : List D}, PRes c F H v sv → sv.list = some ds → ∃ a xs, v = .ref a ∧ H a = some (.lst xs) ∧ Reps c F xs ds
  | .dat d, ds, h, q => by
    have h' : Rep c F v d := h
    cases d with
    | lst es => cases q; cases h' with | lst k r => exact ⟨_, _, rfl, b.sub _ _ k, r⟩
    | _ => cases q
  | .own es, ds, h, q => by
    cases q
    obtain ⟨a, xs, e, _, _, k, r⟩ := h
    exact ⟨a, xs, e, k, r⟩
  | .owns _, _, _, q => by cases q
  | .dk _, _, _, q => by cases q
  | .dt _, _, _, q => by cases q
theorem PRes.seqAt (b : Base c F g H) {v : V} : ∀ {sv : SV} {ds : List D}, PRes c F H v sv → sv.seq = some ds → ∃ a xs, v = .ref a ∧ (H a = some (.lst xs) ∨ H a = some (.tup xs)) ∧ Reps c F xs ds
  | .dat d, ds, h, q => by
    have h' : Rep c F v d := h
    cases d with
    | lst es => cases q; cases h' with | lst k r => exact ⟨_, _, rfl, .inl (b.sub _ _ k), r⟩
    | tup es => cases q; cases h' with | tup k r => exact ⟨_, _, rfl, .inr (b.sub _ _ k), r⟩
    | _ => cases q
  | .own es, ds, h, q => by
    cases q
    obtain ⟨a, xs, e, _, _, k, r⟩ := h
    exact ⟨a, xs, e, .inl k, r⟩
  | .owns _, _, _, q => by cases q
  | .dk _, _, _, q => by cases q
  | .dt _, _, _, q => by cases q
theorem seqOr {a : Addr} {xs : List V} (h : H a = some (.lst xs) ∨ H a = some (.tup xs)) : SqL K H a xs ∨ SqT K H a xs := h.elim (fun q => .inl (.of q)) fun q => .inr (.of q)
/-- a new object is new since the start -/
theorem newSince {F1 : Hp} {T1 : Tm} {H1 : Hp} (x : Ext c F T H F1 T1 H1) {p : Addr} (h : H1 p = none) : H p = none := x.n p h
end
end PV
set_option Elab.async false
set_option linter.all false
set_option maxRecDepth 100000
set_option maxHeartbeats 4000000
/-! PV4: operators and comparisons. -/
namespace PV
open PySem L2 PySem.Spec PyProof.Rows

/-! ### data as the library's data -/
theorem fine_all {n : Nat} {ds : List D} (h : ds.all (D.fine n) = true) : ∀ d ∈ ds, d.fine n = true := List.all_eq_true.mp h
mutual
theorem fine_py : ∀ (n : Nat) (d : D), d.fine n = true → ∃ p, d.py = some p ∧ p.canLay0 = true ∧ p.depth ≤ n
  | _, .non, _ => ⟨.none, by simp [D.py], rfl, by simp [PyData.depth]⟩
  | _, .bl b, _ => ⟨.bool b, by simp [D.py], rfl, by simp [PyData.depth]⟩
  | _, .int i, _ => ⟨.int i, by simp [D.py], rfl, by simp [PyData.depth]⟩
  | n, .str x, h => ⟨.str x, by simp [D.py], by cases n <;> exact h, by simp [PyData.depth]⟩
  | 0, .tup _, h => by simp [D.fine] at h
  | 0, .lst _, h => by simp [D.fine] at h
  | n + 1, .tup ds, h => by
    obtain ⟨ps, e, l, k⟩ := fine_pys n ds (by simpa [D.fine] using h)
    exact ⟨.tuple ps, by simp [D.py, e], by simpa [PyData.canLay0] using l, by simp only [PyData.depth]; omega⟩
  | n + 1, .lst ds, h => by
    obtain ⟨ps, e, l, k⟩ := fine_pys n ds (by simpa [D.fine] using h)
    exact ⟨.list ps, by simp [D.py, e], by simpa [PyData.canLay0] using l, by simp only [PyData.depth]; omega⟩
  | n, .mdl _, h => by cases n <;> simp [D.fine] at h
  | n, .hnd, h => by cases n <;> simp [D.fine] at h
  | n, .fn _, h => by cases n <;> simp [D.fine] at h
  | n, .exc _ _, h => by cases n <;> simp [D.fine] at h
theorem fine_pys : ∀ (n : Nat) (ds : List D), ds.all (D.fine n) = true → ∃ ps, D.pys ds = some ps ∧ PyData.canLayAll0 ps = true ∧ PyData.depthAll ps ≤ n
  | _, [], _ => ⟨[], by simp [D.pys], by simp [PyData.canLayAll0], by simp [PyData.depthAll]⟩
  | n, d :: ds, h => by
    have h1 : d.fine n = true := fine_all h d List.mem_cons_self
    have h2 : ds.all (D.fine n) = true := by
      rw [List.all_cons, Bool.and_eq_true] at h
      exact h.2
    obtain ⟨p, e1, l1, k1⟩ := fine_py n d h1
    obtain ⟨ps, e2, l2, k2⟩ := fine_pys n ds h2
    exact ⟨p :: ps, by simp [D.pys, e1, e2], by simp [PyData.canLayAll0, l1, l2], by simp only [PyData.depthAll]; omega⟩
end
mutual
theorem eqv_py : ∀ (x y : D) (p q : PyData), x.py = some p → y.py = some q → PyData.eqv p q = x.eqv y
  | .non, y, p, q, h1, h2 => by
    simp [D.py] at h1; subst h1
    cases y <;> simp [D.py] at h2 <;> (try (obtain ⟨_, _, h2⟩ := h2)) <;> (try subst h2) <;> simp [PyData.eqv, D.eqv]
  | .bl b, y, p, q, h1, h2 => by
    simp [D.py] at h1; subst h1
    cases y <;> simp [D.py] at h2 <;> (try (obtain ⟨_, _, h2⟩ := h2)) <;> (try subst h2) <;> simp [PyData.eqv, D.eqv]
  | .int i, y, p, q, h1, h2 => by
    simp [D.py] at h1; subst h1
    cases y <;> simp [D.py] at h2 <;> (try (obtain ⟨_, _, h2⟩ := h2)) <;> (try subst h2) <;> simp [PyData.eqv, D.eqv]
  | .str s, y, p, q, h1, h2 => by
    simp [D.py] at h1; subst h1
    cases y <;> simp [D.py] at h2 <;> (try (obtain ⟨_, _, h2⟩ := h2)) <;> (try subst h2) <;> simp [PyData.eqv, D.eqv]
  | .tup xs, y, p, q, h1, h2 => by
    simp [D.py] at h1
    obtain ⟨ps, e1, h1⟩ := h1
    subst h1
    cases y with
    | tup ys =>
      simp [D.py] at h2
      obtain ⟨qs, e2, h2⟩ := h2
      subst h2
      simp only [PyData.eqv, D.eqv]
      exact eqv_pys xs ys ps qs e1 e2
    | _ => simp [D.py] at h2 <;> (try (obtain ⟨_, _, h2⟩ := h2)) <;> (try subst h2) <;> simp [PyData.eqv, D.eqv]
  | .lst xs, y, p, q, h1, h2 => by
    simp [D.py] at h1
    obtain ⟨ps, e1, h1⟩ := h1
    subst h1
    cases y with
    | lst ys =>
      simp [D.py] at h2
      obtain ⟨qs, e2, h2⟩ := h2
      subst h2
      simp only [PyData.eqv, D.eqv]
      exact eqv_pys xs ys ps qs e1 e2
    | _ => simp [D.py] at h2 <;> (try (obtain ⟨_, _, h2⟩ := h2)) <;> (try subst h2) <;> simp [PyData.eqv, D.eqv]
  | .mdl _, _, _, _, h1, _ => by simp [D.py] at h1
  | .hnd, _, _, _, h1, _ => by simp [D.py] at h1
  | .fn _, _, _, _, h1, _ => by simp [D.py] at h1
  | .exc _ _, _, _, _, h1, _ => by simp [D.py] at h1
theorem eqv_pys : ∀ (xs ys : List D) (ps qs : List PyData), D.pys xs = some ps → D.pys ys = some qs → PyData.eqvAll ps qs = D.eqvs xs ys
  | [], ys, ps, qs, h1, h2 => by
    simp [D.pys] at h1; subst h1
    cases ys with
    | nil => simp [D.pys] at h2; subst h2; simp [PyData.eqvAll, D.eqvs]
    | cons y ys =>
      simp only [D.pys] at h2
      split at h2
      · cases h2; simp [PyData.eqvAll, D.eqvs]
      · cases h2
  | x :: xs, ys, ps, qs, h1, h2 => by
    simp only [D.pys] at h1
    split at h1
    · rename_i p ps' e1 e2
      cases h1
      cases ys with
      | nil => simp [D.pys] at h2; subst h2; simp [PyData.eqvAll, D.eqvs]
      | cons y ys =>
        simp only [D.pys] at h2
        split at h2
        · rename_i q qs' e3 e4
          cases h2
          simp only [PyData.eqvAll, D.eqvs]
          rw [eqv_py x y p q e1 e3, eqv_pys xs ys ps' qs' e2 e4]
        · cases h2
    · cases h1
end
section
variable {c : Cn} {F H : Hp} {K : PySem.W.Frag}
mutual
theorem Rep.dp (s : Sub F H) : ∀ {d : D} {v : V} {p : PyData}, Rep c F v d → d.py = some p → Dp K H v p
  | .non, _, p, h, e => by cases h; simp [D.py] at e; subst e; exact .non
  | .bl b, _, p, h, e => by cases h; simp [D.py] at e; subst e; exact .bl b
  | .int i, _, p, h, e => by cases h; simp [D.py] at e; subst e; exact .int i
  | .str x, _, p, h, e => by cases h; simp [D.py] at e; subst e; exact .str x
  | .tup ds, _, p, h, e => by
    simp [D.py] at e
    obtain ⟨ps, e, q⟩ := e
    subst q
    cases h with | tup k r => exact .tup (.of (s _ _ k)) (Reps.dp s r e)
  | .lst ds, _, p, h, e => by
    simp [D.py] at e
    obtain ⟨ps, e, q⟩ := e
    subst q
    cases h with | lst k r => exact .lst (.of (s _ _ k)) (Reps.dp s r e)
  | .mdl _, _, _, _, e => by simp [D.py] at e
  | .hnd, _, _, _, e => by simp [D.py] at e
  | .fn _, _, _, _, e => by simp [D.py] at e
  | .exc _ _, _, _, _, e => by simp [D.py] at e
theorem Reps.dp (s : Sub F H) : ∀ {ds : List D} {vs : List V} {ps : List PyData}, Reps c F vs ds → D.pys ds = some ps → DpAll K H vs ps
  | [], _, _, h, e => by cases h; simp [D.pys] at e; subst e; exact .nil
  | d :: ds, _, _, h, e => by
    simp only [D.pys] at e
    split at e
    · rename_i p ps e1 e2
      cases e
      cases h with | cons r rs => exact .cons (Rep.dp s r e1) (Reps.dp s rs e2)
    · cases e
end
end
theorem shaped_of {p : PyData} (h1 : p.canLay0 = true) (h2 : p.depth ≤ 64) : SeqAt.shaped p = true := by
  unfold SeqAt.shaped
  rw [h1, decide_eq_true h2]; rfl
/-- a list's items for a look: the list as data -/
theorem PRes.dpL {c : Cn} {F H : Hp} {g : Rng} {K : PySem.W.Frag} {v : V} {sv : SV} {ds : List D} {ps : List PyData} (b : Base c F g H) (h : PRes c F H v sv) (e : sv.list = some ds) (k : D.pys ds = some ps) : Dp K H v (.list ps) := by
  obtain ⟨a, xs, rfl, q, r⟩ := h.listAt b e
  exact .lst (.of q) (r.dp b.sub k)
theorem pys_map : ∀ {dss : List (List D)} {p : List PyData}, D.pys (dss.map .lst) = some p → ∃ pss : List (List PyData), p = pss.map .list ∧ pss.length = dss.length ∧ ∀ (j : Nat) ds ps, dss[j]? = some ds → pss[j]? = some ps → D.pys ds = some ps
  | [], p, h => ⟨[], by simp [D.pys] at h; simpa using h.symm, rfl, fun j ds ps h1 => by simp at h1⟩
  | ds :: dss, p, h => by
    simp only [List.map_cons, D.pys] at h
    split at h
    · rename_i q qs e1 e2
      cases h
      simp [D.py] at e1
      obtain ⟨ps, e1, rfl⟩ := e1
      obtain ⟨pss, rfl, hl, hq⟩ := pys_map e2
      refine ⟨ps :: pss, rfl, by simp [hl], fun j ds' ps' h1 h2 => ?_⟩
      cases j with
      | zero => cases h1; cases h2; exact e1
      | succ j => exact hq j ds' ps' (by simpa using h1) (by simpa using h2)
    · cases h
theorem DpAll.ofGet {K : PySem.W.Frag} {H : Hp} : ∀ {vs : List V} {ps : List PyData}, vs.length = ps.length → (∀ (j : Nat) v p, vs[j]? = some v → ps[j]? = some p → Dp K H v p) → DpAll K H vs ps
  | [], [], _, _ => .nil
  | v :: vs, d :: ds, hl, h => .cons (h 0 v d rfl rfl) (DpAll.ofGet (by simpa using hl) fun j v' d' h1 h2 => h (j + 1) v' d' (by simpa using h1) (by simpa using h2))
  | [], _ :: _, hl, _ => by simp at hl
  | _ :: _, [], hl, _ => by simp at hl
theorem PRes.dpV {c : Cn} {F H : Hp} {g : Rng} {K : PySem.W.Frag} {v : V} {sv : SV} {d : D} {p : PyData} (b : Base c F g H) (h : PRes c F H v sv) (e : sv.view = some d) (k : d.py = some p) : Dp K H v p := by
  cases sv with
  | dat d' =>
    cases e
    have h' : Rep c F v d := h
    exact h'.dp b.sub k
  | own ds =>
    cases e
    simp [D.py] at k
    obtain ⟨ps, k, rfl⟩ := k
    exact h.dpL b rfl k
  | owns dss =>
    cases e
    simp [D.py] at k
    obtain ⟨ps, k, rfl⟩ := k
    obtain ⟨a, as, rfl, _, _, q, l, r⟩ := h
    obtain ⟨pss, rfl, hl, hq⟩ := pys_map k
    refine .lst (.of q) (DpAll.ofGet (by simp; omega) fun j w p h1 h2 => ?_)
    rw [List.getElem?_map] at h1 h2
    cases e1 : as[j]? with
    | none => rw [e1] at h1; cases h1
    | some b' =>
      cases e2 : pss[j]? with
      | none => rw [e2] at h2; cases h2
      | some ps' =>
        rw [e1] at h1; rw [e2] at h2
        cases h1; cases h2
        have hj : j < dss.length := by
          have := (List.getElem?_eq_some_iff.mp e2).1
          omega
        have e3 : dss[j]? = some dss[j] := List.getElem?_eq_getElem hj
        obtain ⟨_, _, xs, kb, rb⟩ := r j b' _ e1 e3
        exact .lst (.of kb) (rb.dp b.sub (hq j _ _ e3 e2))
  | dk _ => cases e
  | dt _ => cases e
end PV
set_option Elab.async false
set_option linter.all false
set_option maxRecDepth 100000
set_option maxHeartbeats 4000000
/-! PV5: operators, comparisons, truth. -/
namespace PV
open PySem L2 PySem.Spec PyProof.Rows

theorem line_size {n : Nat} (h : n ≤ line) : n ≤ sizeLine := Nat.le_trans h (by decide)
theorem line_lt {n : Nat} (h : n < line) : n < sizeLine := Nat.lt_of_lt_of_le h (by decide)
theorem MulOk.fits {i j : Int} (h : MulOk i j) : IntMulOk i j := by
  rcases h with h | h | ⟨h1, h2⟩
  · exact CMul.ok (.inl ⟨by omega, by omega⟩)
  · exact CMul.ok (.inr ⟨by omega, by omega⟩)
  · have b : ∀ x : Int, x.natAbs < 2 ^ 400000 → Builtin.Int.intBits x ≤ 400000 := fun x hx => by
      have := PySem.Flt.log2_lt_of (by decide) hx
      unfold Builtin.Int.intBits
      split <;> omega
    have q1 := b i h1
    have q2 := b j h2
    have e : bitsLine = 134217728 := by decide
    unfold IntMulOk
    intro z
    rw [Bool.and_eq_true] at z
    have z2 := z.2
    unfold Builtin.Int.intTooBig at z2
    have z3 := of_decide_eq_true z2
    rw [e] at z3
    omega
theorem DivOk.fits {j : Int} (h : DivOk j) : j.natAbs.log2 < 9000 := by
  have := PySem.Flt.log2_lt_of (k := 8999) (by decide) h.2
  omega

section
variable {X : Cx}
theorem op_mulD : OpR X (binaryOp .Mult) (rI MulOk fun i j => .int (i * j)) := opI fun _ _ _ _ _ _ _ hc q => mul_int q hc.fits
theorem op_fdivD : OpR X (binaryOp .FloorDiv) (rI (fun _ j => DivOk j) fun i j => .int (i.fdiv j)) := opI fun _ _ _ _ _ _ _ hc q => floordiv_int hc.1 q (.inl (PyProof.noPylong_of_log2 hc.fits))

/-- a tuple times an int that makes nothing new of it -/
theorem tupMul0 (l : Addr) (items : Array Value) (n : Nat) (dd : Option Addr) (sl : Array (Option Value)) (x : Int) (u : Tok) (c0 : (decide (x < -(2 ^ 63)) || decide (x ≥ 2 ^ 63)) = false) (c1 : (items.isEmpty || x == 1) = true) :
    Meets (Builtin.«tuple.__mul__» ⟨[.ref l, .int x u], []⟩) (fun _ R s => s.heap.get? l = some { cls := .type "tuple", dict := dd, data := .seq items n, slots := sl } ∧ R (.ok (.ret (Value.ref l))) s) :=
  .of_wp fun prog w A R s h => by
    obtain ⟨hp, g, d, tk, os⟩ := s
    obtain ⟨hl, h⟩ := h
    have f1 := AutoSeq1.idx_int
    wp_walk using wpAny_loadPart' hl
    repeat (first
      | (refine wpAny_ite_false (decide_eq_false (by rw [c0]; exact Bool.false_ne_true)) ?_; wp_walk using wpAny_loadPart' hl)
      | (refine wpAny_ite_true (decide_eq_true (by rw [c1])) ?_; wp_walk using wpAny_loadPart' hl))
    exact ⟨_, rfl, h⟩
/-- .. that makes the empty one -/
theorem tupMulE (l : Addr) (items : Array Value) (n : Nat) (dd : Option Addr) (sl : Array (Option Value)) (x : Int) (u : Tok) (c0 : (decide (x < -(2 ^ 63)) || decide (x ≥ 2 ^ 63)) = false) (c1 : (items.isEmpty || x == 1) = false) (c2 : (decide (x ≤ 0) || items.isEmpty) = true) :
    Meets (Builtin.«tuple.__mul__» ⟨[.ref l, .int x u], []⟩) (fun _ R s => s.heap.get? l = some { cls := .type "tuple", dict := dd, data := .seq items n, slots := sl } ∧
      R (.ok (.ret (Value.ref s.heap.objs.size))) { s with heap := s.heap.push { cls := Value.type "tuple", data := Data.seq #[] }, toks := s.toks }) :=
  .of_wp fun prog w A R s h => by
    obtain ⟨hp, g, d, tk, os⟩ := s
    obtain ⟨hl, h⟩ := h
    have f1 := AutoSeq1.idx_int
    wp_walk using wpAny_loadPart' hl
    repeat (first
      | (refine wpAny_ite_false (decide_eq_false (by rw [c0]; exact Bool.false_ne_true)) ?_; wp_walk using wpAny_loadPart' hl)
      | (refine wpAny_ite_false (decide_eq_false (by rw [c1]; exact Bool.false_ne_true)) ?_; wp_walk using wpAny_loadPart' hl)
      | (refine wpAny_ite_true (decide_eq_true (by rw [c2])) ?_; wp_walk using wpAny_loadPart' hl))
    exact ⟨_, rfl, h⟩
/-- t * k, k any int of a small size -/
def rRepA (K : PySem.W.Frag) : R2 := fun x y H Q => ∃ l k xs, x = .ref l ∧ y = .int k ∧ SqT K H l xs ∧ -1000 ≤ k ∧ k ≤ 1000 ∧ xs.length ≤ 1000 ∧
  ((List.replicate k.toNat xs).flatten = xs → Q (.ref l) H) ∧ ∀ p, H p = none → Q (.ref p) (upd H p (.tup (List.replicate k.toNat xs).flatten))
theorem op_repA : OpR X (binaryOp .Mult) (rRepA X.K) := by
  intro pins s σ H x y v u Q I rx ry h
  obtain ⟨l, k, xs, rfl, rfl, hT, h1, h2, hz, q0, q⟩ := h
  by_cases hbig : xs ≠ [] ∧ 2 ≤ k
  · exact op_repT pins s σ H _ _ v u Q I rx ry ⟨l, k, xs, rfl, rfl, hT, hbig.1, hbig.2, h2, hz, q⟩
  · cases rx
    obtain ⟨t, rfl⟩ := ry
    obtain ⟨its, r, ⟨⟨cls, dd, data, sl⟩, ho, hc, n, hd⟩, hs⟩ := I.tuple hT
    simp only at hc hd
    subst hc hd
    have hle : its.length = xs.length := r.length.symm
    have c0 : (decide (k < -(2 ^ 63)) || decide (k ≥ 2 ^ 63)) = false := by
      rw [decide_eq_false (by omega), decide_eq_false (by omega)] <;> rfl
    by_cases c1 : (its.toArray.isEmpty || k == 1) = true
    · have e : (List.replicate k.toNat xs).flatten = xs := by
        rw [Bool.or_eq_true] at c1
        rcases c1 with z | z
        · have : its = [] := by simpa using z
          subst this
          have : xs = [] := List.eq_nil_of_length_eq_zero hle.symm
          subst this
          simp
        · have : k = 1 := by simpa using z
          subst this
          simp
      refine wpAny_binaryOp_repeat_ref (T := "tuple") (U := "int") (by decide) ⟨_, ho, rfl⟩ (fun s' => typeIs_int s' k t) noFill_tuple_mul F.fills_int_mul F.slot_int_rmul repeat_tuple F.slot_int_index.lookup
        (call_meets F.slot_int_rmul (typeIs_int s k t) F.entry_int_rmul (F.args_int_rmul_2 _ _) (int_rmul_tuple k t l its.toArray n dd sl)
          ⟨ho, rfl, ⟨_, ho, rfl⟩, call_meets F.slot_tuple_mul ⟨_, ho, rfl⟩ F.entry_tuple_mul (F.args_tuple_mul_2 _ _) (tupMul0 l its.toArray n dd sl k t c0 c1) ⟨ho, ?_⟩⟩)
      exact ⟨.ref l, H, I, rfl, q0 e⟩
    · have c1' : (its.toArray.isEmpty || k == 1) = false := by simpa using c1
      have c2 : (decide (k ≤ 0) || its.toArray.isEmpty) = true := by
        rw [Bool.or_eq_false_iff] at c1'
        have n1 : k ≠ 1 := by simpa using c1'.2
        have n2 : its ≠ [] := by simpa using c1'.1
        have n3 : xs ≠ [] := fun z => n2 (List.eq_nil_of_length_eq_zero (by rw [hle, z]; rfl))
        have : k ≤ 0 := by
          by_cases z : 2 ≤ k
          · exact absurd ⟨n3, z⟩ hbig
          · omega
        rw [decide_eq_true this]; rfl
      have hk : k ≤ 0 := by
        rw [Bool.or_eq_false_iff] at c1'
        rw [c1'.1, Bool.or_false] at c2
        exact of_decide_eq_true c2
      have e : (List.replicate k.toNat xs).flatten = [] := by
        have : k.toNat = 0 := by omega
        rw [this]; rfl
      rw [e] at q
      refine wpAny_binaryOp_repeat_ref (T := "tuple") (U := "int") (by decide) ⟨_, ho, rfl⟩ (fun s' => typeIs_int s' k t) noFill_tuple_mul F.fills_int_mul F.slot_int_rmul repeat_tuple F.slot_int_index.lookup
        (call_meets F.slot_int_rmul (typeIs_int s k t) F.entry_int_rmul (F.args_int_rmul_2 _ _) (int_rmul_tuple k t l its.toArray n dd sl)
          ⟨ho, rfl, ⟨_, ho, rfl⟩, call_meets F.slot_tuple_mul ⟨_, ho, rfl⟩ F.entry_tuple_mul (F.args_tuple_mul_2 _ _) (tupMulE l its.toArray n dd sl k t c0 c1' c2) ⟨ho, ?_⟩⟩)
      refine ⟨.ref s.heap.objs.size, _, I.laid (t' := s.toks) (o := .tup []) (fun b ob q => Heap.get?_push_of_some _ q) (Nat.le_refl _) ?_, rfl, q _ (I.hok.fresh (Nat.le_refl _))⟩
      exact ⟨Nat.zero_le _, [], .nil, IsTup.new _ _⟩
end

/-! ### what the operators do -/
section
variable {X : Cx} {c : Cn} {W : WX} {σ : L2.St} {F : Hp} {T : Tm} {H H0 : Hp} {e : Env} {g : Rng} {Q : VK} {x y : V} {a b sv : SV}
/-- the wish behind an operator -/
abbrev Wish (c : Cn) (H0 : Hp) (Q : VK) : SV → Hp → Tm → Hp → Env → Rng → Prop := fun sv F' T' H' _ _ => ∀ v, ORes c H0 F' T' H' v sv → Q v H'
theorem wishD {d : D} {v : V} (R : Rel c F T e g σ H) (h : Post c W σ F T H (.ok (.dat d) e g) (Wish c H0 Q)) (r : Rep c F v d) : Q v H := doneQ R h v r
theorem wishL {ds : List D} {xs : List V} (R : Rel c F T e g σ H) (n : ∀ p, H p = none → H0 p = none) (h : Post c W σ F T H (.ok (.own ds) e g) (Wish c H0 Q)) (r : Reps c F xs ds) {p : Addr} (hp : H p = none) : Q (.ref p) (upd H p (.lst xs)) :=
  doneN R hp h (.ref p) ⟨p, xs, rfl, n p hp, R.base.free hp, R.tfree hp, upd_same, r⟩
theorem wishT {ds : List D} {xs : List V} (R : Rel c F T e g σ H) (h : Post c W σ F T H (.ok (.dat (.tup ds)) e g) (Wish c H0 Q)) (r : Reps c F xs ds) {p : Addr} (hp : H p = none) : Q (.ref p) (upd H p (.tup xs)) :=
  doneF R hp h (.ref p) (.tup upd_same (r.mono (Sub.new (R.base.free hp))))

abbrev rAddS : R2 := fun x y H Q => ∃ i j, x = .str i ∧ y = .str j ∧ i.length + j.length ≤ sizeLine ∧ Q (.str (i ++ j)) H
theorem run_add (R : Rel c F T e g σ H) (n : ∀ p, H p = none → H0 p = none) (ha : PRes c F H x a) (hb : PRes c F H y b) (hs : opAdd a b = some sv) (h : Post c W σ F T H (.ok sv e g) (Wish c H0 Q)) :
    rI0 (fun i j => .int (i + j)) x y H Q ∨ rCatA X.K x y H Q ∨ rCat x y H Q ∨ rAddS x y H Q := by
  unfold opAdd at hs
  split at hs
  · cases hs
    obtain ⟨⟩ := ha
    obtain ⟨⟩ := hb
    exact .inl ⟨_, _, rfl, rfl, wishD R h (.int _)⟩
  · split at hs <;> cases hs
    rename_i xs ys hl
    have ha' : Rep c F x (.tup xs) := ha
    have hb' : Rep c F y (.tup ys) := hb
    cases ha' with | tup k1 r1 =>
    cases hb' with | tup k2 r2 =>
    refine .inr (.inl ⟨_, _, _, _, rfl, rfl, .of (R.base.sub _ _ k1), .of (R.base.sub _ _ k2), by rw [r1.length, r2.length]; exact line_size hl, fun z => ?_, fun _ z => ?_, fun _ _ p hp => wishT R h (r1.append r2) hp⟩)
    · subst z
      cases r1
      exact wishD R h (.tup k2 r2)
    · subst z
      cases r2
      exact wishD R h (.tup k1 (by rw [List.append_nil]; exact r1))
  · split at hs <;> cases hs
    obtain ⟨⟩ := ha
    obtain ⟨⟩ := hb
    rename_i hl
    exact .inr (.inr (.inr ⟨_, _, rfl, rfl, line_size hl, wishD R h (.str _)⟩))
  · split at hs
    · split at hs <;> cases hs
      rename_i e1 e2 hl
      obtain ⟨p, xs, rfl, k1, r1⟩ := ha.listAt R.base e1
      obtain ⟨q, ys, rfl, k2, r2⟩ := hb.listAt R.base e2
      exact .inr (.inr (.inl ⟨_, _, _, _, rfl, rfl, k1, k2, by rw [r1.length, r2.length]; exact line_size hl, fun p hp => wishL R n h (r1.append r2) hp⟩))
    · cases hs
theorem run_sub (R : Rel c F T e g σ H) (ha : PRes c F H x a) (hb : PRes c F H y b) (hs : opSub a b = some sv) (h : Post c W σ F T H (.ok sv e g) (Wish c H0 Q)) : rI0 (fun i j => .int (i - j)) x y H Q := by
  unfold opSub at hs
  split at hs <;> cases hs
  obtain ⟨⟩ := ha
  obtain ⟨⟩ := hb
  exact ⟨_, _, rfl, rfl, wishD R h (.int _)⟩
theorem run_fdiv (R : Rel c F T e g σ H) (ha : PRes c F H x a) (hb : PRes c F H y b) (hs : opFdiv a b = some sv) (h : Post c W σ F T H (.ok sv e g) (Wish c H0 Q)) : rI (fun _ j => DivOk j) (fun i j => .int (i.fdiv j)) x y H Q := by
  unfold opFdiv at hs
  split at hs
  · split at hs <;> cases hs
    obtain ⟨⟩ := ha
    obtain ⟨⟩ := hb
    rename_i hd
    exact ⟨_, _, rfl, rfl, hd, wishD R h (.int _)⟩
  · cases hs
theorem run_mod (R : Rel c F T e g σ H) (ha : PRes c F H x a) (hb : PRes c F H y b) (hs : opMod a b = some sv) (h : Post c W σ F T H (.ok sv e g) (Wish c H0 Q)) : rI (fun _ j => j ≠ 0) (fun i j => .int (i.fmod j)) x y H Q := by
  unfold opMod at hs
  split at hs
  · split at hs <;> cases hs
    obtain ⟨⟩ := ha
    obtain ⟨⟩ := hb
    rename_i hd
    exact ⟨_, _, rfl, rfl, hd, wishD R h (.int _)⟩
  · cases hs
theorem run_pow (R : Rel c F T e g σ H) (ha : PRes c F H x a) (hb : PRes c F H y b) (hs : opPow a b = some sv) (h : Post c W σ F T H (.ok sv e g) (Wish c H0 Q)) : rI CPow (fun i j => .int (i ^ j.toNat)) x y H Q := by
  unfold opPow at hs
  split at hs
  · split at hs <;> cases hs
    obtain ⟨⟩ := ha
    obtain ⟨⟩ := hb
    rename_i hd
    exact ⟨_, _, rfl, rfl, ⟨hd.1, by omega, hd.2.2⟩, wishD R h (.int _)⟩
  · cases hs
theorem run_mul (R : Rel c F T e g σ H) (n : ∀ p, H p = none → H0 p = none) (ha : PRes c F H x a) (hb : PRes c F H y b) (hs : opMul a b = some sv) (h : Post c W σ F T H (.ok sv e g) (Wish c H0 Q)) :
    rI MulOk (fun i j => .int (i * j)) x y H Q ∨ rRepA X.K x y H Q ∨ rRep x y H Q := by
  unfold opMul at hs
  split at hs
  · split at hs <;> cases hs
    obtain ⟨⟩ := ha
    obtain ⟨⟩ := hb
    rename_i hd
    exact .inl ⟨_, _, rfl, rfl, hd, wishD R h (.int _)⟩
  · split at hs <;> cases hs
    rename_i xs k hl
    have ha' : Rep c F x (.tup xs) := ha
    obtain ⟨⟩ := hb
    cases ha' with | tup k1 r1 =>
    refine .inr (.inl ⟨_, _, _, rfl, rfl, .of (R.base.sub _ _ k1), hl.2.2, hl.2.1, by rw [r1.length]; exact hl.1, fun z => wishD R h (.tup k1 ?_), fun p hp => wishT R h (r1.rep _) hp⟩)
    have := r1.rep k.toNat
    rw [z] at this
    exact this
  · split at hs
    · split at hs <;> cases hs
      rename_i kk _ _ _ ds e1 hl
      obtain ⟨p, xs, rfl, k1, r1⟩ := ha.listAt R.base e1
      obtain ⟨⟩ := hb
      refine .inr (.inr ⟨_, _, _, rfl, rfl, k1, by omega, by omega, ?_, fun p hp => wishL R n h (r1.rep _) hp⟩)
      rw [r1.length]
      have q : ds.length * kk.toNat ≤ 1000 * 1000 := Nat.mul_le_mul hl.1 (by omega)
      exact Nat.le_trans q (show 1000 * 1000 ≤ sizeLine by decide)
    · cases hs
  · cases hs
end
section
variable {X : Cx} {c : Cn} {W : WX} {a b d : Expr} {ma mb md : M SV} {pos : Pos}
/-- two looks, then an operator -/
theorem two {f : Value → Value → Sem Value} {r : R2} {op : SV → SV → Option SV} (ha : PE X a (tP c W ma)) (hb : PE X b (tP c W mb))
    (k : ∀ {F T e g σ H H0 Q x y sa sb sv}, Rel c F T e g σ H → (∀ p, H p = none → H0 p = none) → PRes c F H x sa → PRes c F H y sb → op sa sb = some sv → Post c W σ F T H (.ok sv e g) (Wish c H0 Q) → r x y H Q) :
    ∀ σ H Q, tO c W (mBind ma fun x => mBind mb fun y => mOpt (op x y)) σ H Q → tOp r (tP c W ma) (tP c W mb) σ H Q := fun σ H Q ⟨F, T, e, g, R, p⟩ =>
  goP R p fun sa x F1 T1 H1 e1 g1 R1 x1 p1 q1 => goP R1 q1 fun sb y F2 T2 H2 e2 g2 R2 x2 p2 q2 => by
    obtain ⟨sv, hs, q⟩ := Post.opt q2
    exact k R2 (fun p hp => x1.n p (x2.n p hp)) (p1.ext x2) p2 hs q
theorem se_add (ha : PE X a (tP c W ma)) (hb : PE X b (tP c W mb)) : PE X (.BinOp a .Add b pos) (tO c W (mBin .add ma mb)) :=
  peImp (pe_op (op_add.or (op_catA.or (op_cat.or op_add_str))) ha hb) (two (f := fun _ _ => pure .none) ha hb fun R n pa pb hs h => run_add R n pa pb hs h)
theorem se_sub (ha : PE X a (tP c W ma)) (hb : PE X b (tP c W mb)) : PE X (.BinOp a .Sub b pos) (tO c W (mBin .sub ma mb)) :=
  peImp (pe_op op_sub ha hb) (two (f := fun _ _ => pure .none) ha hb fun R _ pa pb hs h => run_sub R pa pb hs h)
theorem se_mul (ha : PE X a (tP c W ma)) (hb : PE X b (tP c W mb)) : PE X (.BinOp a .Mult b pos) (tO c W (mBin .mul ma mb)) :=
  peImp (pe_op (op_mulD.or (op_repA.or op_rep)) ha hb) (two (f := fun _ _ => pure .none) ha hb fun R n pa pb hs h => run_mul R n pa pb hs h)
theorem se_fdiv (ha : PE X a (tP c W ma)) (hb : PE X b (tP c W mb)) : PE X (.BinOp a .FloorDiv b pos) (tO c W (mBin .fdiv ma mb)) :=
  peImp (pe_op op_fdivD ha hb) (two (f := fun _ _ => pure .none) ha hb fun R _ pa pb hs h => run_fdiv R pa pb hs h)
theorem se_mod (ha : PE X a (tP c W ma)) (hb : PE X b (tP c W mb)) : PE X (.BinOp a .Mod b pos) (tO c W (mBin .mod ma mb)) :=
  peImp (pe_op op_modN ha hb) (two (f := fun _ _ => pure .none) ha hb fun R _ pa pb hs h => run_mod R pa pb hs h)
theorem se_pow (ha : PE X a (tP c W ma)) (hb : PE X b (tP c W mb)) : PE X (.BinOp a .Pow b pos) (tO c W (mBin .pow ma mb)) :=
  peImp (pe_op op_pow ha hb) (two (f := fun _ _ => pure .none) ha hb fun R _ pa pb hs h => run_pow R pa pb hs h)
end
end PV
set_option Elab.async false
set_option linter.all false
set_option maxRecDepth 100000
set_option maxHeartbeats 4000000
/-! PV6: comparisons, tests, displays, arguments. -/
namespace PV
open PySem L2 PySem.Spec PyProof.Rows

/-- how a comparison is asked of two values -/
def CmpRun (c : Cn) (K : PySem.W.Frag) (o : Cmp) (r : R2) : Prop :=
  ∀ {F : Hp} {T : Tm} {e : Env} {g : Rng} {σ : L2.St} {H : Hp} {x y : V} {a b : SV} {k : Bool} {Q : VK}, Rel c F T e g σ H → PRes c F H x a → PRes c F H y b → opCmp o a b = some k → Q (.bl k) H → r x y H Q
section
variable {c : Cn} {K : PySem.W.Frag}
theorem eqD_run {F : Hp} {T : Tm} {e : Env} {g : Rng} {σ : L2.St} {H : Hp} {x y : V} {a b : SV} {k : Bool} (R : Rel c F T e g σ H) (ha : PRes c F H x a) (hb : PRes c F H y b) (h : eqD a b = some k) :
    ∃ d e, Dp K H x d ∧ Dp K H y e ∧ SeqAt.shaped d = true ∧ SeqAt.shaped e = true ∧ PyData.eqv d e = k := by
  unfold eqD at h
  split at h
  · rename_i d d' e1 e2
    split at h <;> cases h
    rename_i hf
    rw [Bool.and_eq_true] at hf
    obtain ⟨p, q1, l1, k1⟩ := fine_py 60 d hf.1
    obtain ⟨p', q2, l2, k2⟩ := fine_py 60 d' hf.2
    exact ⟨p, p', ha.dpV R.base e1 q1, hb.dpV R.base e2 q2, shaped_of l1 (by omega), shaped_of l2 (by omega), eqv_py d d' p p' q1 q2⟩
  · cases h
theorem cr_eq : CmpRun c K .eq (rEqD K) := fun {F T e g σ H x y a b k Q} R ha hb h q => by
  obtain ⟨d, d', h1, h2, h3, h4, h5⟩ := eqD_run (K := K) R ha hb (show eqD a b = some k from h)
  exact ⟨d, d', h1, h2, h3, h4, by rw [h5]; exact q⟩
theorem cr_ne : CmpRun c K .ne (rNeD K) := fun {F T e g σ H x y a b k Q} R ha hb h q => by
  have h' : (eqD a b).map (!·) = some k := h
  cases e1 : eqD a b with
  | none => rw [e1] at h'; cases h'
  | some k' =>
    rw [e1] at h'
    cases h'
    obtain ⟨d, d', h1, h2, h3, h4, h5⟩ := eqD_run (K := K) R ha hb e1
    exact ⟨d, d', h1, h2, h3, h4, by rw [h5]; exact q⟩
theorem opLt_ints {a b : SV} {k : Bool} (h : opLt a b = some k) : ∃ i j, a = .dat (.int i) ∧ b = .dat (.int j) ∧ k = decide (i < j) := by
  unfold opLt at h
  split at h <;> cases h
  exact ⟨_, _, rfl, rfl, rfl⟩
theorem opLe_ints {a b : SV} {k : Bool} (h : opLe a b = some k) : ∃ i j, a = .dat (.int i) ∧ b = .dat (.int j) ∧ k = decide (i ≤ j) := by
  unfold opLe at h
  split at h <;> cases h
  exact ⟨_, _, rfl, rfl, rfl⟩
theorem cr_lt : CmpRun c K .lt (rI0 fun i j => .bl (decide (i < j))) := fun {F T e g σ H x y a b k Q} R ha hb h q => by
  obtain ⟨i, j, rfl, rfl, rfl⟩ := opLt_ints (show opLt a b = some k from h)
  obtain ⟨⟩ := ha
  obtain ⟨⟩ := hb
  exact ⟨i, j, rfl, rfl, q⟩
theorem cr_le : CmpRun c K .le (rI0 fun i j => .bl (decide (i ≤ j))) := fun {F T e g σ H x y a b k Q} R ha hb h q => by
  obtain ⟨i, j, rfl, rfl, rfl⟩ := opLe_ints (show opLe a b = some k from h)
  obtain ⟨⟩ := ha
  obtain ⟨⟩ := hb
  exact ⟨i, j, rfl, rfl, q⟩
theorem cr_gt : CmpRun c K .gt (rI0 fun i j => .bl (decide (j < i))) := fun {F T e g σ H x y a b k Q} R ha hb h q => by
  obtain ⟨j, i, rfl, rfl, rfl⟩ := opLt_ints (show opLt b a = some k from h)
  obtain ⟨⟩ := ha
  obtain ⟨⟩ := hb
  exact ⟨i, j, rfl, rfl, q⟩
theorem cr_ge : CmpRun c K .ge (rI0 fun i j => .bl (decide (j ≤ i))) := fun {F T e g σ H x y a b k Q} R ha hb h q => by
  obtain ⟨j, i, rfl, rfl, rfl⟩ := opLe_ints (show opLe b a = some k from h)
  obtain ⟨⟩ := ha
  obtain ⟨⟩ := hb
  exact ⟨i, j, rfl, rfl, q⟩
abbrev rInS : R2 := fun x y H Q => ∃ i j, x = .str i ∧ y = .str j ∧ Q (.bl (!(Builtin.Str.occurrences j i 0 j.length 1).isEmpty)) H
abbrev rNotInS : R2 := fun x y H Q => ∃ i j, x = .str i ∧ y = .str j ∧ Q (.bl (!(!(Builtin.Str.occurrences j i 0 j.length 1).isEmpty))) H
theorem anyEqv : ∀ {ds : List D} {ps : List PyData} {d : D} {p : PyData}, D.pys ds = some ps → d.py = some p → (ps.any fun z => PyData.eqv z p) = ds.any fun z => z.eqv d
  | [], ps, d, p, h, _ => by simp [D.pys] at h; subst h; rfl
  | x :: ds, ps, d, p, h, h' => by
    simp only [D.pys] at h
    split at h
    · rename_i q qs e1 e2
      cases h
      rw [List.any_cons, List.any_cons, eqv_py x d q p e1 h', anyEqv e2 h']
    · cases h
theorem opIn_run {F : Hp} {T : Tm} {e : Env} {g : Rng} {σ : L2.St} {H : Hp} {x y : V} {a b : SV} {k : Bool} (R : Rel c F T e g σ H) (ha : PRes c F H x a) (hb : PRes c F H y b) (h : opIn a b = some k) :
    (∃ i j, x = .str i ∧ y = .str j ∧ k = !(Builtin.Str.occurrences j i 0 j.length 1).isEmpty) ∨
    ∃ d ds, Dp K H x d ∧ Dp K H y (.list ds) ∧ SeqAt.shaped d = true ∧ SeqAt.shaped (.list ds) = true ∧ k = ds.any fun z => PyData.eqv z d := by
  unfold opIn at h
  split at h
  · cases h
    obtain ⟨⟩ := ha
    obtain ⟨⟩ := hb
    exact .inl ⟨_, _, rfl, rfl, rfl⟩
  · split at h
    · split at h <;> cases h
      rename_i d _ _ ds e1 hf
      rw [Bool.and_eq_true] at hf
      obtain ⟨p, q1, l1, k1⟩ := fine_py 60 d hf.1
      obtain ⟨ps, q2, l2, k2⟩ := fine_pys 60 ds hf.2
      have ha' : Rep c F x d := ha
      exact .inr ⟨p, ps, ha'.dp R.base.sub q1, hb.dpL R.base e1 q2, shaped_of l1 (by omega), shaped_of (by simpa [PyData.canLay0] using l2) (by simp only [PyData.depth]; omega), (anyEqv q2 q1).symm⟩
    · cases h
  · cases h
theorem cr_in : CmpRun c K .isin (fun x y H Q => rInS x y H Q ∨ rInD K x y H Q) := fun {F T e g σ H x y a b k Q} R ha hb h q => by
  rcases opIn_run (K := K) R ha hb (show opIn a b = some k from h) with ⟨i, j, rfl, rfl, rfl⟩ | ⟨d, ds, h1, h2, h3, h4, rfl⟩
  · exact .inl ⟨i, j, rfl, rfl, q⟩
  · exact .inr ⟨d, ds, h1, h2, h3, h4, q⟩
theorem cr_notin : CmpRun c K .notin (fun x y H Q => rNotInS x y H Q ∨ rNotInD K x y H Q) := fun {F T e g σ H x y a b k Q} R ha hb h q => by
  have h' : (opIn a b).map (!·) = some k := h
  cases e1 : opIn a b with
  | none => rw [e1] at h'; cases h'
  | some k' =>
    rw [e1] at h'
    cases h'
    rcases opIn_run (K := K) R ha hb e1 with ⟨i, j, rfl, rfl, rfl⟩ | ⟨d, ds, h1, h2, h3, h4, rfl⟩
    · exact .inl ⟨i, j, rfl, rfl, q⟩
    · exact .inr ⟨d, ds, h1, h2, h3, h4, q⟩
theorem isNon_run {F : Hp} {H : Hp} {x y : V} {a b : SV} {k : Bool} (ha : PRes c F H x a) (hb : PRes c F H y b) (h : isNon a b = some k) : y = .non ∧ decide (x = .non) = k := by
  unfold isNon at h
  split at h
  · cases h
    have ha' : Rep c F x _ := ha
    obtain ⟨⟩ := hb
    refine ⟨rfl, ?_⟩
    cases ha' <;> simp
  · cases h
    obtain ⟨a, xs, rfl, _⟩ := ha
    obtain ⟨⟩ := hb
    exact ⟨rfl, by simp⟩
  · cases h
abbrev rIsN : R2 := fun x y H Q => y = .non ∧ Q (.bl (decide (x = .non))) H
abbrev rNotN : R2 := fun x y H Q => y = .non ∧ Q (.bl (!decide (x = .non))) H
theorem cr_is : CmpRun c K .is rIsN := fun {F T e g σ H x y a b k Q} R ha hb h q => by
  obtain ⟨h1, h2⟩ := isNon_run ha hb (show isNon a b = some k from h)
  exact ⟨h1, by rw [h2]; exact q⟩
theorem cr_isnot : CmpRun c K .isnot rNotN := fun {F T e g σ H x y a b k Q} R ha hb h q => by
  have h' : (isNon a b).map (!·) = some k := h
  cases e1 : isNon a b with
  | none => rw [e1] at h'; cases h'
  | some k' =>
    rw [e1] at h'
    cases h'
    obtain ⟨h1, h2⟩ := isNon_run ha hb e1
    exact ⟨h1, by rw [h2]; exact q⟩
end
def Cmp.op : Cmp → CmpOp
  | .eq => .Eq | .ne => .NotEq | .lt => .Lt | .le => .LtE | .gt => .Gt | .ge => .GtE | .isin => .In | .notin => .NotIn | .is => .Is | .isnot => .IsNot
/-- each comparison has its rule -/
theorem cmp_rule {X : Cx} (c : Cn) (hu : X.A.units + 65 < cLine) (o : Cmp) : ∃ r, OpR X (compareOp o.op) r ∧ CmpRun c X.K o r := by
  cases o with
  | eq => exact ⟨_, op_eqD (by omega), cr_eq⟩
  | ne => exact ⟨_, op_neD (by omega), cr_ne⟩
  | lt => exact ⟨_, op_lt, cr_lt (K := X.K)⟩
  | le => exact ⟨_, op_le, cr_le (K := X.K)⟩
  | gt => exact ⟨_, op_gt, cr_gt (K := X.K)⟩
  | ge => exact ⟨_, op_ge, cr_ge (K := X.K)⟩
  | isin => exact ⟨_, op_in_str.or (op_inD hu), cr_in⟩
  | notin => exact ⟨_, op_notin_str.or (op_notInD hu), cr_notin⟩
  | is => exact ⟨_, op_isN, cr_is (K := X.K)⟩
  | isnot => exact ⟨_, op_notN, cr_isnot (K := X.K)⟩

section
variable {X : Cx} {c : Cn} {W : WX} {a b d : Expr} {ma mb md : M SV} {na nb : M Bool} {pos : Pos} {o o' : Cmp}
theorem cmpGo {r : R2} (hr : CmpRun c X.K o r) {σ : L2.St} {H : Hp} {Q : Bool → Hp → Prop} (h : tT c W (mCmp o ma mb) σ H Q) : tOp r (tP c W ma) (tP c W mb) σ H fun v H' => ∃ k, v = .bl k ∧ Q k H' := by
  obtain ⟨F, T, e, g, R, p⟩ := h
  exact goP R p fun sa x F1 T1 H1 e1 g1 R1 x1 p1 q1 => goP R1 q1 fun sb y F2 T2 H2 e2 g2 R2 x2 p2 q2 => by
    obtain ⟨k, hs, q⟩ := Post.opt q2
    exact hr R2 (p1.ext x2) p2 hs ⟨k, rfl, doneQ R2 q⟩
theorem tB_of {m : M Bool} {σ : L2.St} {H : Hp} {Q : VK} (h : tO c W (mB m) σ H Q) : tT c W m σ H fun k H' => Q (.bl k) H' := by
  obtain ⟨F, T, e, g, R, p⟩ := h
  exact goT R p fun k F1 T1 H1 e1 g1 R1 x1 q1 => doneQ R1 q1 _ (.bl k)
theorem st_cmp (hu : X.A.units + 65 < cLine) (ha : PE X a (tP c W ma)) (hb : PE X b (tP c W mb)) (hm : behindInMarks o.op b = false) : PT X (.Compare a [o.op] [b] pos) (tT c W (mCmp o ma mb)) := by
  obtain ⟨r, h1, h2⟩ := cmp_rule (X := X) c hu o
  exact ptImp (pt_cmpR h1 ha hb hm) fun σ H Q h => cmpGo (X := X) h2 h
theorem tOp_mono {r : R2} (hr : ∀ x y H Q Q', (∀ v H', Q v H' → Q' v H') → r x y H Q → r x y H Q') {σ : L2.St} {H : Hp} {Q Q' : VK} (k : ∀ v H', Q v H' → Q' v H') (h : tOp r (tP c W ma) (tP c W mb) σ H Q) : tOp r (tP c W ma) (tP c W mb) σ H Q' := by
  obtain ⟨F, T, e, g, R, p⟩ := h
  refine ⟨F, T, e, g, R, p.imp fun sv F' T' H' e' g' _ _ q v hv => ?_⟩
  obtain ⟨F2, T2, e2, g2, R2, p2⟩ := q v hv
  exact ⟨F2, T2, e2, g2, R2, p2.imp fun sv' F3 T3 H3 _ _ _ _ q' v' hv' => hr _ _ _ _ _ k (q' v' hv')⟩
theorem cmpGoV {r : R2} (hr : CmpRun c X.K o r) {σ : L2.St} {H : Hp} {Q : VK} (h : tO c W (mB (mCmp o ma mb)) σ H Q) : tOp r (tP c W ma) (tP c W mb) σ H Q := by
  obtain ⟨F, T, e, g, R, p⟩ := tB_of h
  exact goP R p fun sa x F1 T1 H1 e1 g1 R1 x1 p1 q1 => goP R1 q1 fun sb y F2 T2 H2 e2 g2 R2 x2 p2 q2 => by
    obtain ⟨k, hs, q⟩ := Post.opt q2
    exact hr R2 (p1.ext x2) p2 hs (doneQ R2 q)
theorem se_cmp (hu : X.A.units + 65 < cLine) (ha : PE X a (tP c W ma)) (hb : PE X b (tP c W mb)) (hm : behindInMarks o.op b = false) : PE X (.Compare a [o.op] [b] pos) (tO c W (mB (mCmp o ma mb))) := by
  obtain ⟨r, h1, h2⟩ := cmp_rule (X := X) c hu o
  exact peImp (pe_cmpR h1 ha hb hm) fun σ H Q h => cmpGoV (X := X) h2 h
theorem chainGo {r r' : R2} (hr : CmpRun c X.K o r) (hr' : CmpRun c X.K o' r') {σ : L2.St} {H : Hp} {Q : VK} (h : tT c W (mChain o o' ma mb md) σ H fun k H' => Q (.bl k) H') : tChain r r' (tP c W ma) (tP c W mb) (tP c W md) σ H Q := by
  obtain ⟨F, T, e, g, R, p⟩ := h
  exact goP R p fun sa x F1 T1 H1 e1 g1 R1 x1 p1 q1 => goP R1 q1 fun sb y F2 T2 H2 e2 g2 R2 x2 p2 q2 => by
    obtain ⟨k, hs, q'⟩ := Post.optBind q2
    refine hr R2 (p1.ext x2) p2 hs ⟨k, rfl, ?_⟩
    cases k with
    | true =>
      exact goP R2 q' fun sd z F3 T3 H3 e3 g3 R3 x3 p3 q3 => by
        obtain ⟨k3, hs3, q4⟩ := Post.opt q3
        exact hr' R3 (p2.ext x3) p3 hs3 (doneQ R3 q4)
    | false => exact doneQ R2 q'
theorem se_chain (hu : X.A.units + 65 < cLine) (ha : PE X a (tP c W ma)) (hb : PE X b (tP c W mb)) (hd : PE X d (tP c W md)) (hm : lastMarks [o.op, o'.op] [b, d] = false) : PE X (.Compare a [o.op, o'.op] [b, d] pos) (tO c W (mB (mChain o o' ma mb md))) := by
  obtain ⟨r, h1, h2⟩ := cmp_rule (X := X) c hu o
  obtain ⟨r', h1', h2'⟩ := cmp_rule (X := X) c hu o'
  exact peImp (pe_chain h1 h1' ha hb hd hm) fun σ H Q h => chainGo (X := X) h2 h2' (tB_of h)
theorem st_chain (hu : X.A.units + 65 < cLine) (ha : PE X a (tP c W ma)) (hb : PE X b (tP c W mb)) (hd : PE X d (tP c W md)) (hm : lastMarks [o.op, o'.op] [b, d] = false) : PT X (.Compare a [o.op, o'.op] [b, d] pos) (tT c W (mChain o o' ma mb md)) := by
  obtain ⟨r, h1, h2⟩ := cmp_rule (X := X) c hu o
  obtain ⟨r', h1', h2'⟩ := cmp_rule (X := X) c hu o'
  refine ptImp (pt_chain h1 h1' ha hb hd hm) fun σ H Q h => ?_
  show tChain r r' (tP c W ma) (tP c W mb) (tP c W md) σ H fun v H' => ∃ k, v = .bl k ∧ Q k H'
  refine chainGo (X := X) h2 h2' ?_
  obtain ⟨F, T, e, g, R, p⟩ := h
  exact ⟨F, T, e, g, R, p.imp fun k F' T' H' _ _ _ _ q => ⟨k, rfl, q⟩⟩

/-! ### tests -/
theorem st_not (ha : PT X a (tT c W na)) : PT X (.UnaryOp .Not a pos) (tT c W (mNot na)) := ptImp (pt_not ha) fun σ H Q ⟨F, T, e, g, R, p⟩ => goT R p fun k F1 T1 H1 e1 g1 R1 x1 q1 => doneQ R1 q1
theorem st_and1 (ha : PT X a (tT c W na)) : PW X (.BoolOp .And [a] pos) (tT c W na) := pw_and1 ha
theorem st_or1 (ha : PT X a (tT c W na)) : PW X (.BoolOp .Or [a] pos) (tT c W na) := pw_or1 ha
theorem st_and {rest : List Expr} (ha : PT X a (tT c W na)) (hb : PW X (.BoolOp .And (b :: rest) pos) (tT c W nb)) : PW X (.BoolOp .And (a :: b :: rest) pos) (tT c W (mAnd na nb)) :=
  pwImp (pw_and ha hb) fun σ H Q ⟨F, T, e, g, R, p⟩ => goT R p fun k F1 T1 H1 e1 g1 R1 x1 q1 => by
    cases k with
    | true => exact ⟨F1, T1, e1, g1, R1, q1⟩
    | false => exact doneQ R1 q1
theorem st_or {rest : List Expr} (ha : PT X a (tT c W na)) (hb : PW X (.BoolOp .Or (b :: rest) pos) (tT c W nb)) : PW X (.BoolOp .Or (a :: b :: rest) pos) (tT c W (mOr na nb)) :=
  pwImp (pw_or ha hb) fun σ H Q ⟨F, T, e, g, R, p⟩ => goT R p fun k F1 T1 H1 e1 g1 R1 x1 q1 => by
    cases k with
    | true => exact doneQ R1 q1
    | false => exact ⟨F1, T1, e1, g1, R1, q1⟩
/-- a value that is a truth value, as a test -/
theorem tT_of {m : M SV} {σ : L2.St} {H : Hp} {Q : Bool → Hp → Prop} (h : tT c W (mT m) σ H Q) : tO c W m σ H fun v H' => ∃ k, v = .bl k ∧ Q k H' := by
  obtain ⟨F, T, e, g, R, p⟩ := h
  refine goO R p fun sv v F1 T1 H1 e1 g1 R1 x1 o q1 => ?_
  cases sv with
  | dat d =>
    cases d with
    | bl b => cases o; exact ⟨b, rfl, doneQ R1 q1⟩
    | _ => exact (show False from q1).elim
  | _ => exact (show False from q1).elim
theorem st_val (ha : PE X a (tO c W ma)) (he : ∀ whole, isTrue a X.env whole = (do let v ← whole; standAt a.pos; holding [v] (truthy v))) : PT X a (tT c W (mT ma)) := ptImp (pt_val ha he) fun σ H Q h => tT_of h
theorem se_not (ha : PE X a (tO c W ma)) : PE X (.UnaryOp .Not a pos) (tO c W (mB (mNot (mT ma)))) := peImp (pe_not ha) fun σ H Q h => by
  obtain ⟨F, T, e, g, R, p⟩ := tB_of h
  exact tT_of (goT R p fun k F1 T1 H1 e1 g1 R1 x1 q1 => doneQ R1 q1)
theorem se_one {op : BoolOp} (ha : PE X a (tO c W ma)) : PE X (.BoolOp op [a] pos) (tO c W ma) := pe_one ha
theorem se_and {rest : List Expr} (ha : PE X a (tO c W ma)) (hb : PE X (.BoolOp .And (b :: rest) pos) (tO c W mb)) : PE X (.BoolOp .And (a :: b :: rest) pos) (tO c W (mIf (mT ma) mb (mC (.bl false)))) :=
  peImp (pe_and ha hb) fun σ H Q ⟨F, T, e, g, R, p⟩ => tT_of (goT R p fun k F1 T1 H1 e1 g1 R1 x1 q1 => by
    cases k with
    | true => exact ⟨F1, T1, e1, g1, R1, q1.imp fun sv F2 T2 H2 _ _ _ _ q v o => q v (o.start x1.n)⟩
    | false => exact doneQ R1 q1 _ (.bl false))
theorem se_or {rest : List Expr} (ha : PE X a (tO c W ma)) (hb : PE X (.BoolOp .Or (b :: rest) pos) (tO c W mb)) : PE X (.BoolOp .Or (a :: b :: rest) pos) (tO c W (mIf (mT ma) (mC (.bl true)) mb)) :=
  peImp (pe_or ha hb) fun σ H Q ⟨F, T, e, g, R, p⟩ => tT_of (goT R p fun k F1 T1 H1 e1 g1 R1 x1 q1 => by
    cases k with
    | true => exact doneQ R1 q1 _ (.bl true)
    | false => exact ⟨F1, T1, e1, g1, R1, q1.imp fun sv F2 T2 H2 _ _ _ _ q v o => q v (o.start x1.n)⟩)
theorem se_if (hc : PT X d (tT c W na)) (ha : PE X a (tO c W ma)) (hb : PE X b (tO c W mb)) : PE X (.IfExp d a b pos) (tO c W (mIf na ma mb)) :=
  peImp (pe_ifExp hc ha hb) fun σ H Q ⟨F, T, e, g, R, p⟩ => goT R p fun k F1 T1 H1 e1 g1 R1 x1 q1 => by
    cases k with
    | true => exact ⟨F1, T1, e1, g1, R1, q1.imp fun sv F2 T2 H2 _ _ _ _ q v o => q v (o.start x1.n)⟩
    | false => exact ⟨F1, T1, e1, g1, R1, q1.imp fun sv F2 T2 H2 _ _ _ _ q v o => q v (o.start x1.n)⟩
theorem se_neg (ha : PE X a (tP c W ma)) : PE X (.UnaryOp .USub a pos) (tO c W (mNeg ma)) := peImp (pe_un un_neg ha) fun σ H Q ⟨F, T, e, g, R, p⟩ => goP R p fun sv v F1 T1 H1 e1 g1 R1 x1 o q1 => by
  cases sv with
  | dat d =>
    cases d with
    | int i => obtain ⟨⟩ := o; exact ⟨i, rfl, doneQ R1 q1 _ (.int (-i))⟩
    | _ => exact (show False from q1).elim
  | _ => exact (show False from q1).elim
end

/-! ### arguments, displays -/
section
variable {X : Cx} {c : Cn} {W : WX} {a : Expr} {es : List Expr} {md : M D} {ms : List (M D)} {ma : M SV} {ns : List (M SV)} {pos : Pos}
theorem sa_nil : PA X [] (tA c W (mAll [])) := paImp pa_nil fun σ H Q ⟨F, T, e, g, R, p⟩ => doneQ R p [] .nil
theorem sa_cons (ha : PE X a (tV c W md)) (hr : PA X es (tA c W (mAll ms))) (hs : starEach (a :: es) X.env = (false, eval a X.env) :: starEach es X.env) : PA X (a :: es) (tA c W (mAll (md :: ms))) :=
  paImp (pa_cons ha hr hs) fun σ H Q ⟨F, T, e, g, R, p⟩ => goV R p fun d v F1 T1 H1 e1 g1 R1 x1 r1 q1 => goA R1 q1 fun ds vs F2 T2 H2 e2 g2 R2 x2 r2 q2 => doneQ R2 q2 (v :: vs) (.cons (r1.mono x2.f) r2)
theorem se_tup {k : Nat} (h : PA X es (tA c W (mAll ms))) : PE X (.Tuple es k pos) (tO c W (mTup ms)) := peImp (pe_tup h) fun σ H Q ⟨F, T, e, g, R, p⟩ => goA R p fun ds vs F1 T1 H1 e1 g1 R1 x1 r1 q1 => by
  split at q1
  · rename_i hl
    exact ⟨by rw [r1.length]; exact line_size hl, fun p hp => wishT R1 q1 r1 hp⟩
  · exact (show False from q1).elim
theorem se_lst (h : PA X es (tA c W (mAll ms))) : PE X (.List es pos) (tO c W (mLst ms)) := peImp (pe_lst h) fun σ H Q ⟨F, T, e, g, R, p⟩ => goA R p fun ds vs F1 T1 H1 e1 g1 R1 x1 r1 q1 => by
  split at q1
  · rename_i hl
    exact ⟨by rw [r1.length]; exact line_size hl, fun p hp => wishL R1 x1.n q1 r1 hp⟩
  · exact (show False from q1).elim
/-- looks at several values -/
inductive PRs (c : Cn) (F H : Hp) : List V → List SV → Prop
  | nil : PRs c F H [] []
  | cons {v : V} {vs : List V} {s : SV} {ss : List SV} : PRes c F H v s → PRs c F H vs ss → PRs c F H (v :: vs) (s :: ss)
theorem PRs.ext {F F1 H H1 : Hp} {T T1 : Tm} (x : Ext c F T H F1 T1 H1) : ∀ {vs : List V} {ss : List SV}, PRs c F H vs ss → PRs c F1 H1 vs ss
  | _, _, .nil => .nil
  | _, _, .cons p q => .cons (p.ext x) (PRs.ext x q)
def tAP (c : Cn) (W : WX) (m : M (List SV)) : TA := fun σ H Q => ∃ F T e g, Rel c F T e g σ H ∧ Post c W σ F T H (m e g) fun ss F' T' H' _ _ => ∀ vs, PRs c F' H' vs ss → Q vs H'
theorem goAP {α : Type} {m : M (List SV)} {f : List SV → M α} {K : α → Hp → Tm → Hp → Env → Rng → Prop} {Q : List V → Hp → Prop} {σ : L2.St} {F : Hp} {T : Tm} {H : Hp} {e : Env} {g : Rng} (R : Rel c F T e g σ H) (h : Post c W σ F T H (mBind m f e g) K)
    (k : ∀ ds vs F1 T1 H1 e1 g1, Rel c F1 T1 e1 g1 σ H1 → Ext c F T H F1 T1 H1 → PRs c F1 H1 vs ds → Post c W σ F1 T1 H1 (f ds e1 g1) K → Q vs H1) : tAP c W m σ H Q :=
  ⟨F, T, e, g, R, (Post.bind h).imp fun sv F1 T1 H1 e1 g1 R1 x1 h1 v p => k sv v F1 T1 H1 e1 g1 R1 x1 p h1⟩
theorem sp_nil : PA X [] (tAP c W (mAll [])) := paImp pa_nil fun σ H Q ⟨F, T, e, g, R, p⟩ => doneQ R p [] .nil
theorem sp_cons (ha : PE X a (tP c W ma)) (hr : PA X es (tAP c W (mAll ns))) (hs : starEach (a :: es) X.env = (false, eval a X.env) :: starEach es X.env) : PA X (a :: es) (tAP c W (mAll (ma :: ns))) :=
  paImp (pa_cons ha hr hs) fun σ H Q ⟨F, T, e, g, R, p⟩ => goP R p fun d v F1 T1 H1 e1 g1 R1 x1 r1 q1 => goAP R1 q1 fun ds vs F2 T2 H2 e2 g2 R2 x2 r2 q2 => doneQ R2 q2 (v :: vs) (.cons (r1.ext x2) r2)
end
end PV
set_option Elab.async false
set_option linter.all false
set_option maxRecDepth 100000
set_option maxHeartbeats 4000000
/-! PV7: items, slices, built-in calls. -/
namespace PV
open PySem L2 PySem.Spec PyProof.Rows

section
variable {c : Cn} {K : PySem.W.Frag} {F : Hp} {T : Tm} {e : Env} {g : Rng} {σ : L2.St} {H H0 : Hp} {W : WX} {x y : V} {a b sv : SV} {Q : VK}
theorem list_seq {a : SV} {ds : List D} (h : a.list = some ds) : a.seq = some ds := by
  cases a with
  | dat d => cases d <;> simp [SV.list] at h <;> simp [SV.seq, h]
  | own _ => simpa [SV.list, SV.seq] using h
  | _ => simp [SV.list] at h
/-! ### items -/
theorem run_idx (R : Rel c F T e g σ H) (ha : PRes c F H x a) (hb : PRes c F H y b) (hs : opIdx a b = some sv) (h : Post c W σ F T H (.ok sv e g) (Wish c H0 Q)) : rIx K x y H Q := by
  unfold opIdx at hs
  split at hs
  · rename_i z i
    obtain ⟨⟩ := ha
    obtain ⟨⟩ := hb
    split at hs
    · rename_i j hj
      split at hs
      · rename_i hl
        cases e1 : z.cps.toList[j]? with
        | none => rw [e1] at hs; cases hs
        | some ch =>
          rw [e1] at hs
          cases hs
          refine .inr (.inr ⟨z, i, ch, rfl, rfl, line_size hl, ?_, wishD R h (.str _)⟩)
          show (ixN z.cps.toList.length i).bind _ = _
          rw [show ixN z.cps.toList.length i = some j from hj]
          exact e1
      · cases hs
    · cases hs
  · rename_i i _
    obtain ⟨⟩ := hb
    split at hs
    · rename_i ds e1
      cases e2 : ixAt ds.length i with
      | none => rw [e2] at hs; cases hs
      | some j =>
        rw [e2] at hs
        cases e3 : ds[j]? with
        | none => simp [e3] at hs
        | some d =>
          simp [e3] at hs
          subst hs
          obtain ⟨p, xs, rfl, k, r⟩ := ha.seqAt R.base e1
          obtain ⟨v, hv, rv⟩ := r.get e3
          have ea : atI xs i = some v := by
            unfold atI
            rw [r.length, show ixN ds.length i = some j from e2]
            exact hv
          rcases k with k | k
          · exact .inl ⟨p, xs, i, v, rfl, rfl, .of k, ea, wishD R h rv⟩
          · exact .inr (.inl ⟨p, xs, i, v, rfl, rfl, .of k, ea, wishD R h rv⟩)
    · cases hs
  · cases hs
end
section
variable {X : Cx} {c : Cn} {W : WX} {a b d : Expr} {ma mb md : M SV} {pos : Pos}
theorem se_idx (ha : PE X a (tP c W ma)) (hb : PE X b (tP c W mb)) (hs : PlainIx b) : PE X (.Subscript a b pos) (tO c W (mIdx ma mb)) :=
  peImp (pe_ix ix_seq ha hb hs) (two (f := fun _ _ => pure .none) ha hb fun R _ pa pb hs h => run_idx R pa pb hs h)
theorem opIdx_dat {a b sv : SV} (h : opIdx a b = some sv) : ∃ d, sv = .dat d := by
  unfold opIdx at h
  split at h
  · rename_i z i
    split at h
    · rename_i j hj
      split at h
      · cases e1 : z.cps.toList[j]? with
        | none => rw [e1] at h; cases h
        | some ch => rw [e1] at h; cases h; exact ⟨_, rfl⟩
      · cases h
    · cases h
  · split at h
    · rename_i i _ _ ds e1
      cases e2 : ixAt ds.length i with
      | none => rw [e2] at h; cases h
      | some j =>
        rw [e2] at h
        cases e3 : ds[j]? with
        | none => simp [e3] at h
        | some d => simp [e3] at h; exact ⟨d, h.symm⟩
    · cases h
  · cases h
/-- a row of a list of lists that may change, for a look -/
theorem se_rowP {i : Nat} {x : Str} {p : Pos} (hN : X.N[i]? = some x) (hv : Vis X.env.scope x) (hd : (x == ("__debug__" : Str)) = false) (hcd : (x == ("__classdict__" : Str)) = false) (hb : PE X b (tP c W mb)) (hs : PlainIx b) :
    PE X (.Subscript (.Name x p) b pos) (tP c W (mRowP i mb)) :=
  peImp (pe_ix ix_seq (pe_var hN hv hd hcd) hb hs) fun σ H Q ⟨F, T, e, g, R, p⟩ => by
    have key : ∀ v, σ[i]? = some (some v) → Post c W σ F T H (mBind mb (fun y => mBind (mVarP i) fun sv => match sv with
          | .owns dss => match y with
            | .dat (.int k) => mOpt ((ixAt dss.length k).bind fun j => (dss[j]?).map SV.own)
            | _ => mOpt none
          | sv => mOpt (opIdx sv y)) e g) (fun sv F' T' H' _ _ => ∀ v, PRes c F' H' v sv → Q v H') → tP c W mb σ H fun y H2 => rIx X.K v y H2 Q := fun v hv p => goP R p fun sb y F2 T2 H2 e2 g2 R2 x2 p2 q2 => by
      have q2' : Post c W σ F2 T2 H2 ((mVarP i e2 g2).bind _) _ := q2
      unfold mVarP at q2'
      split at q2'
      · rename_i sv hsv
        obtain ⟨w, h1, h2⟩ := R2.slot i sv hsv
        rw [hv] at h1
        cases h1
        have pv := R2.look h2
        have q3 : Post c W σ F2 T2 H2 ((match sv with
          | .owns dss => match sb with
            | .dat (.int k) => mOpt ((ixAt dss.length k).bind fun j => (dss[j]?).map SV.own)
            | _ => mOpt none
          | sv => mOpt (opIdx sv sb)) e2 g2) (fun sv F' T' H' _ _ => ∀ v, PRes c F' H' v sv → Q v H') := q2'
        have plain : ∀ sv', PRes c F2 H2 v sv' → Post c W σ F2 T2 H2 (mOpt (opIdx sv' sb) e2 g2) (fun sv F' T' H' _ _ => ∀ v, PRes c F' H' v sv → Q v H') → rIx X.K v y H2 Q := fun sv' pv' q4 => by
          obtain ⟨sr, hr, q5⟩ := Post.opt q4
          obtain ⟨d, rfl⟩ := opIdx_dat hr
          exact run_idx (H0 := H2) R2 pv' p2 hr (q5.imp fun s F' T' H' _ _ _ _ k v o => k v (o.look R2.base))
        cases sv with
        | owns dss =>
          cases sb with
          | dat db =>
            cases db with
            | int k =>
              obtain ⟨⟩ := p2
              obtain ⟨sr, hr, q5⟩ := Post.opt (o := (ixAt dss.length k).bind fun j => (dss[j]?).map SV.own) q3
              cases e2' : ixAt dss.length k with
              | none => rw [e2'] at hr; cases hr
              | some j =>
                rw [e2'] at hr
                cases e3 : dss[j]? with
                | none => simp [e3] at hr
                | some ds =>
                  simp [e3] at hr
                  subst hr
                  obtain ⟨a, as, rfl, n1, n2, ka, l, rr⟩ := pv
                  have hj : j < as.length := by
                    have := (List.getElem?_eq_some_iff.mp e3).1
                    omega
                  have ej : as[j]? = some as[j] := List.getElem?_eq_getElem hj
                  obtain ⟨m1, m2, xs, kb, rb⟩ := rr j _ ds ej e3
                  refine .inl ⟨a, as.map V.ref, k, .ref as[j], rfl, rfl, .of ka, ?_, doneQ R2 q5 _ ⟨_, xs, rfl, m1, m2, kb, rb⟩⟩
                  unfold atI
                  rw [List.length_map, l, show ixN dss.length k = some j from e2']
                  show (as.map V.ref)[j]? = _
                  rw [List.getElem?_map, ej]; rfl
            | _ => exact (show False from q3).elim
          | _ => exact (show False from q3).elim
        | dat d => exact plain _ pv q3
        | own ds => exact plain _ pv q3
        | dk _ => exact plain _ pv q3
        | dt _ => exact plain _ pv q3
      · exact (show False from q2').elim
    have p' : Post c W σ F T H ((mVarP i e g).bind _) _ := p
    unfold mVarP at p'
    split at p'
    · rename_i sv0 h0
      obtain ⟨v, h1, _⟩ := R.slot i sv0 h0
      exact ⟨v, h1, key v h1 p'⟩
    · exact (show False from p').elim
end
end PV
set_option Elab.async false
set_option linter.all false
set_option maxRecDepth 100000
set_option maxHeartbeats 4000000
/-! PV8: slices, built-in calls, list.index. -/
namespace PV
open PySem L2 PySem.Spec PyProof.Rows

/-! ### slices -/
def tPM (c : Cn) (W : WX) (m : M (Option Int)) : TO := fun σ H Q => ∃ F T e g, Rel c F T e g σ H ∧ Post c W σ F T H (m e g) fun o F' T' H' _ _ => Q o H'
section
variable {X : Cx} {c : Cn} {W : WX} {a b d : Expr} {ma mb md : M SV} {pos p2 : Pos} {lo hi : Option Expr} {ml mh : Option (M SV)}
theorem goPM {α : Type} {m : M (Option Int)} {f : Option Int → M α} {K : α → Hp → Tm → Hp → Env → Rng → Prop} {Q : Option Int → Hp → Prop} {σ : L2.St} {F : Hp} {T : Tm} {H : Hp} {e : Env} {g : Rng} (R : Rel c F T e g σ H) (h : Post c W σ F T H (mBind m f e g) K)
    (k : ∀ o F1 T1 H1 e1 g1, Rel c F1 T1 e1 g1 σ H1 → Ext c F T H F1 T1 H1 → Post c W σ F1 T1 H1 (f o e1 g1) K → Q o H1) : tPM c W m σ H Q :=
  ⟨F, T, e, g, R, (Post.bind h).imp fun o F1 T1 H1 e1 g1 R1 x1 h1 => k o F1 T1 H1 e1 g1 R1 x1 h1⟩
theorem poImp {e : Option Expr} {t t' : TO} (h : PO X e t) (k : ∀ σ H Q, t' σ H Q → t σ H Q) : PO X e t' := ⟨fun pins s σ H Q I q => h.run pins s σ H Q I (k σ H Q q)⟩
theorem so_none : PO X none (tPM c W (mPart none)) := poImp po_none fun σ H Q ⟨F, T, e, g, R, p⟩ => doneQ R p
theorem so_some (h : PE X a (tP c W ma)) : PO X (some a) (tPM c W (mPart (some ma))) := poImp (po_some h) fun σ H Q ⟨F, T, e, g, R, p⟩ => goP R p fun sv v F1 T1 H1 e1 g1 R1 x1 o q1 => by
  cases sv with
  | dat d =>
    cases d with
    | int i => obtain ⟨⟩ := o; exact ⟨i, rfl, doneQ R1 q1⟩
    | _ => exact (show False from q1).elim
  | _ => exact (show False from q1).elim
theorem cut_reps {F : Hp} {xs : List V} {ds : List D} (r : Reps c F xs ds) (lo hi : Option Int) : Reps c F (cutV xs lo hi) (cutAt ds lo hi) := by
  unfold cutV cutAt
  rw [r.length]
  exact (r.drop _).take _
theorem cut_whole {α : Type} {xs : List α} {lo hi : Option Int} (h1 : HT.sIx xs.length 0 lo = 0) (h2 : HT.sIx xs.length xs.length hi = xs.length) : cutAt xs lo hi = xs := by
  unfold cutAt
  rw [h1, h2]
  simp
theorem se_slice (ha : PE X a (tP c W ma)) (hl : PO X lo (tPM c W (mPart ml))) (hh : PO X hi (tPM c W (mPart mh))) : PE X (.Subscript a (.Slice lo hi none p2) pos) (tO c W (mSlice ma ml mh)) :=
  peImp (pe_slice (sl_list.or sl_tupA) ha hl hh) fun σ H Q ⟨F, T, e, g, R, p⟩ => goP R p fun sa x F1 T1 H1 e1 g1 R1 x1 p1 q1 => goPM R1 q1 fun l F2 T2 H2 e2 g2 R2 x2 q2 => goPM R2 q2 fun u F3 T3 H3 e3 g3 R3 x3 q3 => by
    obtain ⟨sv, hs, q⟩ := Post.opt q3
    have pa := (p1.ext x2).ext x3
    have n : ∀ p, H3 p = none → H p = none := fun p hp => x1.n p (x2.n p (x3.n p hp))
    unfold opSlice at hs
    split at hs
    · rename_i ds
      cases hs
      have pa' : Rep c F3 x (.tup ds) := pa
      cases pa' with | tup k r =>
      refine .inr ⟨_, _, rfl, .of (R3.base.sub _ _ k), fun ⟨z1, z2⟩ => wishD R3 q (.tup k ?_), fun _ p hp => wishT R3 q (cut_reps r l u) hp⟩
      rw [r.length] at z1 z2
      rw [cut_whole z1 z2]
      exact r
    · cases e1 : sa.list with
      | none => rw [e1] at hs; cases hs
      | some ds =>
        rw [e1] at hs
        cases hs
        obtain ⟨b, xs, rfl, k, r⟩ := pa.listAt R3.base e1
        exact .inl ⟨b, xs, rfl, .of k, fun p hp => wishL R3 n q (cut_reps r l u) hp⟩
end

/-! ### built-in calls by rules of our own -/
section
variable {X : Cx}
def rSumA (K : PySem.W.Frag) : List V → Hp → VK → Prop := fun vs H Q => ∃ (a : Addr) (ns : List Int), vs = [V.ref a] ∧ (SqL K H a (ns.map V.int) ∨ SqT K H a (ns.map V.int)) ∧ Q (.int ns.sum) H
theorem cr_sumA (hc : X.calm = true) : CallR X (.builtin "sum") (rSumA X.K) := by
  intro pins s σ H vs us Q I r h
  obtain ⟨a, ns, rfl, hs | hs, q⟩ := h
  · exact cr_sum hc pins s σ H _ us Q I r ⟨a, ns, rfl, hs, q⟩
  · obtain ⟨its, rv, ht, _⟩ := I.tuple hs
    rw [Vals.ref1 r]
    obtain ⟨xs, e⟩ := rv.ints.allInts.items
    have hn : numsOf (intItems xs).toList = ns := by rw [← e]; exact rv.ints.numsOf
    rw [nums_intItems] at hn
    have ht' : s.heap.IsTuple a its.toArray := ht
    rw [e] at ht'
    refine PySem.W.ktm_sumG (I.ok.hd hc) ht' fun h' tk t' hk => ⟨.int _, H, I.kept hk, ⟨_, rfl⟩, ?_⟩
    rw [preSum_eq, List.take_of_length_le (by simp), hn]
    exact q
theorem alike_ints (ns : List Int) : PySem.W.AlikeAll (ns.map PyData.int) := by
  refine ⟨fun x hx y hy => ?_, fun x hx => ?_⟩
  · obtain ⟨i, _, rfl⟩ := List.mem_map.mp hx
    obtain ⟨j, _, rfl⟩ := List.mem_map.mp hy
    rfl
  · obtain ⟨i, _, rfl⟩ := List.mem_map.mp hx
    intro z; cases z
theorem depth_ints : ∀ ns : List Int, PyData.depthAll (ns.map PyData.int) = 0
  | [] => rfl
  | n :: ns => by simp [PyData.depthAll, PyData.depth, depth_ints ns]
theorem dps_ints {K : PySem.W.Frag} {H : Hp} : ∀ ns : List Int, DpAll K H (ns.map V.int) (ns.map PyData.int)
  | [] => .nil
  | n :: ns => .cons (.int n) (dps_ints ns)
theorem reads_int {h : Heap} {v : Value} {i : Int} {as : List Addr} (r : Reads h v (.int i) as) : ∃ t, v = .int i t := by
  cases r with | int _ t => exact ⟨t, rfl⟩
def rMaxA (K : PySem.W.Frag) : List V → Hp → VK → Prop := fun vs H Q => ∃ (a : Addr) (n : Int) (ns : List Int), vs = [V.ref a] ∧ (SqL K H a ((n :: ns).map V.int) ∨ SqT K H a ((n :: ns).map V.int)) ∧ Q (.int (ns.foldl max n)) H
def rMinA (K : PySem.W.Frag) : List V → Hp → VK → Prop := fun vs H Q => ∃ (a : Addr) (n : Int) (ns : List Int), vs = [V.ref a] ∧ (SqL K H a ((n :: ns).map V.int) ∨ SqT K H a ((n :: ns).map V.int)) ∧ Q (.int (ns.foldl min n)) H
theorem cr_maxA (hc : X.calm = true) (hu : X.A.units + 65 < cLine) : CallR X (.builtin "max") (rMaxA X.K) := by
  intro pins s σ H vs us Q I r h
  obtain ⟨a, n, ns, rfl, hs, q⟩ := h
  rw [Vals.ref1 r]
  have fin : ∀ {v h' tk bs}, Reads h' v (PySem.W.maxD (.int n) (ns.map PyData.int)) bs → (∀ b o, s.heap.get? b = some o → h'.get? b = some o) → EP X pins σ Q v { s with heap := h', toks := tk } := fun {v h' tk bs} rd hk => by
    rw [PySem.W.maxD_ints] at rd
    obtain ⟨t, rfl⟩ := reads_int rd
    exact ⟨.int _, H, I.kept hk, ⟨t, rfl⟩, q⟩
  have dz : PyData.depthAll (PyData.int n :: ns.map PyData.int) = 0 := depth_ints (n :: ns)
  rcases hs with hs | hs
  · obtain ⟨its, rv, hl, _⟩ := I.list hs
    obtain ⟨as, hr⟩ := Dp.readsAll I _ _ its (dps_ints (K := X.K) (n :: ns)) rv
    exact PySem.W.max_list_data (I.ok.hd hc) hl.isList hr (alike_ints (n :: ns)) (by rw [dz]; omega) fun i v h' tk bs _ rd hk => fin rd hk
  · obtain ⟨its, rv, ht, _⟩ := I.tuple hs
    obtain ⟨as, hr⟩ := Dp.readsAll I _ _ its (dps_ints (K := X.K) (n :: ns)) rv
    exact PySem.W.max_tuple_data (I.ok.hd hc) (show s.heap.IsTuple a its.toArray from ht) hr (alike_ints (n :: ns)) (by rw [dz]; omega) fun i v h' tk bs _ rd hk => fin rd hk
theorem cr_minA (hc : X.calm = true) (hu : X.A.units + 65 < cLine) : CallR X (.builtin "min") (rMinA X.K) := by
  intro pins s σ H vs us Q I r h
  obtain ⟨a, n, ns, rfl, hs, q⟩ := h
  rw [Vals.ref1 r]
  have fin : ∀ {v h' tk bs}, Reads h' v (PySem.W.minD (.int n) (ns.map PyData.int)) bs → (∀ b o, s.heap.get? b = some o → h'.get? b = some o) → EP X pins σ Q v { s with heap := h', toks := tk } := fun {v h' tk bs} rd hk => by
    rw [PySem.W.minD_ints] at rd
    obtain ⟨t, rfl⟩ := reads_int rd
    exact ⟨.int _, H, I.kept hk, ⟨t, rfl⟩, q⟩
  have dz : PyData.depthAll (PyData.int n :: ns.map PyData.int) = 0 := depth_ints (n :: ns)
  rcases hs with hs | hs
  · obtain ⟨its, rv, hl, _⟩ := I.list hs
    obtain ⟨as, hr⟩ := Dp.readsAll I _ _ its (dps_ints (K := X.K) (n :: ns)) rv
    exact PySem.W.min_list_data (I.ok.hd hc) hl.isList hr (alike_ints (n :: ns)) (by rw [dz]; omega) fun i v h' tk bs _ rd hk => fin rd hk
  · obtain ⟨its, rv, ht, _⟩ := I.tuple hs
    obtain ⟨as, hr⟩ := Dp.readsAll I _ _ its (dps_ints (K := X.K) (n :: ns)) rv
    exact PySem.W.min_tuple_data (I.ok.hd hc) (show s.heap.IsTuple a its.toArray from ht) hr (alike_ints (n :: ns)) (by rw [dz]; omega) fun i v h' tk bs _ rd hk => fin rd hk
end

/-- how a built-in is asked of its arguments -/
abbrev CR := List V → Hp → VK → Prop
def BiRun (c : Cn) (K : PySem.W.Frag) (f : List SV → Option SV) (r : CR) : Prop :=
  ∀ {W : WX} {F : Hp} {T : Tm} {e : Env} {g : Rng} {σ : L2.St} {H H0 : Hp} {vs : List V} {ss : List SV} {sv : SV} {Q : VK}, Rel c F T e g σ H → (∀ p, H p = none → H0 p = none) → PRs c F H vs ss → f ss = some sv →
    Post c W σ F T H (.ok sv e g) (Wish c H0 Q) → r vs H Q
theorem BiRun.orL {c : Cn} {K : PySem.W.Frag} {f : List SV → Option SV} {r r' : CR} (h : BiRun c K f r) : BiRun c K f (fun xs H Q => r xs H Q ∨ r' xs H Q) := fun R n p e q => .inl (h R n p e q)
section
variable {c : Cn} {K : PySem.W.Frag}
theorem PRs.one {F H : Hp} {vs : List V} {a : SV} (p : PRs c F H vs [a]) : ∃ v, vs = [v] ∧ PRes c F H v a := by
  cases p with | cons p q => cases q; exact ⟨_, rfl, p⟩
theorem PRs.two {F H : Hp} {vs : List V} {a b : SV} (p : PRs c F H vs [a, b]) : ∃ v w, vs = [v, w] ∧ PRes c F H v a ∧ PRes c F H w b := by
  cases p with | cons p q => cases q with | cons q r => cases r; exact ⟨_, _, rfl, p, q⟩
abbrev rLenQ (K : PySem.W.Frag) : CR := fun xs H Q => ∃ p ys, xs = [.ref p] ∧ (SqL K H p ys ∨ SqT K H p ys) ∧ Q (.int ys.length) H
abbrev rLenS : CR := fun xs H Q => ∃ z, xs = [.str z] ∧ z.length ≤ sizeLine ∧ Q (.int z.length) H
theorem ints_seq {F : Hp} {T : Tm} {e : Env} {g : Rng} {σ : L2.St} {H : Hp} {v : V} {a : SV} {ns : List Int} (R : Rel c F T e g σ H) (p : PRes c F H v a) (h : a.seq.bind D.ints = some ns) :
    ∃ b, v = .ref b ∧ (SqL K H b (ns.map V.int) ∨ SqT K H b (ns.map V.int)) := by
  cases e1 : a.seq with
  | none => rw [e1] at h; cases h
  | some ds =>
    rw [e1] at h
    obtain ⟨b, xs, rfl, k, r⟩ := p.seqAt R.base e1
    have := r.ints_of h
    subst this
    exact ⟨b, rfl, seqOr k⟩
theorem bls_list {F : Hp} {T : Tm} {e : Env} {g : Rng} {σ : L2.St} {H : Hp} {v : V} {a : SV} {ns : List Bool} (R : Rel c F T e g σ H) (p : PRes c F H v a) (h : a.list.bind D.bls = some ns) :
    ∃ b, v = .ref b ∧ SqL K H b (ns.map V.bl) := by
  cases e1 : a.list with
  | none => rw [e1] at h; cases h
  | some ds =>
    rw [e1] at h
    obtain ⟨b, xs, rfl, k, r⟩ := p.listAt R.base e1
    have := r.bls_of h
    subst this
    exact ⟨b, rfl, .of k⟩
theorem br_sum : BiRun c K (opBi .sum) (rSumA K) := fun {W F T e g σ H H0 vs ss sv Q} R n p h q => by
  match ss, h with
  | [a], h =>
    obtain ⟨v, rfl, p1⟩ := p.one
    have h' : (a.seq.bind D.ints).map (fun ns => SV.dat (.int ns.sum)) = some sv := h
    cases e1 : a.seq.bind D.ints with
    | none => rw [e1] at h'; cases h'
    | some ns =>
      rw [e1] at h'
      cases h'
      obtain ⟨b, rfl, k⟩ := ints_seq (K := K) R p1 e1
      exact ⟨b, ns, rfl, k, wishD R q (.int _)⟩
  | [], h => cases h
  | _ :: _ :: _, h => cases h
theorem br_max : BiRun c K (opBi .max) (rMaxA K) := fun {W F T e g σ H H0 vs ss sv Q} R n p h q => by
  match ss, h with
  | [a], h =>
    obtain ⟨v, rfl, p1⟩ := p.one
    have h' : (a.seq.bind D.ints).bind opMax = some sv := h
    cases e1 : a.seq.bind D.ints with
    | none => rw [e1] at h'; cases h'
    | some ns =>
      rw [e1] at h'
      obtain ⟨b, rfl, k⟩ := ints_seq (K := K) R p1 e1
      cases ns with
      | nil => cases h'
      | cons n' ns => cases h'; exact ⟨b, n', ns, rfl, k, wishD R q (.int _)⟩
  | [], h => cases h
  | _ :: _ :: _, h => cases h
theorem br_min : BiRun c K (opBi .min) (rMinA K) := fun {W F T e g σ H H0 vs ss sv Q} R n p h q => by
  match ss, h with
  | [a], h =>
    obtain ⟨v, rfl, p1⟩ := p.one
    have h' : (a.seq.bind D.ints).bind opMin = some sv := h
    cases e1 : a.seq.bind D.ints with
    | none => rw [e1] at h'; cases h'
    | some ns =>
      rw [e1] at h'
      obtain ⟨b, rfl, k⟩ := ints_seq (K := K) R p1 e1
      cases ns with
      | nil => cases h'
      | cons n' ns => cases h'; exact ⟨b, n', ns, rfl, k, wishD R q (.int _)⟩
  | [], h => cases h
  | _ :: _ :: _, h => cases h
theorem br_all : BiRun c K (opBi .all) (rAll K) := fun {W F T e g σ H H0 vs ss sv Q} R n p h q => by
  match ss, h with
  | [a], h =>
    obtain ⟨v, rfl, p1⟩ := p.one
    have h' : (a.list.bind D.bls).map (fun ns => SV.dat (.bl (ns.all id))) = some sv := h
    cases e1 : a.list.bind D.bls with
    | none => rw [e1] at h'; cases h'
    | some ns =>
      rw [e1] at h'
      cases h'
      obtain ⟨b, rfl, k⟩ := bls_list (K := K) R p1 e1
      exact ⟨b, ns, rfl, k, wishD R q (.bl _)⟩
  | [], h => cases h
  | _ :: _ :: _, h => cases h
theorem br_any : BiRun c K (opBi .any) (rAny K) := fun {W F T e g σ H H0 vs ss sv Q} R n p h q => by
  match ss, h with
  | [a], h =>
    obtain ⟨v, rfl, p1⟩ := p.one
    have h' : (a.list.bind D.bls).map (fun ns => SV.dat (.bl (ns.any id))) = some sv := h
    cases e1 : a.list.bind D.bls with
    | none => rw [e1] at h'; cases h'
    | some ns =>
      rw [e1] at h'
      cases h'
      obtain ⟨b, rfl, k⟩ := bls_list (K := K) R p1 e1
      exact ⟨b, ns, rfl, k, wishD R q (.bl _)⟩
  | [], h => cases h
  | _ :: _ :: _, h => cases h
abbrev rInt2 (f : Int → Int → Int) : CR := fun xs H Q => ∃ i j, xs = [.int i, .int j] ∧ Q (.int (f i j)) H
theorem br_max2 : BiRun c K (opBi .max2) (rInt2 fun i j => if j > i then j else i) := fun {W F T e g σ H H0 vs ss sv Q} R n p h q => by
  match ss, h with
  | [.dat (.int i), .dat (.int j)], h =>
    obtain ⟨v, w, rfl, p1, p2⟩ := p.two
    cases h
    obtain ⟨⟩ := p1
    obtain ⟨⟩ := p2
    exact ⟨i, j, rfl, wishD R q (.int _)⟩
theorem br_min2 : BiRun c K (opBi .min2) (rInt2 fun i j => if j < i then j else i) := fun {W F T e g σ H H0 vs ss sv Q} R n p h q => by
  match ss, h with
  | [.dat (.int i), .dat (.int j)], h =>
    obtain ⟨v, w, rfl, p1, p2⟩ := p.two
    cases h
    obtain ⟨⟩ := p1
    obtain ⟨⟩ := p2
    exact ⟨i, j, rfl, wishD R q (.int _)⟩
theorem br_abs : BiRun c K (opBi .abs) (fun xs H Q => ∃ i, xs = [.int i] ∧ Q (.int (if i < 0 then -i else i)) H) := fun {W F T e g σ H H0 vs ss sv Q} R n p h q => by
  match ss, h with
  | [.dat (.int i)], h =>
    obtain ⟨v, rfl, p1⟩ := p.one
    cases h
    obtain ⟨⟩ := p1
    exact ⟨i, rfl, wishD R q (.int _)⟩
abbrev rTupA (K : PySem.W.Frag) : CR := fun xs H Q => ∃ p ys, xs = [.ref p] ∧ ((SqL K H p ys ∧ ∀ l, H l = none → Q (.ref l) (upd H l (.tup ys))) ∨ (SqT K H p ys ∧ Q (.ref p) H))
abbrev rLstA (K : PySem.W.Frag) : CR := fun xs H Q => ∃ p ys, xs = [.ref p] ∧ (SqL K H p ys ∨ SqT K H p ys) ∧ ∀ l, H l = none → Q (.ref l) (upd H l (.lst ys))
theorem PRes.tupAt {F H : Hp} {g : Rng} (b : Base c F g H) {v : V} {a : SV} {ds : List D} (h : PRes c F H v a) (e : a.seq = some ds) :
    (∃ p xs, v = .ref p ∧ H p = some (.lst xs) ∧ Reps c F xs ds) ∨ ∃ p xs, v = .ref p ∧ F p = some (.tup xs) ∧ Reps c F xs ds := by
  cases a with
  | dat d =>
    have h' : Rep c F v d := h
    cases d with
    | lst es => cases e; cases h' with | lst k r => exact .inl ⟨_, _, rfl, b.sub _ _ k, r⟩
    | tup es => cases e; cases h' with | tup k r => exact .inr ⟨_, _, rfl, k, r⟩
    | _ => cases e
  | own es =>
    cases e
    obtain ⟨a, xs, rfl, _, _, k, r⟩ := h
    exact .inl ⟨a, xs, rfl, k, r⟩
  | _ => cases e
theorem br_tuple : BiRun c K (opBi .tuple) (rTupA K) := fun {W F T e g σ H H0 vs ss sv Q} R n p h q => by
  match ss, h with
  | [a], h =>
    obtain ⟨v, rfl, p1⟩ := p.one
    have h' : a.seq.map (fun ds => SV.dat (.tup ds)) = some sv := h
    cases e1 : a.seq with
    | none => rw [e1] at h'; cases h'
    | some ds =>
      rw [e1] at h'
      cases h'
      rcases p1.tupAt R.base e1 with ⟨b, xs, rfl, k, r⟩ | ⟨b, xs, rfl, k, r⟩
      · exact ⟨b, xs, rfl, .inl ⟨.of k, fun l hl => wishT R q r hl⟩⟩
      · exact ⟨b, xs, rfl, .inr ⟨.of (R.base.sub _ _ k), wishD R q (.tup k r)⟩⟩
  | [], h => cases h
  | _ :: _ :: _, h => cases h
theorem br_list : BiRun c K (opBi .list) (rLstA K) := fun {W F T e g σ H H0 vs ss sv Q} R n p h q => by
  match ss, h with
  | [a], h =>
    obtain ⟨v, rfl, p1⟩ := p.one
    have h' : a.seq.map (fun ds => SV.own ds) = some sv := h
    cases e1 : a.seq with
    | none => rw [e1] at h'; cases h'
    | some ds =>
      rw [e1] at h'
      cases h'
      obtain ⟨b, xs, rfl, k, r⟩ := p1.seqAt R.base e1
      exact ⟨b, xs, rfl, seqOr k, fun l hl => wishL R n q r hl⟩
  | [], h => cases h
  | _ :: _ :: _, h => cases h
abbrev rInt1 : CR := fun xs H Q => (∃ i, xs = [.int i] ∧ Q (.int i) H) ∨ ∃ k, xs = [.bl k] ∧ Q (.int (if k then 1 else 0)) H
abbrev rIntS : CR := fun xs H Q => ∃ a n, xs = [.str a] ∧ PySem.intText? a = some n ∧ a.length ≤ 640 ∧ Q (.int n) H
theorem br_int : BiRun c K (opBi .int) (fun xs H Q => rInt1 xs H Q ∨ rIntS xs H Q) := fun {W F T e g σ H H0 vs ss sv Q} R n p h q => by
  match ss, h with
  | [.dat (.int i)], h =>
    obtain ⟨v, rfl, p1⟩ := p.one
    cases h
    obtain ⟨⟩ := p1
    exact .inl (.inl ⟨i, rfl, wishD R q (.int _)⟩)
  | [.dat (.bl b)], h =>
    obtain ⟨v, rfl, p1⟩ := p.one
    cases h
    obtain ⟨⟩ := p1
    exact .inl (.inr ⟨b, rfl, wishD R q (.int _)⟩)
  | [.dat (.str x)], h =>
    obtain ⟨v, rfl, p1⟩ := p.one
    have h' : (if x.length ≤ 640 then (PySem.intText? x).map fun i => SV.dat (.int i) else none) = some sv := h
    split at h'
    · rename_i hl
      cases e1 : PySem.intText? x with
      | none => rw [e1] at h'; cases h'
      | some i =>
        rw [e1] at h'
        cases h'
        obtain ⟨⟩ := p1
        exact .inr ⟨x, i, rfl, e1, hl, wishD R q (.int _)⟩
    · cases h'
theorem br_str : BiRun c K (opBi .str) (fun xs H Q => ∃ i, xs = [.int i] ∧ i.natAbs.log2 < 1920 ∧ Q (.str (toString i)) H) := fun {W F T e g σ H H0 vs ss sv Q} R n p h q => by
  match ss, h with
  | [.dat (.int i)], h =>
    obtain ⟨v, rfl, p1⟩ := p.one
    have h' : (if i.natAbs.log2 < 1920 then some (SV.dat (.str (toString i))) else none) = some sv := h
    split at h' <;> cases h'
    rename_i hl
    obtain ⟨⟩ := p1
    exact ⟨i, rfl, by assumption, wishD R q (.str _)⟩
end
section
variable {X : Cx} {c : Cn} {W : WX} {x : Str} {p pos : Pos} {a : Expr} {es : List Expr} {ms : List (M SV)} {f : List SV → Option SV} {r : CR} {id Ty : String}
theorem biGo (hr : BiRun c X.K f r) {σ : L2.St} {H : Hp} {Q : VK} (h : tO c W (mBind (mAll ms) fun xs => mOpt (f xs)) σ H Q) : tCB r (tAP c W (mAll ms)) σ H Q := by
  obtain ⟨F, T, e, g, R, p⟩ := h
  exact goAP R p fun ss vs F1 T1 H1 e1 g1 R1 x1 r1 q1 => by
    obtain ⟨sv, hs, q⟩ := Post.opt q1
    exact hr R1 x1.n r1 hs q
theorem se_callB (hc : CallR X (.builtin id) r) (hr : BiRun c X.K f r) (hg : Gl X x) (hm : X.mg x = none) (hv : bootBuiltins x = some (.builtin id)) (ha : PA X (a :: es) (tAP c W (mAll ms))) (hn : x ≠ "__name__") (hdb : (x == ("__debug__" : Str)) = false)
    (he : starEach (a :: es) X.env = (false, eval a X.env) :: starEach es X.env) (hpl : (backTo pos (starEach es X.env)).any (·.1) = false) : PE X (.Call (.Name x p) (a :: es) [] pos) (tO c W (mBind (mAll ms) fun xs => mOpt (f xs))) :=
  peImp (pe_callB hc hg hm hv ha hn hdb he hpl) fun σ H Q h => biGo (X := X) hr h
theorem se_callT (hc : CallR X (.type Ty) r) (hr : BiRun c X.K f r) (hg : Gl X x) (hm : X.mg x = none) (hv : bootBuiltins x = some (.type Ty)) (ha : PA X (a :: es) (tAP c W (mAll ms))) (hn : x ≠ "__name__") (hdb : (x == ("__debug__" : Str)) = false)
    (he : starEach (a :: es) X.env = (false, eval a X.env) :: starEach es X.env) (hpl : (backTo pos (starEach es X.env)).any (·.1) = false) : PE X (.Call (.Name x p) (a :: es) [] pos) (tO c W (mBind (mAll ms) fun xs => mOpt (f xs))) :=
  peImp (pe_callTy hc hg hm hv ha hn hdb he hpl) fun σ H Q h => biGo (X := X) hr h
end
end PV
set_option Elab.async false
set_option linter.all false
set_option maxRecDepth 100000
set_option maxHeartbeats 4000000
/-! PV9: list.index, isinstance, the fields of a model, calls of the text's own defs. -/
namespace PV
open PySem L2 PySem.Spec PyProof.Rows

theorem pys_len : ∀ {ds : List D} {ps : List PyData}, D.pys ds = some ps → ps.length = ds.length
  | [], ps, h => by simp [D.pys] at h; subst h; rfl
  | d :: ds, ps, h => by
    simp only [D.pys] at h
    split at h
    · rename_i p qs e1 e2
      cases h
      simp [pys_len e2]
    · cases h
theorem pys_get : ∀ {ds : List D} {ps : List PyData} {j : Nat} {d : D}, D.pys ds = some ps → ds[j]? = some d → ∃ p, ps[j]? = some p ∧ d.py = some p
  | [], _, _, _, _, h => by simp at h
  | x :: ds, ps, j, d, h, hd => by
    simp only [D.pys] at h
    split at h
    · rename_i p qs e1 e2
      cases h
      cases j with
      | zero => simp at hd; subst hd; exact ⟨p, rfl, e1⟩
      | succ j =>
        obtain ⟨q, h1, h2⟩ := pys_get e2 (by simpa using hd)
        exact ⟨q, by simpa using h1, h2⟩
    · cases h
section
variable {X : Cx} {c : Cn} {W : WX} {a b d lo : Expr} {ma mb ml : M SV} {md : M D} {pos apos : Pos}
/-- the place of the first equal one -/
theorem findD {F : Hp} {H : Hp} {g : Rng} {K : PySem.W.Frag} {sl : SV} {dx : D} {ds : List D} {j : Nat} {v y : V} (bs : Base c F g H) (pl : PRes c F H v sl) (rx : Rep c F y dx) (hl : sl.list = some ds)
    (hf : (dx.fine 60 && ds.all (D.fine 60)) = true) (hj : (ds.findIdx? fun z => z.eqv dx) = some j) :
    ∃ (p : PyData) (ps : List PyData) (z : PyData), Dp K H v (.list ps) ∧ Dp K H y p ∧ SeqAt.shaped (.list ps) = true ∧ SeqAt.shaped p = true ∧ ps[j]? = some z ∧ PyData.eqv z p = true ∧
      ∀ (m : Nat) (z' : PyData), m < j → ps[m]? = some z' → PyData.eqv z' p = false := by
  rw [Bool.and_eq_true] at hf
  obtain ⟨p, q1, l1, k1⟩ := fine_py 60 dx hf.1
  obtain ⟨ps, q2, l2, k2⟩ := fine_pys 60 ds hf.2
  obtain ⟨hlt, h1, h2⟩ := List.findIdx?_eq_some_iff_getElem.mp hj
  obtain ⟨z, hz, ez⟩ := pys_get q2 (List.getElem?_eq_getElem hlt)
  refine ⟨p, ps, z, pl.dpL bs hl q2, rx.dp bs.sub q1, shaped_of (by simpa [PyData.canLay0] using l2) (by simp only [PyData.depth]; omega), shaped_of l1 (by omega), hz, ?_, fun m z' hm hz' => ?_⟩
  · rw [eqv_py _ _ _ _ ez q1]; exact h1
  · have hml : m < ds.length := by omega
    obtain ⟨w, hw, ew⟩ := pys_get q2 (List.getElem?_eq_getElem hml)
    rw [hz'] at hw
    cases hw
    rw [eqv_py _ _ _ _ ew q1]
    have := h2 m hm
    simpa using this
theorem se_index (hu : X.A.units + 65 < cLine) (hl : PE X lo (tP c W ml)) (ha : PE X a (tV c W md)) (he : starEach [a] X.env = (false, eval a X.env) :: starEach [] X.env) (hab : attributeBase lo "index" X.env (eval lo X.env) = eval lo X.env)
    (hfew : (((backTo pos (starEach [a] X.env)).all fun x => !x.1) && (backToKw pos (keywordEach [] X.env)).all (fun x => x.1.isSome) && decide ([a].length + ([] : List Keyword).length + (if ([] : List Keyword).isEmpty = true then 0 else 1) < 30)) = true) (hline : (apos.endLine == pos.line) = true) :
    PE X (.Call (.Attribute lo "index" apos) [a] [] pos) (tO c W (mIndex ml md)) := by
  refine peImp (pe_bm PySem.F.plainAttrs_list PySem.F.slot_list_index PySem.F.type_list_index (mt_indexD hu) hl (pa_cons ha pa_nil he) hab hfew hline he) fun σ H Q ⟨F, T, e, g, R, p⟩ => goP R p fun sl v F1 T1 H1 e1 g1 R1 x1 p1 q1 => ?_
  obtain ⟨ds, el, q1⟩ := Post.optBind q1
  obtain ⟨b, xs, rfl, k, _⟩ := p1.listAt R1.base el
  refine ⟨.inl ⟨rfl, xs, .of k⟩, goV R1 q1 fun dx y F2 T2 H2 e2 g2 R2 x2 r2 q2 => ?_⟩
  obtain ⟨sv, hs, q⟩ := Post.opt q2
  unfold opIndex at hs
  rw [el] at hs
  have hs' : (if (dx.fine 60 && ds.all (D.fine 60)) = true then (ds.findIdx? fun z => z.eqv dx).map fun j => SV.dat (.int (j : Nat)) else none) = some sv := hs
  split at hs'
  · rename_i hf
    cases ej : ds.findIdx? fun z => z.eqv dx with
    | none => rw [ej] at hs'; cases hs'
    | some j =>
      rw [ej] at hs'
      cases hs'
      obtain ⟨p, ps, z, d1, d2, s1, s2, h1, h2, h3⟩ := findD (K := X.K) R2.base (p1.ext x2) r2 el hf ej
      exact ⟨b, y, p, ps, j, z, rfl, rfl, d1, d2, s1, s2, h1, h2, h3, wishD R2 q (.int _)⟩
  · cases hs'
end

/-! ### isinstance -/
def Ty.name : Ty → String
  | .int => "int" | .bool => "bool" | .str => "str" | .tuple => "tuple" | .list => "list" | .model => "Model"
/-- what the written part says of the class Model -/
structure MdOk (K : PySem.W.Frag) (C : Addr) : Prop where
  cls : Cls K C
  rows : NoAttr K C "rows"
  ha : PySem.W.findIn K (.ref C) "__class__" = some (some (.builtin "object.__class__"))
  hn : PySem.W.specialIn K (.builtin "object.__class__") "__get__" = some (some (.builtin "getset_descriptor.__get__"))
  tk : PySem.W.takesIn K (.builtin "object.__class__") = some true
  mro : PySem.W.mroIn K C (.type "object") = some true
  kN : PySem.W.kitOne K (.type "NoneType") (.ref C) = some false
  kB : PySem.W.kitOne K (.type "bool") (.ref C) = some false
  kI : PySem.W.kitOne K (.type "int") (.ref C) = some false
  kS : PySem.W.kitOne K (.type "str") (.ref C) = some false
  kT : PySem.W.kitOne K (.type "tuple") (.ref C) = some false
  kL : PySem.W.kitOne K (.type "list") (.ref C) = some false
  mB : PySem.W.kitOne K (.ref C) (.type "bool") = some false
  mI : PySem.W.kitOne K (.ref C) (.type "int") = some false
  mS : PySem.W.kitOne K (.ref C) (.type "str") = some false
  mT : PySem.W.kitOne K (.ref C) (.type "tuple") = some false
  mL : PySem.W.kitOne K (.ref C) (.type "list") = some false
section
variable {X : Cx} {c : Cn} {W : WX} {a b d lo : Expr} {ma mb ml : M SV} {md : M D} {pos apos : Pos}
def Ty.val (c : Cn) : Ty → Value
  | .model => .ref c.Md
  | t => .type t.name
def Ty.vv (c : Cn) : Ty → V
  | .model => .ref c.Md
  | t => .ty t.name
theorem Ty.clsV (c : Cn) (t : Ty) : ClsV (t.vv c) (t.val c) := by
  cases t <;> first | exact .ty _ | exact .own _
theorem kit_self (K : PySem.W.Frag) (v : Value) : PySem.W.kitOne K v v = some true := by
  unfold PySem.W.kitOne
  rw [if_pos (by simp)]
/-- data's class, and the answers -/
theorem kindOf {F H : Hp} {g : Rng} {K : PySem.W.Frag} {v : V} {sv : SV} {dt : D} (m : MdOk K c.Md) (bs : Base c F g H) (p : PRes c F H v sv) (hk : sv.kind = some dt) :
    ∃ t, TyX K H v t ∧ ∀ ty : Ty, PySem.W.kitOne K t (ty.val c) = some (dt.isa ty) := by
  have lst : ∀ {ds}, sv.list = some ds → ∃ t, TyX K H v t ∧ ∀ ty : Ty, PySem.W.kitOne K t (ty.val c) = some ((D.lst ds).isa ty) := fun {ds} el => by
    obtain ⟨b, xs, rfl, k, _⟩ := p.listAt bs el
    refine ⟨_, .base (.lst k), fun ty => ?_⟩
    cases ty <;> (try simp only [D.isa, Ty.val, Ty.name]) <;> first | exact kit_ty (by decide +kernel) | exact m.kL
  cases sv with
  | own ds => cases hk; exact lst rfl
  | dat d =>
    have p' : Rep c F v d := p
    cases d with
    | non => cases hk; cases p'; exact ⟨_, .base .non, fun ty => by cases ty <;> (try simp only [D.isa, Ty.val, Ty.name]) <;> first | exact kit_ty (by decide +kernel) | exact m.kN⟩
    | bl _ => cases hk; cases p'; exact ⟨_, .base (.bl _), fun ty => by cases ty <;> (try simp only [D.isa, Ty.val, Ty.name]) <;> first | exact kit_ty (by decide +kernel) | exact m.kB⟩
    | int _ => cases hk; cases p'; exact ⟨_, .base (.int _), fun ty => by cases ty <;> (try simp only [D.isa, Ty.val, Ty.name]) <;> first | exact kit_ty (by decide +kernel) | exact m.kI⟩
    | str _ => cases hk; cases p'; exact ⟨_, .base (.str _), fun ty => by cases ty <;> (try simp only [D.isa, Ty.val, Ty.name]) <;> first | exact kit_ty (by decide +kernel) | exact m.kS⟩
    | tup _ => cases hk; cases p' with | tup k r => exact ⟨_, .base (.tup (bs.sub _ _ k)), fun ty => by cases ty <;> (try simp only [D.isa, Ty.val, Ty.name]) <;> first | exact kit_ty (by decide +kernel) | exact m.kT⟩
    | lst ds => cases hk; exact lst rfl
    | mdl _ =>
      cases hk
      cases p' with | mdl k r =>
      exact ⟨_, .base (.ins (bs.sub _ _ k) m.cls m.ha m.hn m.tk m.mro), fun ty => by cases ty <;> first | exact m.mB | exact m.mI | exact m.mS | exact m.mT | exact m.mL | exact kit_self K _⟩
    | hnd => cases hk
    | fn _ => cases hk
    | exc _ _ => cases hk
  | _ => cases hk
/-- isinstance(x, T) -/
theorem se_isa {x y : Str} {p p' : Pos} {ty : Ty} (m : MdOk X.K c.Md) (hg : Gl X "isinstance") (hm : X.mg "isinstance" = none) (ha : PE X a (tP c W ma)) (hb : PE X b (tC (ty.vv c)))
    (he : starEach [a, b] X.env = (false, eval a X.env) :: starEach [b] X.env) (he2 : starEach [b] X.env = (false, eval b X.env) :: starEach [] X.env) (hpl : (backTo pos (starEach [b] X.env)).any (·.1) = false) :
    PE X (.Call (.Name "isinstance" p) [a, b] [] pos) (tO c W (mB (mIsa ma [ty]))) :=
  peImp (pe_callB call_isi hg hm (by decide +kernel) (pa_cons ha (pa_cons hb pa_nil he2) he) (by decide) (by decide) (by rw [he]) hpl) fun σ H Q h => by
    obtain ⟨F, T, e, g, R, p⟩ := tB_of h
    exact goP R p fun sv v F1 T1 H1 e1 g1 R1 x1 p1 q1 => by
      obtain ⟨dt, hk, q⟩ := Post.optBind q1
      obtain ⟨t, h1, h2⟩ := kindOf m R1.base p1 hk
      refine ⟨v, _, t, ty.val c, dt.isa ty, rfl, ty.clsV c, h1, h2 ty, ?_⟩
      have q' := doneQ R1 q
      simpa using q'
/-- isinstance(x, (T, S)) -/
theorem se_isa2 {x y : Str} {p p' tp : Pos} {k : Nat} {ty ty2 : Ty} (m : MdOk X.K c.Md) (hg : Gl X "isinstance") (hm : X.mg "isinstance" = none) (ha : PE X a (tP c W ma)) (hb : PE X b (tC (ty.vv c))) (hd : PE X d (tC (ty2.vv c)))
    (he : starEach [a, .Tuple [b, d] k tp] X.env = (false, eval a X.env) :: starEach [.Tuple [b, d] k tp] X.env) (he2 : starEach [.Tuple [b, d] k tp] X.env = (false, eval (.Tuple [b, d] k tp) X.env) :: starEach [] X.env)
    (he3 : starEach [b, d] X.env = (false, eval b X.env) :: starEach [d] X.env) (he4 : starEach [d] X.env = (false, eval d X.env) :: starEach [] X.env) (hpl : (backTo pos (starEach [.Tuple [b, d] k tp] X.env)).any (·.1) = false) :
    PE X (.Call (.Name "isinstance" p) [a, .Tuple [b, d] k tp] [] pos) (tO c W (mB (mIsa ma [ty, ty2]))) :=
  peImp (pe_callB call_isiT hg hm (by decide +kernel) (pa_cons ha (pa_cons (pe_tup (pa_cons hb (pa_cons hd pa_nil he4) he3)) pa_nil he2) he) (by decide) (by decide) (by rw [he]) hpl) fun σ H Q h => by
    obtain ⟨F, T, e, g, R, p⟩ := tB_of h
    exact goP R p fun sv v F1 T1 H1 e1 g1 R1 x1 p1 q1 => by
      obtain ⟨dt, hk, q⟩ := Post.optBind q1
      refine ⟨by show 2 ≤ sizeLine; decide, fun tp htp => ?_⟩
      have R2 := R1.alloc (o := .tup [ty.vv c, ty2.vv c]) htp
      obtain ⟨t, h1, h2⟩ := kindOf m R2.base (p1.ext (.alloc (T := T1) htp)) hk
      refine ⟨v, tp, _, t, [ty.val c, ty2.val c], dt.isa ty || dt.isa ty2, rfl, upd_same, .cons (ty.clsV c) (.cons (ty2.clsV c) .nil), h1, ?_, ?_⟩
      · unfold PySem.W.kitAny
        rw [h2 ty]
        cases dt.isa ty with
        | true => rfl
        | false =>
          show PySem.W.kitAny X.K t [ty2.val c] = _
          unfold PySem.W.kitAny
          rw [h2 ty2]
          cases dt.isa ty2 <;> rfl
      · have q' := doneN (o := .tup [ty.vv c, ty2.vv c]) R1 htp q
        simpa using q'
end

/-! ### the fields of a model -/
section
variable {X : Cx} {c : Cn} {W : WX} {a : Expr} {ma : M SV} {pos : Pos}
theorem se_rows (m : MdOk X.K c.Md) (ha : PE X a (tP c W ma)) (hb : attributeBase a "rows" X.env (eval a X.env) = eval a X.env) : PE X (.Attribute a "rows" pos) (tO c W (mTabs ma)) :=
  peImp (pe_fld ha hb) fun σ H Q ⟨F, T, e, g, R, p⟩ => goP R p fun sv v F1 T1 H1 e1 g1 R1 x1 p1 q1 => by
    obtain ⟨sr, hs, q⟩ := Post.opt q1
    unfold opTabs at hs
    split at hs <;> cases hs
    have p' : Rep c F1 v (.mdl _) := p1
    cases p' with | mdl k r =>
    exact ⟨_, _, _, _, _, rfl, R1.base.sub _ _ k, m.cls, m.rows, by simp [List.lookup], wishD R1 q r⟩
end

/-! ### calls of the text's own defs -/
/-- what stands behind a call -/
structure ExtF (c : Cn) (F H F' H' : Hp) : Prop where
  f : Sub F F'
  h : ∀ a o, a ≠ c.L → a ≠ c.C → H a = some o → H' a = some o
  n : ∀ a, H' a = none → H a = none
  g : ∀ a o, F' a = some o → F a = some o ∨ H a = none
abbrev noT : Tm := fun _ => none
/-- the promise of a def that does f with data -/
def spOf (c : Cn) (k : Nat) (f : SemF) : Sp := fun vs H Q E => vs.length = k ∧ ∃ F ds g, Base c F g H ∧ Reps c F vs ds ∧ match f ds g with
  | .ok sv g' => ∀ v F' H', Base c F' g' H' → ExtF c F H F' H' → ORes c H F' noT H' v sv → Q v H'
  | .exc x g' => ∀ cls d F' H', Base c F' g' H' → ExtF c F H F' H' → XRep c F' H' x cls d → E cls d H'
  | .stuck => False
section
variable {c : Cn} {F F' H H' : Hp} {T : Tm} {e : Env} {g g' : Rng} {σ : L2.St}
theorem Rel.after (R : Rel c F T e g σ H) (b : Base c F' g' H') (x : ExtF c F H F' H') : Rel c F' T e g' σ H' where
  base := b
  TL := R.TL
  TC := R.TC
  dom := fun a i h => by
    obtain ⟨h1, h2⟩ := R.dom a i h
    obtain ⟨n1, n2⟩ := R.tneL h
    refine ⟨fun z => h1 (x.n a z), ?_⟩
    cases q : F' a with
    | none => rfl
    | some o =>
      rcases x.g a o q with z | z
      · rw [h2] at z; cases z
      · exact absurd z h1
  len := R.len
  slot := fun i sv h => by
    obtain ⟨v, h1, h2⟩ := R.slot i sv h
    exact ⟨v, h1, h2.mono x.f (fun _ q => q) fun a o t q => x.h a o (R.tneL t).1 (R.tneL t).2 q⟩
theorem ExtF.ext (x : ExtF c F H F' H') : Ext c F T H F' T H' := ⟨x.f, x.h, x.n, fun a o h => (x.g a o h).elim .inl fun z => .inr (.inl z), fun _ _ h => h⟩
theorem ORes.own (R : Rel c F T e g σ H) {v : V} : ∀ {sv : SV}, ORes c H F' noT H' v sv → ORes c H F' T H' v sv
  | .dat d, h => by
    have h' : Rep c F' v d := h
    exact h'
  | .own _, h => by
    obtain ⟨a, xs, e, h0, f, t, r⟩ := h
    exact ⟨a, xs, e, h0, f, R.tfree h0, r⟩
  | .owns _, h => by
    obtain ⟨a, as, e, h0, f, t, k, nd, l, r⟩ := h
    refine ⟨a, as, e, h0, f, R.tfree h0, k, nd, l, fun j b ds h1 h2 => ?_⟩
    obtain ⟨hb, fb, tb, rb⟩ := r j b ds h1 h2
    exact ⟨hb, fb, R.tfree hb, rb⟩
  | .dk _, h => by
    obtain ⟨q, a, e, h0, f, t, k⟩ := h
    exact ⟨q, a, e, h0, f, R.tfree h0, k⟩
  | .dt _, h => by
    obtain ⟨q, a, e, h0, f, t, k⟩ := h
    exact ⟨q, a, e, h0, f, R.tfree h0, k⟩
end
section
variable {X : Cx} {c : Cn} {W : WX} {a : Expr} {es : List Expr} {ms : List (M D)} {pos p : Pos} {x : Str} {f : SemF} {k n : Nat} {fa : Addr} {fd : FuncData} {ps : List Str}
theorem callGo {σ : L2.St} {H0 : Hp} {Q : VK} {F : Hp} {T : Tm} {H : Hp} {e : Env} {g : Rng} {ds : List D} {vs : List V} (R : Rel c F T e g σ H) (n0 : ∀ p, H p = none → H0 p = none) (r : Reps c F vs ds)
    (q : Post c W σ F T H (if ds.length = n then (match f ds g with | .ok sv g' => Res.ok sv e g' | .exc x g' => .exc x e g' | .stuck => .stuck) else .stuck) (Wish c H0 Q)) : spOf c n f vs H Q fun cls d H' => W cls d σ H' := by
  split at q
  · rename_i hn
    refine ⟨by rw [r.length]; exact hn, F, ds, g, R.base, r, ?_⟩
    split
    · rename_i sv g' e1
      rw [e1] at q
      exact fun v F' H' b x o => q F' T H' (R.after b x) x.ext v ((ORes.own R o).start n0)
    · rename_i x g' e1
      rw [e1] at q
      exact fun cls d F' H' b x xr => q cls d F' T H' (R.after b x) x.ext xr
    · rename_i e1
      rw [e1] at q
      exact q
  · exact (show False from q).elim
theorem se_call (tk : Takes X W) (G : FnOk X.prog X.w X.K X.mg X.base (L2.CX X.prog X.w) k fa fd ps (spOf c n f)) (hr : Room k X.A) (hg : Gl X x) (hm : X.mg x = some (.ref fa)) (hk : PySem.W.keepIn X.K (.ref fa) = true) (hb : Binds X.K fd ps [])
    (ha : PA X (a :: es) (tA c W (mAll ms))) (hdb : (x == ("__debug__" : Str)) = false) (he : starEach (a :: es) X.env = (false, eval a X.env) :: starEach es X.env) (hpl : (backTo pos (starEach es X.env)).any (·.1) = false) :
    PE X (.Call (.Name x p) (a :: es) [] pos) (tO c W (mCall n f ms)) :=
  peImp (pe_callSD (dvs := []) (E := fun σ cls d H' => W cls d σ H') G hr hg hm hk hb .nil (fun σ => passAt tk σ) ha hdb he hpl) fun σ H Q ⟨F, T, e, g, R, p⟩ => goA R p fun ds vs F1 T1 H1 e1 g1 R1 x1 r1 q1 => by
    rw [List.append_nil]
    exact callGo R1 x1.n r1 q1
/-- a property -/
theorem se_prop {nm : Str} {pa : Addr} {ma : M SV} (m : MdOk X.K c.Md) (hp : PropOf X.K c.Md nm pa fa) (G : FnOk X.prog X.w X.K X.mg X.base (L2.CX X.prog X.w) k fa fd ps (spOf c 1 f)) (hr : Room (k + 1) X.A) (hb : Binds X.K fd ps [])
    (ha : PE X a (tP c W ma)) (hab : attributeBase a nm X.env (eval a X.env) = eval a X.env) : PE X (.Attribute a nm pos) (tO c W (mProp f ma)) :=
  peImp (pe_prop (dvs := []) (E := E0) ha m.cls hp G hr hb .nil passL hab) fun σ H Q ⟨F, T, e, g, R, p⟩ => goP R p fun sv v F1 T1 H1 e1 g1 R1 x1 p1 q1 => by
    split at q1
    · rename_i t
      have p' : Rep c F1 v (.mdl t) := p1
      cases p' with | mdl k r =>
      refine ⟨_, _, _, rfl, R1.base.sub _ _ k, rfl, F1, [.mdl t], g1, R1.base, .cons (.mdl k r) .nil, ?_⟩
      split at q1
      · rename_i sv' g' e1
        rw [e1]
        exact fun v F' H' b x o => q1 F' T1 H' (R1.after b x) x.ext v ((ORes.own R1 o).start x1.n)
      · exact (show False from q1).elim
    · exact (show False from q1).elim
end
end PV
set_option Elab.async false
set_option linter.all false
set_option maxRecDepth 100000
set_option maxHeartbeats 4000000
/-! PV10: walks over lists and tuples of any mix: enumerate from any count, zip of two and of three. -/
namespace PV
open PySem L2 PySem.Spec PyProof.Rows

/-- a tuple (true) or a list (false) at a -/
def Sq (K : PySem.W.Frag) : Bool → Hp → Addr → List V → Prop
  | true, H, a, xs => SqT K H a xs
  | false, H, a, xs => SqL K H a xs
def IsSq : Bool → Heap → Addr → Array Value → Prop
  | true, h, a, xs => h.IsTuple a xs
  | false, h, a, xs => h.IsList a xs
def IsIt : Bool → Heap → Addr → Addr → Nat → Prop
  | true, h, it, a, i => h.IsTupleIter it a i
  | false, h, it, a, i => h.IsListIter it a i
def itObj : Bool → Addr → Obj
  | true, a => { cls := .type "tuple_iterator", data := .fields #[.ref a, .int 0 0] }
  | false, a => { cls := .type "list_iterator", data := .fields #[.ref a, .int 0 0] }
section
variable {X : Cx} {pins : List (Addr × Obj)} {σ : L2.St} {H : Hp} {s : Shared} {a : Addr} {xs ys : List V}
theorem inv_sq (I : Inv X pins σ H s) : ∀ {b : Bool}, Sq X.K b H a xs → ∃ its : List Value, Vals xs its ∧ IsSq b s.heap a its.toArray
  | true, q => by
    obtain ⟨its, rv, p, _⟩ := I.tuple q
    exact ⟨its, rv, p⟩
  | false, q => by
    obtain ⟨its, rv, p, _⟩ := I.list q
    exact ⟨its, rv, p.isList⟩
theorem inv_sqInj (I : Inv X pins σ H s) : ∀ {b : Bool}, Sq X.K b H a xs → Sq X.K b H a ys → xs = ys
  | true, q, r => I.tuple_inj q r
  | false, q, r => I.list_inj q r
end
theorem isSq_at {h h' : Heap} {a : Addr} {xs : Array Value} : ∀ {b : Bool}, IsSq b h a xs → (∀ o, h.get? a = some o → h'.get? a = some o) → IsSq b h' a xs
  | true, q, k => Heap.IsTuple.at q k
  | false, q, k => Heap.IsList.at q k
theorem isIt_at {h h' : Heap} {it a : Addr} {i : Nat} : ∀ {b : Bool}, IsIt b h it a i → (∀ o, h.get? it = some o → h'.get? it = some o) → IsIt b h' it a i
  | true, q, k => Heap.IsTupleIter.at q k
  | false, q, k => Heap.IsListIter.at q k
theorem isIt_obj {h : Heap} {it a : Addr} {i : Nat} : ∀ {b : Bool}, IsIt b h it a i → ∃ o, h.get? it = some o ∧ ∀ v, o.data ≠ .cell v
  | true, q => by
    obtain ⟨o, e, _, d⟩ := q
    exact ⟨o, e, fun v z => by rw [d] at z; cases z⟩
  | false, q => by
    obtain ⟨o, e, _, d⟩ := q
    exact ⟨o, e, fun v z => by rw [d] at z; cases z⟩
theorem isSq_lt {h : Heap} {a : Addr} {xs : Array Value} : ∀ {b : Bool}, IsSq b h a xs → a < h.objs.size
  | true, q => by
    obtain ⟨o, e, _⟩ := q
    exact Heap.lt_size e
  | false, q => by
    obtain ⟨o, e, _⟩ := q
    exact Heap.lt_size e
theorem draws_sq {prog : Program} {w : World} {A : Around} (hh : A.handled = none) (it a : Addr) (hne : a ≠ it) (items : Array Value) : ∀ b : Bool,
    Draws prog w A it [it, a] items.size (fun i v => items[i]? = some v) (fun i h => IsIt b h it a i ∧ IsSq b h a items)
  | true => Draws.tuple hh it a hne items
  | false => Draws.list hh it a hne items
theorem draws_sqI {prog : Program} {w : World} {A : Around} (hh : A.handled = none) (it a : Addr) (hne : a ≠ it) (items : Array Value) (b : Bool) :
    Draws prog w A.in1 it [it, a] items.size (fun i v => items[i]? = some v) (fun i h => IsIt b h it a i ∧ IsSq b h a items) := draws_sq (A := A.in1) hh it a hne items b
theorem begins_sq (a : Addr) (items : Array Value) : ∀ b : Bool, Begins (.ref a) (itObj b a) fun h => IsSq b h a items
  | true => begins_tuple a items
  | false => begins_list a items
theorem isIt_new {h : Heap} {it a : Addr} : ∀ {b : Bool}, h.get? it = some (itObj b a) → IsIt b h it a 0
  | true, e => ⟨_, e, rfl, rfl⟩
  | false, e => ⟨_, e, rfl, rfl⟩

/-! ### zip of two -/
def Itz2 (K : PySem.W.Frag) (b1 : Bool) (a1 : Addr) (b2 : Bool) (a2 : Addr) : It :=
  ⟨fun i H => ∃ (xs ys : List V) (x y : V), Sq K b1 H a1 xs ∧ Sq K b2 H a2 ys ∧ xs[i]? = some x ∧ ys[i]? = some y,
    fun i H v H' => ∃ T x y, v = .ref T ∧ H T = none ∧ H' = upd H T (.tup [x, y]) ∧ (∀ xs, Sq K b1 H a1 xs → xs[i]? = some x) ∧ ∀ ys, Sq K b2 H a2 ys → ys[i]? = some y,
    fun i H => ∃ xs ys : List V, Sq K b1 H a1 xs ∧ Sq K b2 H a2 ys ∧ (xs.length = i ∨ ys.length = i) ∧ i ≤ xs.length ∧ i ≤ ys.length⟩
theorem turn_zip2 {P : Program} {w : World} {K : PySem.W.Frag} {elts : List Expr} {kk : Nat} {tpos : Pos} {b1 b2 : Bool} {a b z TI TO i1 i2 : Addr} (D : ZipSep2 z TI TO i1 i2 [i1, a] [i2, b]) (ha : a ≠ i1) (hb : b ≠ i2) :
    Turn P w K (.Tuple elts kk tpos) (Itz2 K b1 a b2 b) [z, TI, TO, i1, i2] z (fun i h => IsZip h z TI TO .none ∧ IsTupOf2 h TI (.ref i1) (.ref i2) ∧ (∃ x y, IsTupOf2 h TO x y) ∧ IsIt b1 h i1 a i ∧ IsIt b2 h i2 b i) where
  mem := by simp
  obj := fun i h st c hc => by
    obtain ⟨hz, hTI, ⟨x, y, hTO⟩, h1, h2⟩ := st
    have e' : c = z ∨ c = TI ∨ c = TO ∨ c = i1 ∨ c = i2 := by simpa using hc
    rcases e' with q | q | q | q | q
    · rw [q]; exact ⟨_, hz, fun v q => nomatch q⟩
    · rw [q]; exact ⟨_, hTI, fun v q => nomatch q⟩
    · rw [q]; exact ⟨_, hTO, fun v q => nomatch q⟩
    · rw [q]; exact isIt_obj h1
    · rw [q]; exact isIt_obj h2
  keep := fun i h h' st k => by
    obtain ⟨hz, hTI, ⟨x, y, hTO⟩, h1, h2⟩ := st
    exact ⟨k z (by simp) _ hz, k TI (by simp) _ hTI, ⟨x, y, k TO (by simp) _ hTO⟩, isIt_at h1 fun o q => k i1 (by simp) o q, isIt_at h2 fun o q => k i2 (by simp) o q⟩
  item := by
    intro X hP hw hK hc i pins s σ H E I hf st hg
    subst hP hw hK
    obtain ⟨hz, hTI, ⟨x0, y0, hTO⟩, h1, h2⟩ := st
    obtain ⟨xs, ys, x, y, hqx, hqy, hx, hy⟩ := hg
    obtain ⟨its, rv, p⟩ := inv_sq I hqx
    obtain ⟨its2, rv2, p2⟩ := inv_sq I hqy
    obtain ⟨u, hu, ru⟩ := rv.get hx
    obtain ⟨u2, hu2, ru2⟩ := rv2.get hy
    have hzl : z < s.heap.objs.size := Heap.lt_size hz
    have l1 := (List.getElem?_eq_some_iff.mp hu).1
    have l2 := (List.getElem?_eq_some_iff.mp hu2).1
    refine wpAny_pyNext_zipD2_item D (draws_sqI (I.ok.hd hc) i1 a ha its.toArray b1) (draws_sqI (I.ok.hd hc) i2 b hb its2.toArray b2) hz hTI hTO ⟨h1, p⟩ ⟨h2, p2⟩ (by simpa using l1) (by simpa using l2) fun x1 x2 h' tk y1 y2 z' TO' st1 st2 hT hsz hk => ?_
    have ex1 : x1 = u := by
      have q : its.toArray[i]? = some x1 := y1
      rw [show its.toArray[i]? = some u by simpa using hu] at q
      exact (Option.some.inj q).symm
    have ex2 : x2 = u2 := by
      have q : its2.toArray[i]? = some x2 := y2
      rw [show its2.toArray[i]? = some u2 by simpa using hu2] at q
      exact (Option.some.inj q).symm
    subst ex1
    subst ex2
    refine ⟨_, rfl, wpAny_letOwnedTupleGo_zip (s := { s with heap := h', toks := tk }) z' fun h'' z'' sb => ?_⟩
    have hT2 : h''.get? s.heap.objs.size = some { cls := .type "tuple", data := .seq #[x1, x2] } := (sb.2 _ (Nat.ne_of_gt hzl)).trans hT
    have new : ObjOk X.prog X.w (upd H s.heap.objs.size (.tup [x, y])) h'' s.heap.objs.size (.tup [x, y]) :=
      ⟨by show 2 ≤ sizeLine; decide, [x1, x2], .cons ru (.cons ru2 .nil), ⟨_, hT2, rfl, _, rfl⟩⟩
    have I1 : Inv X pins σ (upd H s.heap.objs.size (.tup [x, y])) { s with heap := h'', toks := tk } :=
      I.turnedNew (t' := tk) (ch := [z, TI, TO, i1, i2]) (fun c o hb' q => (sb.2 c (fun q' => hb' (by simp [q']))).trans (hk c o (fun q' => hb' (by simp [q'])) (fun q' => hb' (by simp [q'])) (fun q' => hb' (by simp [q'])) (fun q' => hb' (by simp [q'])) q)) hf (Nat.le_refl _) new
    have ne : ∀ {q : Addr}, q ≠ z → ∀ o, h'.get? q = some o → h''.get? q = some o := fun hq o e => (sb.2 _ hq).trans e
    refine ⟨.ref s.heap.objs.size, _, I1, rfl, ⟨_, x, y, rfl, I.hok.fresh (Nat.le_refl _), rfl, fun l hl => by rw [inv_sqInj I hl hqx]; exact hx, fun l hl => by rw [inv_sqInj I hl hqy]; exact hy⟩, ⟨z'', ?_, ⟨x1, x2, ?_⟩, ?_, ?_⟩, fun c hcm => ?_⟩
    · exact ne D.TIz _ (hk _ _ D.TIz D.TITO D.TIi1 D.TIi2 hTI)
    · exact ne D.TOz _ TO'
    · exact isIt_at st1.1 (ne D.zi1.symm)
    · exact isIt_at st2.1 (ne D.zi2.symm)
    · have hlt : c < s.heap.objs.size := by
        have e' : c = z ∨ c = TI ∨ c = TO ∨ c = i1 ∨ c = i2 := by simpa using hcm
        rcases e' with q | q | q | q | q
        · rw [q]; exact hzl
        · rw [q]; exact Heap.lt_size hTI
        · rw [q]; exact Heap.lt_size hTO
        · rw [q]; obtain ⟨_, e1, _⟩ := isIt_obj h1; exact Heap.lt_size e1
        · rw [q]; obtain ⟨_, e1, _⟩ := isIt_obj h2; exact Heap.lt_size e1
      rw [upd_ne (Nat.ne_of_lt hlt)]
      exact (hf c hcm).1
  done := by
    intro X hP hw hK hc i pins s σ H E I hf st hg
    subst hP hw hK
    obtain ⟨hz, hTI, ⟨x0, y0, hTO⟩, h1, h2⟩ := st
    obtain ⟨xs, ys, hqx, hqy, hend, le1, le2⟩ := hg
    obtain ⟨its, rv, p⟩ := inv_sq I hqx
    obtain ⟨its2, rv2, p2⟩ := inv_sq I hqy
    have l1 := rv.length
    have l2 := rv2.length
    exact wpAny_pyNext_zipD2_end D (draws_sqI (I.ok.hd hc) i1 a ha its.toArray b1) (draws_sqI (I.ok.hd hc) i2 b hb its2.toArray b2) hz hTI hTO ⟨h1, p⟩ ⟨h2, p2⟩ (by simp; omega) (by simp; omega) (by simp; omega) fun h' tk hk => ⟨rfl, I.turnedL (t' := tk) (ch := [z, TI, TO, i1, i2]) (fun c o hb' q =>
      hk c o (fun q' => hb' (by simp [q'])) (fun q' => hb' (by simp [q'])) (fun q' => hb' (by simp [q'])) (fun q' => hb' (by simp [q'])) q) hf⟩
  self := fun A i s Q E st h => wpAny_pyIter_zip st.1 h

/-! ### zip of three -/
def Itz3 (K : PySem.W.Frag) (b1 : Bool) (a1 : Addr) (b2 : Bool) (a2 : Addr) (b3 : Bool) (a3 : Addr) : It :=
  ⟨fun i H => ∃ (xs ys zs : List V) (x y z : V), Sq K b1 H a1 xs ∧ Sq K b2 H a2 ys ∧ Sq K b3 H a3 zs ∧ xs[i]? = some x ∧ ys[i]? = some y ∧ zs[i]? = some z,
    fun i H v H' => ∃ T x y z, v = .ref T ∧ H T = none ∧ H' = upd H T (.tup [x, y, z]) ∧ (∀ xs, Sq K b1 H a1 xs → xs[i]? = some x) ∧ (∀ ys, Sq K b2 H a2 ys → ys[i]? = some y) ∧ ∀ zs, Sq K b3 H a3 zs → zs[i]? = some z,
    fun i H => ∃ xs ys zs : List V, Sq K b1 H a1 xs ∧ Sq K b2 H a2 ys ∧ Sq K b3 H a3 zs ∧ (xs.length = i ∨ ys.length = i ∨ zs.length = i) ∧ i ≤ xs.length ∧ i ≤ ys.length ∧ i ≤ zs.length⟩
theorem turn_zip3 {P : Program} {w : World} {K : PySem.W.Frag} {elts : List Expr} {kk : Nat} {tpos : Pos} {b1 b2 b3 : Bool} {a b d z TI TO i1 i2 i3 : Addr} (D : ZipSep3 z TI TO i1 i2 i3 [i1, a] [i2, b] [i3, d]) (ha : a ≠ i1) (hb : b ≠ i2) (hd : d ≠ i3) :
    Turn P w K (.Tuple elts kk tpos) (Itz3 K b1 a b2 b b3 d) [z, TI, TO, i1, i2, i3] z (fun i h => IsZip h z TI TO .none ∧ IsTupOf3 h TI (.ref i1) (.ref i2) (.ref i3) ∧ (∃ x y w, IsTupOf3 h TO x y w) ∧ IsIt b1 h i1 a i ∧ IsIt b2 h i2 b i ∧ IsIt b3 h i3 d i) where
  mem := by simp
  obj := fun i h st c hc => by
    obtain ⟨hz, hTI, ⟨x, y, w', hTO⟩, h1, h2, h3⟩ := st
    have e' : c = z ∨ c = TI ∨ c = TO ∨ c = i1 ∨ c = i2 ∨ c = i3 := by simpa using hc
    rcases e' with q | q | q | q | q | q
    · rw [q]; exact ⟨_, hz, fun v q => nomatch q⟩
    · rw [q]; exact ⟨_, hTI, fun v q => nomatch q⟩
    · rw [q]; exact ⟨_, hTO, fun v q => nomatch q⟩
    · rw [q]; exact isIt_obj h1
    · rw [q]; exact isIt_obj h2
    · rw [q]; exact isIt_obj h3
  keep := fun i h h' st k => by
    obtain ⟨hz, hTI, ⟨x, y, w', hTO⟩, h1, h2, h3⟩ := st
    exact ⟨k z (by simp) _ hz, k TI (by simp) _ hTI, ⟨x, y, w', k TO (by simp) _ hTO⟩, isIt_at h1 fun o q => k i1 (by simp) o q, isIt_at h2 fun o q => k i2 (by simp) o q, isIt_at h3 fun o q => k i3 (by simp) o q⟩
  item := by
    intro X hP hw hK hc i pins s σ H E I hf st hg
    subst hP hw hK
    obtain ⟨hz, hTI, ⟨x0, y0, w0, hTO⟩, h1, h2, h3⟩ := st
    obtain ⟨xs, ys, zs, x, y, v, hqx, hqy, hqv, hx, hy, hv⟩ := hg
    obtain ⟨its, rv, p⟩ := inv_sq I hqx
    obtain ⟨its2, rv2, p2⟩ := inv_sq I hqy
    obtain ⟨its3, rv3, p3⟩ := inv_sq I hqv
    obtain ⟨u, hu, ru⟩ := rv.get hx
    obtain ⟨u2, hu2, ru2⟩ := rv2.get hy
    obtain ⟨u3, hu3, ru3⟩ := rv3.get hv
    have hzl : z < s.heap.objs.size := Heap.lt_size hz
    have l1 := (List.getElem?_eq_some_iff.mp hu).1
    have l2 := (List.getElem?_eq_some_iff.mp hu2).1
    have l3 := (List.getElem?_eq_some_iff.mp hu3).1
    refine wpAny_pyNext_zipD3_item D (draws_sqI (I.ok.hd hc) i1 a ha its.toArray b1) (draws_sqI (I.ok.hd hc) i2 b hb its2.toArray b2) (draws_sqI (I.ok.hd hc) i3 d hd its3.toArray b3) hz hTI hTO ⟨h1, p⟩ ⟨h2, p2⟩ ⟨h3, p3⟩ (by simpa using l1) (by simpa using l2) (by simpa using l3) fun x1 x2 x3 h' tk y1 y2 y3 z' TO' st1 st2 st3 hT hsz hk => ?_
    have ex1 : x1 = u := by
      have q : its.toArray[i]? = some x1 := y1
      rw [show its.toArray[i]? = some u by simpa using hu] at q
      exact (Option.some.inj q).symm
    have ex2 : x2 = u2 := by
      have q : its2.toArray[i]? = some x2 := y2
      rw [show its2.toArray[i]? = some u2 by simpa using hu2] at q
      exact (Option.some.inj q).symm
    have ex3 : x3 = u3 := by
      have q : its3.toArray[i]? = some x3 := y3
      rw [show its3.toArray[i]? = some u3 by simpa using hu3] at q
      exact (Option.some.inj q).symm
    subst ex1
    subst ex2
    subst ex3
    refine ⟨_, rfl, wpAny_letOwnedTupleGo_zip (s := { s with heap := h', toks := tk }) z' fun h'' z'' sb => ?_⟩
    have hT2 : h''.get? s.heap.objs.size = some { cls := .type "tuple", data := .seq #[x1, x2, x3] } := (sb.2 _ (Nat.ne_of_gt hzl)).trans hT
    have new : ObjOk X.prog X.w (upd H s.heap.objs.size (.tup [x, y, v])) h'' s.heap.objs.size (.tup [x, y, v]) :=
      ⟨by show 3 ≤ sizeLine; decide, [x1, x2, x3], .cons ru (.cons ru2 (.cons ru3 .nil)), ⟨_, hT2, rfl, _, rfl⟩⟩
    have I1 : Inv X pins σ (upd H s.heap.objs.size (.tup [x, y, v])) { s with heap := h'', toks := tk } :=
      I.turnedNew (t' := tk) (ch := [z, TI, TO, i1, i2, i3]) (fun c o hb' q => (sb.2 c (fun q' => hb' (by simp [q']))).trans (hk c o (fun q' => hb' (by simp [q'])) (fun q' => hb' (by simp [q'])) (fun q' => hb' (by simp [q'])) (fun q' => hb' (by simp [q'])) (fun q' => hb' (by simp [q'])) q)) hf (Nat.le_refl _) new
    have ne : ∀ {q : Addr}, q ≠ z → ∀ o, h'.get? q = some o → h''.get? q = some o := fun hq o e => (sb.2 _ hq).trans e
    have n3 : z ≠ i3 := fun e => D.zf3 (by rw [e]; exact D.mem3)
    refine ⟨.ref s.heap.objs.size, _, I1, rfl, ⟨_, x, y, v, rfl, I.hok.fresh (Nat.le_refl _), rfl, fun l hl => by rw [inv_sqInj I hl hqx]; exact hx, fun l hl => by rw [inv_sqInj I hl hqy]; exact hy, fun l hl => by rw [inv_sqInj I hl hqv]; exact hv⟩, ⟨z'', ?_, ⟨x1, x2, x3, ?_⟩, ?_, ?_, ?_⟩, fun c hcm => ?_⟩
    · exact ne D.TIz _ (hk _ _ D.TIz D.TITO D.TIi1 D.TIi2 D.TIi3 hTI)
    · exact ne D.TOz _ TO'
    · exact isIt_at st1.1 (ne D.zi1.symm)
    · exact isIt_at st2.1 (ne D.zi2.symm)
    · exact isIt_at st3.1 (ne n3.symm)
    · have hlt : c < s.heap.objs.size := by
        have e' : c = z ∨ c = TI ∨ c = TO ∨ c = i1 ∨ c = i2 ∨ c = i3 := by simpa using hcm
        rcases e' with q | q | q | q | q | q
        · rw [q]; exact hzl
        · rw [q]; exact Heap.lt_size hTI
        · rw [q]; exact Heap.lt_size hTO
        · rw [q]; obtain ⟨_, e1, _⟩ := isIt_obj h1; exact Heap.lt_size e1
        · rw [q]; obtain ⟨_, e1, _⟩ := isIt_obj h2; exact Heap.lt_size e1
        · rw [q]; obtain ⟨_, e1, _⟩ := isIt_obj h3; exact Heap.lt_size e1
      rw [upd_ne (Nat.ne_of_lt hlt)]
      exact (hf c hcm).1
  done := by
    intro X hP hw hK hc i pins s σ H E I hf st hg
    subst hP hw hK
    obtain ⟨hz, hTI, ⟨x0, y0, w0, hTO⟩, h1, h2, h3⟩ := st
    obtain ⟨xs, ys, zs, hqx, hqy, hqz, hend, le1, le2, le3⟩ := hg
    obtain ⟨its, rv, p⟩ := inv_sq I hqx
    obtain ⟨its2, rv2, p2⟩ := inv_sq I hqy
    obtain ⟨its3, rv3, p3⟩ := inv_sq I hqz
    have l1 := rv.length
    have l2 := rv2.length
    have l3 := rv3.length
    exact wpAny_pyNext_zipD3_end D (draws_sqI (I.ok.hd hc) i1 a ha its.toArray b1) (draws_sqI (I.ok.hd hc) i2 b hb its2.toArray b2) (draws_sqI (I.ok.hd hc) i3 d hd its3.toArray b3) hz hTI hTO ⟨h1, p⟩ ⟨h2, p2⟩ ⟨h3, p3⟩ (by simp; omega) (by simp; omega) (by simp; omega) (by simp; omega) fun h' tk hk => ⟨rfl, I.turnedL (t' := tk) (ch := [z, TI, TO, i1, i2, i3]) (fun c o hb' q =>
      hk c o (fun q' => hb' (by simp [q'])) (fun q' => hb' (by simp [q'])) (fun q' => hb' (by simp [q'])) (fun q' => hb' (by simp [q'])) (fun q' => hb' (by simp [q'])) q) hf⟩
  self := fun A i s Q E st h => wpAny_pyIter_zip st.1 h

/-! ### enumerate from k -/
def IteK (K : PySem.W.Frag) (k : Int) (b : Bool) (a : Addr) : It :=
  ⟨fun i H => ∃ (xs : List V) (x : V), Sq K b H a xs ∧ xs[i]? = some x, fun i H v H' => ∃ T x, v = .ref T ∧ H T = none ∧ H' = upd H T (.tup [.int (k + (i : Nat)), x]) ∧ ∀ xs, Sq K b H a xs → xs[i]? = some x, fun i H => ∃ xs : List V, Sq K b H a xs ∧ xs.length = i⟩
theorem turn_enumK {P : Program} {w : World} {K : PySem.W.Frag} {elts : List Expr} {kk : Nat} {tpos : Pos} {k : Int} {b : Bool} (a e it : Addr) (hei : e ≠ it) (hea : e ≠ a) (hai : a ≠ it) :
    Turn P w K (.Tuple elts kk tpos) (IteK K k b a) [e, it] e (fun i h => (∃ old, IsEnum h e it (k + ((i : Nat) : Int)) old) ∧ IsIt b h it a i) where
  mem := by simp
  obj := fun i h st c hc => by
    obtain ⟨⟨old, he⟩, h1⟩ := st
    have e' : c = e ∨ c = it := by simpa using hc
    rcases e' with q | q
    · rw [q]; exact ⟨_, he, fun v q => nomatch q⟩
    · rw [q]; exact isIt_obj h1
  keep := fun i h h' st k => by
    obtain ⟨⟨old, he⟩, h1⟩ := st
    exact ⟨⟨old, k e (by simp) _ he⟩, isIt_at h1 fun o q => k it (by simp) o q⟩
  item := by
    intro X hP hw hK hc i pins s σ H E I hf st hg
    subst hP hw hK
    obtain ⟨⟨old, he⟩, h1⟩ := st
    obtain ⟨xs, x, hqx, hx⟩ := hg
    obtain ⟨its, rv, p⟩ := inv_sq I hqx
    obtain ⟨u, hu, ru⟩ := rv.get hx
    have hel : e < s.heap.objs.size := Heap.lt_size he
    have l1 := (List.getElem?_eq_some_iff.mp hu).1
    refine wpAny_pyNext_enum_itemC (draws_sqI (I.ok.hd hc) it a hai its.toArray b) he ⟨h1, p⟩ (by simpa using l1) hei (by simp [hei, hea]) fun x1 h' tk y1 ho st1 hT hsz hk => ?_
    have ex1 : x1 = u := by
      have q : its.toArray[i]? = some x1 := y1
      rw [show its.toArray[i]? = some u by simpa using hu] at q
      exact (Option.some.inj q).symm
    subst ex1
    refine ⟨_, rfl, wpAny_letOwnedTupleGo_enum (s := { s with heap := h', toks := tk + 1 }) ho fun h'' he'' sb => ?_⟩
    have hT2 : h''.get? s.heap.objs.size = some { cls := .type "tuple", data := .seq #[.int (k + (i : Nat)) tk, x1] } := (sb.2 _ (Nat.ne_of_gt hel)).trans hT
    have new : ObjOk X.prog X.w (upd H s.heap.objs.size (.tup [.int (k + (i : Nat)), x])) h'' s.heap.objs.size (.tup [.int (k + (i : Nat)), x]) :=
      ⟨by show 2 ≤ sizeLine; decide, [.int (k + (i : Nat)) tk, x1], .cons ⟨_, rfl⟩ (.cons ru .nil), ⟨_, hT2, rfl, _, rfl⟩⟩
    have I1 : Inv X pins σ (upd H s.heap.objs.size (.tup [.int (k + (i : Nat)), x])) { s with heap := h'', toks := tk + 1 } :=
      I.turnedNew (t' := tk + 1) (ch := [e, it]) (fun c o hb' q => (sb.2 c (fun q' => hb' (by simp [q']))).trans (hk c o (fun q' => hb' (by simp [q'])) (fun q' => hb' (by simp [q'])) q)) hf (Nat.le_refl _) new
    refine ⟨.ref s.heap.objs.size, _, I1, rfl, ⟨_, x, rfl, I.hok.fresh (Nat.le_refl _), rfl, fun l hl => by rw [inv_sqInj I hl hqx]; exact hx⟩, ⟨⟨x1, ?_⟩, ?_⟩, fun c hcm => ?_⟩
    · rw [show k + ((i + 1 : Nat) : Int) = k + (i : Int) + 1 by omega]
      exact he''
    · exact isIt_at st1.1 fun o z => (sb.2 _ hei.symm).trans z
    · have hlt : c < s.heap.objs.size := by
        have e' : c = e ∨ c = it := by simpa using hcm
        rcases e' with q | q
        · rw [q]; exact hel
        · rw [q]; obtain ⟨_, e1, _⟩ := isIt_obj h1; exact Heap.lt_size e1
      rw [upd_ne (Nat.ne_of_lt hlt)]
      exact (hf c hcm).1
  done := by
    intro X hP hw hK hc i pins s σ H E I hf st hg
    subst hP hw hK
    obtain ⟨⟨old, he⟩, h1⟩ := st
    obtain ⟨xs, hqx, hend⟩ := hg
    obtain ⟨its, rv, p⟩ := inv_sq I hqx
    have l1 := rv.length
    have en : its.toArray.size = i := by simp; omega
    refine wpAny_pyNext_enum_endD (draws_sqI (I.ok.hd hc) it a hai its.toArray b) he ⟨by rw [en]; exact h1, p⟩ fun h' hk => ⟨rfl, ?_⟩
    exact I.turnedL (t' := s.toks) (ch := [e, it]) (fun c o hb' q => hk c o (fun q' => hb' (by simp [q'])) q) hf
  self := fun A i s Q E st h => let ⟨⟨_, he⟩, _⟩ := st; wpAny_pyIter_enum he h
end PV
set_option Elab.async false
set_option linter.all false
set_option maxRecDepth 100000
set_option maxHeartbeats 4000000
/-! PV11: what a for or a comprehension goes over; targets. -/
namespace PV
open PySem L2 PySem.Spec PyProof.Rows

/-- how an operand of a walk is had: by a look (p), fixed (f) -/
inductive Md where
  | p | f
def Keep (c : Cn) (H H2 : Hp) : Prop := ∀ a o, a ≠ c.L → a ≠ c.C → H a = some o → H2 a = some o
def Md.G (c : Cn) : Md → Hp → Hp → Hp → Prop
  | .p, _, H, H2 => Keep c H H2
  | .f, F, _, H2 => Sub F H2
def SRes (c : Cn) (F : Hp) (v : V) : SV → Prop
  | .dat d => Rep c F v d
  | .own ds => Rep c F v (.lst ds)
  | _ => True
def Md.Res (c : Cn) : Md → Hp → Hp → V → SV → Prop
  | .p, F, H, v, sv => PRes c F H v sv
  | .f, F, _, v, sv => SRes c F v sv
def tM (μ : Md) (c : Cn) (W : WX) (m : M SV) : TE := fun σ H Q => ∃ F T e g, Rel c F T e g σ H ∧ Post c W σ F T H (m e g) fun sv F' T' H' _ _ => ∀ v, μ.Res c F' H' v sv → Q v H'
section
variable {c : Cn} {W : WX} {σ : L2.St} {F F1 : Hp} {T T1 : Tm} {H H1 H2 : Hp} {e : Env} {g : Rng} {K : PySem.W.Frag} {v : V}
theorem Md.ext (μ : Md) (x : Ext c F T H F1 T1 H1) {sv : SV} (h : μ.Res c F H v sv) : μ.Res c F1 H1 v sv := by
  cases μ with
  | p => exact PRes.ext x h
  | f =>
    cases sv with
    | dat d => exact Rep.mono (d := d) x.f h
    | own ds => exact Rep.mono (d := .lst ds) x.f h
    | _ => trivial
theorem Md.back (μ : Md) (x : Ext c F T H F1 T1 H1) (h : μ.G c F1 H1 H2) : μ.G c F H H2 := by
  cases μ with
  | p => exact fun a o n1 n2 q => h a o n1 n2 (x.h a o n1 n2 q)
  | f => exact x.f.trans h
theorem Md.refl (μ : Md) (b : Base c F g H) : μ.G c F H H := by
  cases μ with
  | p => exact fun _ _ _ _ q => q
  | f => exact b.sub
/-- a list or a tuple that is walked -/
theorem Md.seqG (μ : Md) (b : Base c F g H) {sv : SV} {ds : List D} (h : μ.Res c F H v sv) (q : sv.seq = some ds) : ∃ a k xs, v = .ref a ∧ (∀ H2, μ.G c F H H2 → Sq K k H2 a xs) ∧ Reps c F xs ds := by
  have fx : ∀ {d : D}, Rep c F v d → (SV.dat d).seq = some ds → ∃ a k xs, v = .ref a ∧ (∀ H2, μ.G c F H H2 → Sq K k H2 a xs) ∧ Reps c F xs ds := fun {d} r q => by
    have go : ∀ {a : Addr} {o : HO}, F a = some o → ∀ H2, μ.G c F H H2 → H2 a = some o := fun {a o} k H2 gg => by
      cases μ with
      | p => exact gg a o (fun e => by rw [e, b.FL] at k; cases k) (fun e => by rw [e, b.FC] at k; cases k) (b.sub _ _ k)
      | f => exact gg a o k
    cases d with
    | lst es => cases q; cases r with | lst k r => exact ⟨_, false, _, rfl, fun H2 gg => .of (go k H2 gg), r⟩
    | tup es => cases q; cases r with | tup k r => exact ⟨_, true, _, rfl, fun H2 gg => .of (go k H2 gg), r⟩
    | _ => cases q
  cases sv with
  | dat d =>
    cases μ with
    | p => exact fx h q
    | f => exact fx h q
  | own es =>
    cases μ with
    | p =>
      cases q
      obtain ⟨a, xs, e, n1, n2, k, r⟩ := h
      exact ⟨a, false, xs, e, fun H2 gg => .of (gg a _ n1 n2 k), r⟩
    | f => exact fx (d := .lst es) h q
  | _ => cases q
end
section
variable {X : Cx} {c : Cn} {W : WX} {e : Expr} {m : M SV}
theorem se_fix (h : PE X e (tO c W m)) : PE X e (tM .f c W m) := peImp h fun σ H Q ⟨F, T, en, g, R, p⟩ => by
  refine ⟨F, T, en, g, R, ?_⟩
  cases q : m en g with
  | ok sv e' g' =>
    rw [q] at p
    intro F1 T1 H1 R1 x1 v o
    cases hd : sv.frz with
    | some d =>
      obtain ⟨F2, R2, s2, n2, r2⟩ := o.frz R.base R1 hd
      refine p F2 T1 H1 R2 ⟨x1.f.trans s2, x1.h, x1.n, fun a u z => ?_, x1.t⟩ v ?_
      · rcases n2 a u z with z | z
        · exact x1.g a u z
        · exact .inr (.inl z)
      · cases sv with
        | dat d' => cases hd; exact r2
        | own ds => cases hd; exact r2
        | _ => cases hd
    | none =>
      refine p F1 T1 H1 R1 x1 v ?_
      cases sv with
      | dat d' => cases hd
      | own ds => cases hd
      | _ => trivial
  | exc x e' g' => rw [q] at p; exact p
  | stuck => rw [q] at p; exact p
theorem se_lookM (h : PE X e (tP c W m)) : PE X e (tM .p c W m) := h
end

/-! ### walks by data -/
structure WalkD (c : Cn) (G : Hp → Prop) (F : Hp) (J : It) (ds : List D) : Prop where
  goes : ∀ i H, i < ds.length → G H → J.go i H
  stops : ∀ H, G H → J.stop ds.length H
  yields : ∀ i d H x H', ds[i]? = some d → G H → J.yld i H x H' → (H' = H ∧ Rep c F x d) ∨ (∃ p xs es, x = .ref p ∧ H p = none ∧ H' = upd H p (.tup xs) ∧ d = .tup es ∧ Reps c F xs es)
def tI (μ : Md) (c : Cn) (W : WX) (src : Src) : TI := fun σ H R => ∃ F T e g, Rel c F T e g σ H ∧ Post c W σ F T H (src.items e g) fun ds F' T' H' _ _ => ∀ J, WalkD c (μ.G c F' H') F' J ds → R J H'
theorem piImp {X : Cx} {tg it : Expr} {t t' : TI} (h : PI X tg it t) (k : ∀ σ H R, t' σ H R → t σ H R) : PI X tg it t' := ⟨fun pins s σ H R I q => h.run pins s σ H R I (k σ H R q)⟩
section
variable {c : Cn} {F : Hp} {G : Hp → Prop} {K : PySem.W.Frag}
def Itb (K : PySem.W.Frag) : Bool → Addr → It
  | true, a => Itt K a
  | false, a => Itl K a
theorem walkD_sq {b : Bool} {a : Addr} {xs : List V} {ds : List D} (h : ∀ H, G H → Sq K b H a xs) (r : Reps c F xs ds) : WalkD c G F (Itb K b a) ds := by
  have hl := r.length
  have get : ∀ i d x, ds[i]? = some d → xs[i]? = some x → Rep c F x d := fun i d x hd hx => by
    obtain ⟨v, h1, h2⟩ := r.get hd
    rw [hx] at h1; cases h1; exact h2
  cases b with
  | true =>
    refine ⟨fun i H hi gg => ⟨xs, xs[i]'(by omega), h H gg, by simp⟩, fun H gg => ⟨xs, h H gg, by omega⟩, fun i d H x H' hd gg y => .inl ⟨y.1, get i d x hd (y.2 xs (h H gg))⟩⟩
  | false =>
    refine ⟨fun i H hi gg => ⟨xs, xs[i]'(by omega), h H gg, by simp⟩, fun H gg => ⟨xs, h H gg, by omega⟩, fun i d H x H' hd gg y => .inl ⟨y.1, get i d x hd (y.2 xs (h H gg))⟩⟩
theorem walkD_range {lo : Int} {n : Nat} : WalkD c G F (Itr lo n) ((List.range n).map fun (k : Nat) => .int (lo + k)) := by
  refine ⟨fun i H hi _ => by show i < n; simpa using hi, fun H _ => by simp [Itr], fun i d H x H' hd _ y => ?_⟩
  obtain ⟨e, ex⟩ := y
  subst ex
  rw [List.getElem?_map] at hd
  cases q : (List.range n)[i]? with
  | none => rw [q] at hd; cases hd
  | some k =>
    rw [q] at hd
    have hk : k = i := by
      have := (List.getElem?_eq_some_iff.mp q).2
      simpa using this.symm
    subst hk
    cases hd
    exact .inl ⟨e, .int _⟩
theorem walkD_str {z : Str} : WalkD c G F (Its z) (z.cps.toList.map fun k => .str ⟨#[k]⟩) := by
  refine ⟨fun i H hi _ => by show i < z.cps.size; simpa using hi, fun H _ => by simp [Its], fun i d H x H' hd _ y => ?_⟩
  obtain ⟨e, k, hk, ex⟩ := y
  subst ex
  rw [List.getElem?_map] at hd
  have hk' : z.cps.toList[i]? = some k := by simpa using hk
  rw [hk'] at hd
  cases hd
  exact .inl ⟨e, .str _⟩
theorem enumD_get : ∀ {ds : List D} {k : Int} {i : Nat} {d : D}, (enumD k ds)[i]? = some d → ∃ x, ds[i]? = some x ∧ d = .tup [.int (k + (i : Nat)), x]
  | [], _, _, _, h => by simp [enumD] at h
  | x :: ds, k, 0, d, h => by
    simp only [enumD, List.getElem?_cons_zero] at h
    cases h
    exact ⟨x, rfl, by simp⟩
  | x :: ds, k, i + 1, d, h => by
    simp only [enumD, List.getElem?_cons_succ] at h
    obtain ⟨y, h1, h2⟩ := enumD_get h
    refine ⟨y, by simpa using h1, ?_⟩
    rw [h2, show k + 1 + (i : Int) = k + ((i + 1 : Nat) : Int) by omega]
theorem enumD_len : ∀ {ds : List D} {k : Int}, (enumD k ds).length = ds.length
  | [], _ => rfl
  | _ :: ds, k => by simp [enumD, enumD_len (ds := ds)]
theorem walkD_enum {k : Int} {b : Bool} {a : Addr} {xs : List V} {ds : List D} (h : ∀ H, G H → Sq K b H a xs) (r : Reps c F xs ds) : WalkD c G F (IteK K k b a) (enumD k ds) := by
  have hl := r.length
  refine ⟨fun i H hi gg => ⟨xs, xs[i]'(by rw [enumD_len] at hi; omega), h H gg, by simp⟩, fun H gg => ⟨xs, h H gg, by rw [enumD_len]; exact hl⟩, fun i d H x H' hd gg y => .inr ?_⟩
  obtain ⟨T, x', rfl, hT, rfl, f1⟩ := y
  obtain ⟨dx, h1, rfl⟩ := enumD_get hd
  obtain ⟨v, h2, h3⟩ := r.get h1
  rw [f1 xs (h H gg)] at h2
  cases h2
  exact ⟨T, _, _, rfl, hT, rfl, rfl, .cons (.int _) (.cons h3 .nil)⟩
theorem zipD2_get : ∀ {as bs : List D} {i : Nat} {d : D}, (zipD2 as bs)[i]? = some d → ∃ x y, as[i]? = some x ∧ bs[i]? = some y ∧ d = .tup [x, y]
  | [], _, _, _, h => by simp [zipD2] at h
  | _ :: _, [], _, _, h => by simp [zipD2] at h
  | x :: as, y :: bs, 0, d, h => by
    simp only [zipD2, List.getElem?_cons_zero] at h
    cases h
    exact ⟨x, y, rfl, rfl, rfl⟩
  | x :: as, y :: bs, i + 1, d, h => by
    simp only [zipD2, List.getElem?_cons_succ] at h
    obtain ⟨u, v, h1, h2, h3⟩ := zipD2_get h
    exact ⟨u, v, by simpa using h1, by simpa using h2, h3⟩
theorem zipD2_len : ∀ {as bs : List D}, (zipD2 as bs).length = min as.length bs.length
  | [], _ => by simp [zipD2]
  | _ :: _, [] => by simp [zipD2]
  | _ :: as, _ :: bs => by simp only [zipD2, List.length_cons, zipD2_len (as := as) (bs := bs)]; omega
theorem walkD_zip2 {b1 b2 : Bool} {a1 a2 : Addr} {xs ys : List V} {ds es : List D} (h1 : ∀ H, G H → Sq K b1 H a1 xs) (h2 : ∀ H, G H → Sq K b2 H a2 ys) (r1 : Reps c F xs ds) (r2 : Reps c F ys es) : WalkD c G F (Itz2 K b1 a1 b2 a2) (zipD2 ds es) := by
  have l1 := r1.length
  have l2 := r2.length
  refine ⟨fun i H hi gg => ?_, fun H gg => ⟨xs, ys, h1 H gg, h2 H gg, ?_⟩, fun i d H x H' hd gg y => .inr ?_⟩
  · rw [zipD2_len] at hi
    exact ⟨xs, ys, xs[i]'(by omega), ys[i]'(by omega), h1 H gg, h2 H gg, by simp, by simp⟩
  · rw [zipD2_len]; omega
  · obtain ⟨T, x', y', rfl, hT, rfl, f1, f2⟩ := y
    obtain ⟨dx, dy, q1, q2, rfl⟩ := zipD2_get hd
    obtain ⟨v, p1, k1⟩ := r1.get q1
    obtain ⟨w, p2, k2⟩ := r2.get q2
    rw [f1 xs (h1 H gg)] at p1
    rw [f2 ys (h2 H gg)] at p2
    cases p1; cases p2
    exact ⟨T, _, _, rfl, hT, rfl, rfl, .cons k1 (.cons k2 .nil)⟩
theorem zipD3_get : ∀ {as bs cs : List D} {i : Nat} {d : D}, (zipD3 as bs cs)[i]? = some d → ∃ x y z, as[i]? = some x ∧ bs[i]? = some y ∧ cs[i]? = some z ∧ d = .tup [x, y, z]
  | [], _, _, _, _, h => by simp [zipD3] at h
  | _ :: _, [], _, _, _, h => by simp [zipD3] at h
  | _ :: _, _ :: _, [], _, _, h => by simp [zipD3] at h
  | x :: as, y :: bs, z :: cs, 0, d, h => by
    simp only [zipD3, List.getElem?_cons_zero] at h
    cases h
    exact ⟨x, y, z, rfl, rfl, rfl, rfl⟩
  | x :: as, y :: bs, z :: cs, i + 1, d, h => by
    simp only [zipD3, List.getElem?_cons_succ] at h
    obtain ⟨u, v, w, h1, h2, h3, h4⟩ := zipD3_get h
    exact ⟨u, v, w, by simpa using h1, by simpa using h2, by simpa using h3, h4⟩
theorem zipD3_len : ∀ {as bs cs : List D}, (zipD3 as bs cs).length = min as.length (min bs.length cs.length)
  | [], _, _ => by simp [zipD3]
  | _ :: _, [], _ => by simp [zipD3]
  | _ :: _, _ :: _, [] => by simp [zipD3]
  | _ :: as, _ :: bs, _ :: cs => by simp only [zipD3, List.length_cons, zipD3_len (as := as) (bs := bs) (cs := cs)]; omega
theorem walkD_zip3 {b1 b2 b3 : Bool} {a1 a2 a3 : Addr} {xs ys zs : List V} {ds es fs : List D} (h1 : ∀ H, G H → Sq K b1 H a1 xs) (h2 : ∀ H, G H → Sq K b2 H a2 ys) (h3 : ∀ H, G H → Sq K b3 H a3 zs) (r1 : Reps c F xs ds) (r2 : Reps c F ys es) (r3 : Reps c F zs fs) :
    WalkD c G F (Itz3 K b1 a1 b2 a2 b3 a3) (zipD3 ds es fs) := by
  have l1 := r1.length
  have l2 := r2.length
  have l3 := r3.length
  refine ⟨fun i H hi gg => ?_, fun H gg => ⟨xs, ys, zs, h1 H gg, h2 H gg, h3 H gg, ?_⟩, fun i d H x H' hd gg y => .inr ?_⟩
  · rw [zipD3_len] at hi
    exact ⟨xs, ys, zs, xs[i]'(by omega), ys[i]'(by omega), zs[i]'(by omega), h1 H gg, h2 H gg, h3 H gg, by simp, by simp, by simp⟩
  · rw [zipD3_len]; omega
  · obtain ⟨T, x', y', z', rfl, hT, rfl, f1, f2, f3⟩ := y
    obtain ⟨dx, dy, dz, q1, q2, q3, rfl⟩ := zipD3_get hd
    obtain ⟨v, p1, k1⟩ := r1.get q1
    obtain ⟨w, p2, k2⟩ := r2.get q2
    obtain ⟨u, p3, k3⟩ := r3.get q3
    rw [f1 xs (h1 H gg)] at p1
    rw [f2 ys (h2 H gg)] at p2
    rw [f3 zs (h3 H gg)] at p3
    cases p1; cases p2; cases p3
    exact ⟨T, _, _, rfl, hT, rfl, rfl, .cons k1 (.cons k2 (.cons k3 .nil))⟩
end

/-! ### enumerate(v) begins -/
set_option maxHeartbeats 1000000 in
theorem meets_enumB1 {v : Value} {o : Obj} {H : Heap → Prop} (B : Begins v o H) :
    Meets (Builtin.«enumerate.__new__» ⟨[.type "enumerate", v], []⟩) (fun _ R s => H s.heap ∧
      R (.ok (.ret (.ref (s.heap.push o).objs.size))) { s with heap := (s.heap.push o).push { cls := .type "enumerate", data := .fields #[.none, .bool false, .ref s.heap.objs.size, rawInt 0, .none, .none] } }) :=
  .of_wp fun prog w A R s h => by
    obtain ⟨hp, g, d, tk, os⟩ := s; obtain ⟨h1, h⟩ := h
    have hsub := sub_enumerate
    have q1 : ∀ {A' : Around} {E : Value → Shared → Prop} {Q : Value → Shared → Prop}, Q (.ref hp.objs.size) ⟨hp.push o, g, d, tk, os⟩ → wpAny (model prog w) A' (pyIter v) Q E ⟨hp, g, d, tk, os⟩ :=
      fun q => B.iter prog w _ _ ⟨hp, g, d, tk, os⟩ _ h1 q
    wp_walk using q1
    refine wpAny_stack_any fun st => wpAny_pure ?_
    split
    · rename_i c _ _ _ _ _
      cases (c == Value.type "enumerate")
      · wp_walk using q1
        exact ⟨_, rfl, h⟩
      · wp_walk using q1
        exact ⟨_, rfl, h⟩
    · wp_walk using q1
      exact ⟨_, rfl, h⟩
theorem enum_begins1 {prog : Program} {w : World} {A : Around} {E : Value → Shared → Prop} {s : Shared} {v : Value} {o : Obj} {H : Heap → Prop} {Q : Value → Shared → Prop} (B : Begins v o H) (h1 : H s.heap)
    (h : ∀ h', IsEnum h' (s.heap.objs.size + 1) s.heap.objs.size 0 .none → h'.get? s.heap.objs.size = some o → h'.objs.size = s.heap.objs.size + 2 →
      (∀ b o, s.heap.get? b = some o → h'.get? b = some o) → Q (.ref (s.heap.objs.size + 1)) { s with heap := h' }) :
    wpAny (model prog w) A (call (.type "enumerate") [v]) Q E s := by
  refine callType_new F.called_enumerate (by decide) (F.typeCall_enumerate_1 _) (F.newCall_enumerate_1 _) (fun obj => F.args_object_init_2 obj _) F.entry_enumerate_new
    (meets_enumB1 B) ⟨h1, ?_⟩
  have hz : (s.heap.push o).objs.size = s.heap.objs.size + 1 := Heap.size_push ..
  show _ ∧ _
  rw [hz]
  have he : IsEnum ((s.heap.push o).push { cls := .type "enumerate", data := .fields #[.none, .bool false, .ref s.heap.objs.size, rawInt 0, .none, .none] }) (s.heap.objs.size + 1) s.heap.objs.size 0 .none := by
    have := Heap.get?_push_size (s.heap.push o) (o := { cls := .type "enumerate", data := .fields #[.none, .bool false, .ref s.heap.objs.size, rawInt 0, .none, .none] }) rfl
    rw [hz] at this; exact this
  refine ⟨⟨_, he, rfl⟩, h _ he (Heap.get?_push_of_some _ (Heap.get?_push_size _ B.free)) (by rw [Heap.size_push, hz]) fun b o x => Heap.get?_push_of_some _ (Heap.get?_push_of_some _ x)⟩

/-! ### the walks of the text -/
section
variable {X : Cx} {tg : Expr}
def iSqA (K : PySem.W.Frag) (tl : TE) : TI := fun σ H R => tl σ H fun x H1 => (∃ a b xs, x = .ref a ∧ Sq K b H1 a xs ∧ R (Itb K b a) H1) ∨ ∃ z, x = .str z ∧ R (Its z) H1
theorem pi_seqA {l : Expr} {tl : TE} (hl : PE X l tl) : PI X tg l (iSqA X.K tl) := by
  refine ⟨fun pins s σ H R I h => ?_⟩
  refine thn (hl.run pins s σ H _ I h) fun v s1 ⟨x, H1, I1, r1, q1⟩ => ?_
  rcases q1 with ⟨a, b, xs, e, hq, q⟩ | ⟨z, e, q⟩
  · subst e
    cases r1
    have fp : ∀ c ∈ [s1.heap.objs.size], FpOk X pins H1 c := fun c hb => by
      have e : c = s1.heap.objs.size := by simpa using hb
      subst e
      exact I1.fpOk (Nat.le_refl _) (I1.hok.fresh (Nat.le_refl _))
    cases b with
    | true =>
      obtain ⟨its, rv, p, hz⟩ := I1.tuple hq
      exact wpAny_pyIter_tuple (show s1.heap.IsTuple a its.toArray from p) ⟨s1.heap.objs.size, [s1.heap.objs.size], _, _, H1, rfl, I1.kept (t' := s1.toks) fun b o e => Heap.get?_push_of_some _ e, turn_tuple a _, ⟨_, Heap.get?_push_size _ rfl, rfl, rfl⟩, fp, q⟩
    | false =>
      obtain ⟨its, rv, p, hz⟩ := I1.list hq
      exact wpAny_pyIter_list p.isList ⟨s1.heap.objs.size, [s1.heap.objs.size], _, _, H1, rfl, I1.kept (t' := s1.toks) fun b o e => Heap.get?_push_of_some _ e, turn_list a _, ⟨_, Heap.get?_push_size _ rfl, rfl, rfl⟩, fp, q⟩
  · subst e
    obtain ⟨t, rfl⟩ := r1
    cases ha : z.cps.all (· < 128)
    · exact wpAny_pyIter_wide ha (pi_one (tk := s1.toks) I1 _ (turn_str _ z t "str_iterator" (.inr rfl)) ⟨_, Heap.get?_push_size _ rfl, rfl, rfl⟩ q)
    · exact wpAny_pyIter_ascii ha (pi_one (tk := s1.toks) I1 _ (turn_str _ z t "str_ascii_iterator" (.inl rfl)) ⟨_, Heap.get?_push_size _ rfl, rfl, rfl⟩ q)
def iEnA (K : PySem.W.Frag) (k : Int) (tl : TE) : TI := fun σ H R => tl σ H fun x H1 => V.int k = V.int k ∧ ∃ a b xs, x = .ref a ∧ Sq K b H1 a xs ∧ R (IteK K k b a) H1
variable {p pos tpos : Pos} {elts : List Expr} {kk : Nat} {e e2 e3 : Expr} {tl t2 t3 : TE}
theorem enFresh {pins : List (Addr × Obj)} {σ : L2.St} {H : Hp} {s : Shared} (I : Inv X pins σ H s) : ∀ b ∈ [s.heap.objs.size + 1, s.heap.objs.size], FpOk X pins H b := fun b hb => by
  have e' : b = s.heap.objs.size + 1 ∨ b = s.heap.objs.size := by simpa using hb
  have hle : s.heap.objs.size ≤ b := by rcases e' with z | z <;> omega
  exact I.fpOk hle (I.hok.fresh hle)
def one1 (P : V → Hp → Prop) : List V → Hp → Prop := fun vs H => match vs with
  | [x] => P x H
  | _ => False
def two2 (P : V → V → Hp → Prop) : List V → Hp → Prop := fun vs H => match vs with
  | [x, y] => P x y H
  | _ => False
def thr3 (P : V → V → V → Hp → Prop) : List V → Hp → Prop := fun vs H => match vs with
  | [x, y, z] => P x y z H
  | _ => False
theorem one1_at {P : V → Hp → Prop} {vs : List V} {H : Hp} (h : one1 P vs H) : ∃ x, vs = [x] ∧ P x H := by
  match vs, h with
  | [x], h => exact ⟨x, rfl, h⟩
theorem two2_at {P : V → V → Hp → Prop} {vs : List V} {H : Hp} (h : two2 P vs H) : ∃ x y, vs = [x, y] ∧ P x y H := by
  match vs, h with
  | [x, y], h => exact ⟨x, y, rfl, h⟩
theorem thr3_at {P : V → V → V → Hp → Prop} {vs : List V} {H : Hp} (h : thr3 P vs H) : ∃ x y z, vs = [x, y, z] ∧ P x y z H := by
  match vs, h with
  | [x, y, z], h => exact ⟨x, y, z, rfl, h⟩
theorem pi_enA1 (hg : Gl X "enumerate") (hm : X.mg "enumerate" = none) (ha : PE X e tl) (hs : starEach [e] X.env = (false, eval e X.env) :: starEach [] X.env) :
    PI X (.Tuple elts kk tpos) (.Call (.Name "enumerate" p) [e] [] pos) (iEnA X.K 0 tl) := by
  refine ⟨fun pins s σ H R I h => ?_⟩
  refine Call_ (ld_blt I hg hm boot_enumerate (PyProof.Rows.callWith_type1 (thn ((pa_cons ha pa_nil hs).run pos pins s σ H (one1 fun x H1 => V.int 0 = V.int 0 ∧ ∃ a b xs, x = .ref a ∧ Sq X.K b H1 a xs ∧ R (IteK X.K 0 b a) H1) I h) fun us s1 ⟨vs, H1, I1, r1, q1⟩ => ?_) hs rfl))
  obtain ⟨x, ex, _, a, b, xs, ea, hq, q⟩ := one1_at q1
  subst ex
  subst ea
  cases r1 with
  | cons r rr =>
    cases rr
    cases r
    obtain ⟨its, rv, p'⟩ := inv_sq I1 hq
    refine enum_begins1 (begins_sq a its.toArray b) p' fun h' he hit hsz hk => wpAny_pyIter_enum he ?_
    have I2 : Inv X pins σ H1 { s1 with heap := h' } := I1.kept (t' := s1.toks) hk
    have hlt := isSq_lt p'
    exact ⟨s1.heap.objs.size + 1, [s1.heap.objs.size + 1, s1.heap.objs.size], _, _, H1, rfl, I2, turn_enumK a (s1.heap.objs.size + 1) s1.heap.objs.size (Nat.succ_ne_self _) (Nat.ne_of_gt (Nat.lt_succ_of_lt hlt)) (Nat.ne_of_lt hlt), ⟨⟨.none, by simpa using he⟩, isIt_new hit⟩, enFresh I1, q⟩
theorem pi_enA2 {k : Int} {k2 : Nat} {kp : Pos} (hg : Gl X "enumerate") (hm : X.mg "enumerate" = none) (ha : PE X e tl) (hs : starEach [e, .Constant (.int k) k2 kp] X.env = (false, eval e X.env) :: starEach [.Constant (.int k) k2 kp] X.env)
    (hs2 : starEach [.Constant (.int k) k2 kp] X.env = (false, eval (.Constant (.int k) k2 kp) X.env) :: starEach [] X.env) (hpl : (backTo pos (starEach [.Constant (.int k) k2 kp] X.env)).any (·.1) = false) (hk0 : -(2 ^ 63) ≤ k) (hk1 : k < 2 ^ 63) :
    PI X (.Tuple elts kk tpos) (.Call (.Name "enumerate" p) [e, .Constant (.int k) k2 kp] [] pos) (iEnA X.K k tl) := by
  refine ⟨fun pins s σ H R I h => ?_⟩
  refine Call_ (ld_blt I hg hm boot_enumerate (PyProof.Rows.callWith_type1 (thn ((pa_cons ha (pa_cons pe_int pa_nil hs2) hs).run pos pins s σ H (two2 fun x y H1 => y = .int k ∧ ∃ a b xs, x = .ref a ∧ Sq X.K b H1 a xs ∧ R (IteK X.K k b a) H1) I h) fun us s1 ⟨vs, H1, I1, r1, q1⟩ => ?_) hs hpl))
  obtain ⟨x, y, ex, ey, a, b, xs, ea, hq, q⟩ := two2_at q1
  subst ex
  subst ea
  subst ey
  cases r1 with
  | cons r rr =>
    cases rr with
    | cons r' rr =>
      cases rr
      cases r
      obtain ⟨t, rfl⟩ := r'
      obtain ⟨its, rv, p'⟩ := inv_sq I1 hq
      refine enum_begins (begins_sq a its.toArray b) p' hk0 hk1 fun h' he hit hsz hk => wpAny_pyIter_enum he ?_
      have I2 : Inv X pins σ H1 { s1 with heap := h' } := I1.kept (t' := s1.toks) hk
      have hlt := isSq_lt p'
      exact ⟨s1.heap.objs.size + 1, [s1.heap.objs.size + 1, s1.heap.objs.size], _, _, H1, rfl, I2, turn_enumK a (s1.heap.objs.size + 1) s1.heap.objs.size (Nat.succ_ne_self _) (Nat.ne_of_gt (Nat.lt_succ_of_lt hlt)) (Nat.ne_of_lt hlt), ⟨⟨.none, by simpa using he⟩, isIt_new hit⟩, enFresh I1, q⟩
def iZpA (K : PySem.W.Frag) (tl t2 : TE) : TI := fun σ H R => tl σ H fun x H1 => t2 σ H1 fun y H2 => ∃ a b xs a2 b2 ys, x = .ref a ∧ y = .ref a2 ∧ Sq K b H2 a xs ∧ Sq K b2 H2 a2 ys ∧ R (Itz2 K b a b2 a2) H2
theorem pi_zpA (hg : Gl X "zip") (hm : X.mg "zip" = none) (ha : PE X e tl) (hb : PE X e2 t2) (hs : starEach [e, e2] X.env = (false, eval e X.env) :: starEach [e2] X.env) (hs2 : starEach [e2] X.env = (false, eval e2 X.env) :: starEach [] X.env) (hpl : (backTo pos (starEach [e2] X.env)).any (·.1) = false) :
    PI X (.Tuple elts kk tpos) (.Call (.Name "zip" p) [e, e2] [] pos) (iZpA X.K tl t2) := by
  refine ⟨fun pins s σ H R I h => ?_⟩
  refine Call_ (ld_blt I hg hm PyProof.Rows.boot_zip (PyProof.Rows.callWith_type1 (thn ((pa_cons ha (pa_cons hb pa_nil hs2) hs).run pos pins s σ H (two2 fun x y H2 => ∃ a b xs a2 b2 ys, x = .ref a ∧ y = .ref a2 ∧ Sq X.K b H2 a xs ∧ Sq X.K b2 H2 a2 ys ∧ R (Itz2 X.K b a b2 a2) H2) I h) fun us s1 ⟨vs, H1, I1, r1, q1⟩ => ?_) hs hpl))
  obtain ⟨x, y, ex, a, b, xs, a2, b2, ys, e1, e2, hq, hq2, q⟩ := two2_at q1
  subst ex
  subst e1
  subst e2
  cases r1 with
  | cons r rr =>
    cases rr with
    | cons r' rr =>
      cases rr
      cases r
      cases r'
      obtain ⟨its, rv, p1⟩ := inv_sq I1 hq
      obtain ⟨its2, rv2, p2⟩ := inv_sq I1 hq2
      have l1 := isSq_lt p1
      have l2 := isSq_lt p2
      refine zip_begins2 (begins_sq a its.toArray b) (begins_sq a2 its2.toArray b2) p1 p2 fun h' hz hTI hTO h1 h2 hsz hk => wpAny_pyIter_zip hz ?_
      have I2 : Inv X pins σ H1 { s1 with heap := h' } := I1.kept (t' := s1.toks) hk
      refine ⟨s1.heap.objs.size + 4, [s1.heap.objs.size + 4, s1.heap.objs.size + 2, s1.heap.objs.size + 3, s1.heap.objs.size, s1.heap.objs.size + 1], _, _, H1, rfl, I2, turn_zip2 (zip_sep2 (fp1 := [a]) (fp2 := [a2]) (fun c hc => by rw [List.mem_singleton.mp hc]; exact l1) fun c hc => by rw [List.mem_singleton.mp hc]; exact l2) (Nat.ne_of_lt l1) (Nat.ne_of_lt (Nat.lt_succ_of_lt l2)), ⟨hz, hTI, ⟨_, _, hTO⟩, isIt_new h1, isIt_new h2⟩, fun c hcm => ?_, q⟩
      have e' : c = s1.heap.objs.size + 4 ∨ c = s1.heap.objs.size + 2 ∨ c = s1.heap.objs.size + 3 ∨ c = s1.heap.objs.size ∨ c = s1.heap.objs.size + 1 := by simpa using hcm
      have hle : s1.heap.objs.size ≤ c := by rcases e' with z | z | z | z | z <;> rw [z] <;> first | exact Nat.le_refl _ | exact Nat.le_add_right _ _
      exact I1.fpOk hle (I1.hok.fresh hle)
def iZpA3 (K : PySem.W.Frag) (tl t2 t3 : TE) : TI := fun σ H R => tl σ H fun x H1 => t2 σ H1 fun y H2 => t3 σ H2 fun w H3 => ∃ a b xs a2 b2 ys a3 b3 zs, x = .ref a ∧ y = .ref a2 ∧ w = .ref a3 ∧ Sq K b H3 a xs ∧ Sq K b2 H3 a2 ys ∧ Sq K b3 H3 a3 zs ∧ R (Itz3 K b a b2 a2 b3 a3) H3
theorem pi_zpA3 (hg : Gl X "zip") (hm : X.mg "zip" = none) (ha : PE X e tl) (hb : PE X e2 t2) (hd : PE X e3 t3) (hs : starEach [e, e2, e3] X.env = (false, eval e X.env) :: starEach [e2, e3] X.env) (hs2 : starEach [e2, e3] X.env = (false, eval e2 X.env) :: starEach [e3] X.env) (hs3 : starEach [e3] X.env = (false, eval e3 X.env) :: starEach [] X.env) (hpl : (backTo pos (starEach [e2, e3] X.env)).any (·.1) = false) :
    PI X (.Tuple elts kk tpos) (.Call (.Name "zip" p) [e, e2, e3] [] pos) (iZpA3 X.K tl t2 t3) := by
  refine ⟨fun pins s σ H R I h => ?_⟩
  refine Call_ (ld_blt I hg hm PyProof.Rows.boot_zip (PyProof.Rows.callWith_type1 (thn ((pa_cons ha (pa_cons hb (pa_cons hd pa_nil hs3) hs2) hs).run pos pins s σ H (thr3 fun x y w H3 => ∃ a b xs a2 b2 ys a3 b3 zs, x = .ref a ∧ y = .ref a2 ∧ w = .ref a3 ∧ Sq X.K b H3 a xs ∧ Sq X.K b2 H3 a2 ys ∧ Sq X.K b3 H3 a3 zs ∧ R (Itz3 X.K b a b2 a2 b3 a3) H3) I h) fun us s1 ⟨vs, H1, I1, r1, q1⟩ => ?_) hs hpl))
  obtain ⟨x, y, w, ex, a, b, xs, a2, b2, ys, a3, b3, zs, e1, e2, e3, hq, hq2, hq3, q⟩ := thr3_at q1
  subst ex
  subst e1
  subst e2
  subst e3
  cases r1 with
  | cons r rr =>
    cases rr with
    | cons r' rr =>
      cases rr with
      | cons r'' rr =>
        cases rr
        cases r
        cases r'
        cases r''
        obtain ⟨its, rv, p1⟩ := inv_sq I1 hq
        obtain ⟨its2, rv2, p2⟩ := inv_sq I1 hq2
        obtain ⟨its3, rv3, p3⟩ := inv_sq I1 hq3
        have l1 := isSq_lt p1
        have l2 := isSq_lt p2
        have l3 := isSq_lt p3
        refine zip_begins3 (begins_sq a its.toArray b) (begins_sq a2 its2.toArray b2) (begins_sq a3 its3.toArray b3) p1 p2 p3 fun h' hz hTI hTO h1 h2 h3 hsz hk => wpAny_pyIter_zip hz ?_
        have I2 : Inv X pins σ H1 { s1 with heap := h' } := I1.kept (t' := s1.toks) hk
        refine ⟨s1.heap.objs.size + 5, [s1.heap.objs.size + 5, s1.heap.objs.size + 3, s1.heap.objs.size + 4, s1.heap.objs.size, s1.heap.objs.size + 1, s1.heap.objs.size + 2], _, _, H1, rfl, I2, turn_zip3 (zip_sep3 (fp1 := [a]) (fp2 := [a2]) (fp3 := [a3]) (fun c hc => by rw [List.mem_singleton.mp hc]; exact l1) (fun c hc => by rw [List.mem_singleton.mp hc]; exact l2) fun c hc => by rw [List.mem_singleton.mp hc]; exact l3) (Nat.ne_of_lt l1) (Nat.ne_of_lt (Nat.lt_succ_of_lt l2)) (Nat.ne_of_lt (Nat.lt_succ_of_lt (Nat.lt_succ_of_lt l3))), ⟨hz, hTI, ⟨_, _, _, hTO⟩, isIt_new h1, isIt_new h2, isIt_new h3⟩, fun c hcm => ?_, q⟩
        have e' : c = s1.heap.objs.size + 5 ∨ c = s1.heap.objs.size + 3 ∨ c = s1.heap.objs.size + 4 ∨ c = s1.heap.objs.size ∨ c = s1.heap.objs.size + 1 ∨ c = s1.heap.objs.size + 2 := by simpa using hcm
        have hle : s1.heap.objs.size ≤ c := by rcases e' with z | z | z | z | z | z <;> rw [z] <;> first | exact Nat.le_refl _ | exact Nat.le_add_right _ _
        exact I1.fpOk hle (I1.hok.fresh hle)
end

/-! ### sources -/
section
variable {X : Cx} {c : Cn} {W : WX} {μ : Md} {tg : Expr} {p pos tpos : Pos} {elts : List Expr} {kk : Nat} {e e2 e3 : Expr} {m m2 m3 : M SV} {α : Type}
theorem goM {σ : L2.St} {F : Hp} {T : Tm} {H : Hp} {en : Env} {g : Rng} {f : SV → M α} {K : α → Hp → Tm → Hp → Env → Rng → Prop} {Q : VK} (R : Rel c F T en g σ H) (h : Post c W σ F T H (mBind m f en g) K)
    (k : ∀ sv v F1 T1 H1 e1 g1, Rel c F1 T1 e1 g1 σ H1 → Ext c F T H F1 T1 H1 → μ.Res c F1 H1 v sv → Post c W σ F1 T1 H1 (f sv e1 g1) K → Q v H1) : tM μ c W m σ H Q :=
  ⟨F, T, en, g, R, (Post.bind h).imp fun sv F1 T1 H1 e1 g1 R1 x1 h1 v p => k sv v F1 T1 H1 e1 g1 R1 x1 p h1⟩
theorem si_seq (h : PE X e (tM μ c W m)) : PI X tg e (tI μ c W (.seq m)) := piImp (pi_seqA h) fun σ H R ⟨F, T, en, g, Rl, p⟩ => goM Rl p fun sv v F1 T1 H1 e1 g1 R1 x1 o q => by
  have viaSeq : Post c W σ F1 T1 H1 ((mOpt sv.seq : M (List D)) e1 g1) (fun ds F' T' H' _ _ => ∀ J, WalkD c (μ.G c F' H') F' J ds → R J H') → (∃ a b xs, v = .ref a ∧ Sq X.K b H1 a xs ∧ R (Itb X.K b a) H1) ∨ ∃ z, v = .str z ∧ R (Its z) H1 := fun q => by
    obtain ⟨ds, es, q⟩ := Post.opt q
    obtain ⟨a, b, xs, ev, k, r⟩ := μ.seqG (K := X.K) R1.base o es
    exact .inl ⟨a, b, xs, ev, k _ (μ.refl R1.base), doneQ R1 q _ (walkD_sq k r)⟩
  cases sv with
  | dat d =>
    cases d with
    | str z =>
      have ho : v = .str z := by
        have o' : Rep c F1 v (.str z) := by cases μ <;> exact o
        cases o'; rfl
      subst ho
      have q : Post c W σ F1 T1 H1 ((if z.length ≤ line then mRet (z.cps.toList.map fun c => D.str ⟨#[c]⟩) else mOpt none : M (List D)) e1 g1) (fun ds F' T' H' _ _ => ∀ J, WalkD c (μ.G c F' H') F' J ds → R J H') := q
      by_cases hz : z.length ≤ line
      · rw [if_pos hz] at q
        exact .inr ⟨z, rfl, doneQ R1 q _ walkD_str⟩
      · rw [if_neg hz] at q
        exact (show False from q).elim
    | _ => exact viaSeq q
  | _ => exact viaSeq q
theorem range_ok {sa sb : SV} {ds : List D} (h : opRange sa sb = some ds) : ∃ i j : Int, sa = .dat (.int i) ∧ sb = .dat (.int j) ∧ (-100000 ≤ i ∧ i ≤ 100000 ∧ -100000 ≤ j ∧ j ≤ 100000) ∧ ds = (List.range (j - i).toNat).map fun (k : Nat) => .int (i + k) := by
  unfold opRange at h
  split at h
  · rename_i i j
    split at h
    · rename_i hb
      cases h
      exact ⟨i, j, rfl, rfl, hb, rfl⟩
    · cases h
  · cases h
theorem si_rng1 (hg : Gl X "range") (hm : X.mg "range" = none) (ha : PE X e (tP c W m)) (hs : starEach [e] X.env = (false, eval e X.env) :: starEach [] X.env) : PI X tg (.Call (.Name "range" p) [e] [] pos) (tI μ c W (.rng1 m)) :=
  piImp (pi_range1 hg hm (pa_cons ha pa_nil hs) hs) fun σ H R ⟨F, T, en, g, Rl, p⟩ => goP Rl p fun sv v F1 T1 H1 e1 g1 R1 x1 o q => by
    obtain ⟨ds, es, qq⟩ := Post.opt q
    obtain ⟨i, j, ei, ej, hb, ed⟩ := range_ok es
    cases ei; cases ej
    have o' : Rep c F1 v (.int j) := o
    cases o'
    refine ⟨j, rfl, by omega, by omega, doneQ R1 qq _ ?_⟩
    rw [ed]
    simpa using walkD_range (c := c) (G := μ.G c F1 H1) (F := F1) (lo := 0) (n := j.toNat)
theorem si_rng2 (hg : Gl X "range") (hm : X.mg "range" = none) (ha : PE X e (tP c W m)) (hb : PE X e2 (tP c W m2)) (hs : starEach [e, e2] X.env = (false, eval e X.env) :: starEach [e2] X.env) (hs2 : starEach [e2] X.env = (false, eval e2 X.env) :: starEach [] X.env) :
    PI X tg (.Call (.Name "range" p) [e, e2] [] pos) (tI μ c W (.rng2 m m2)) :=
  piImp (pi_range2 hg hm (pa_cons ha (pa_cons hb pa_nil hs2) hs) (by rw [hs, hs2]; rfl) (by rw [hs2]; rfl)) fun σ H R ⟨F, T, en, g, Rl, p⟩ => goP Rl p fun sv v F1 T1 H1 e1 g1 R1 x1 o q => goP R1 q fun sv2 v2 F2 T2 H2 e2 g2 R2 x2 o2 q2 => by
    obtain ⟨ds, es, qq⟩ := Post.opt q2
    obtain ⟨i, j, ei, ej, hb, ed⟩ := range_ok es
    subst ei; subst ej
    have o' : Rep c F1 v (.int i) := o
    have o2' : Rep c F2 v2 (.int j) := o2
    cases o'; cases o2'
    refine ⟨i, j, rfl, by omega, doneQ R2 qq _ ?_⟩
    rw [ed]
    exact walkD_range
theorem si_enum (hg : Gl X "enumerate") (hm : X.mg "enumerate" = none) (ha : PE X e (tM μ c W m)) (hs : starEach [e] X.env = (false, eval e X.env) :: starEach [] X.env) : PI X (.Tuple elts kk tpos) (.Call (.Name "enumerate" p) [e] [] pos) (tI μ c W (.enum m)) :=
  piImp (pi_enA1 hg hm ha hs) fun σ H R ⟨F, T, en, g, Rl, p⟩ => goM Rl p fun sv v F1 T1 H1 e1 g1 R1 x1 o q => by
    obtain ⟨ds, es, q⟩ := Post.opt q
    cases hq1 : sv.seq with
    | none => rw [hq1] at es; cases es
    | some d0 =>
      rw [hq1] at es; cases es
      obtain ⟨a, b, xs, ev, k, r⟩ := μ.seqG (K := X.K) R1.base o hq1
      exact ⟨rfl, a, b, xs, ev, k _ (μ.refl R1.base), doneQ R1 q _ (walkD_enum k r)⟩
theorem si_enumK {k : Int} {k2 : Nat} {kp : Pos} (hg : Gl X "enumerate") (hm : X.mg "enumerate" = none) (ha : PE X e (tM μ c W m)) (hs : starEach [e, .Constant (.int k) k2 kp] X.env = (false, eval e X.env) :: starEach [.Constant (.int k) k2 kp] X.env)
    (hs2 : starEach [.Constant (.int k) k2 kp] X.env = (false, eval (.Constant (.int k) k2 kp) X.env) :: starEach [] X.env) (hpl : (backTo pos (starEach [.Constant (.int k) k2 kp] X.env)).any (·.1) = false) (hk0 : -(2 ^ 63) ≤ k) (hk1 : k < 2 ^ 63) :
    PI X (.Tuple elts kk tpos) (.Call (.Name "enumerate" p) [e, .Constant (.int k) k2 kp] [] pos) (tI μ c W (.enumFrom m k)) :=
  piImp (pi_enA2 hg hm ha hs hs2 hpl hk0 hk1) fun σ H R ⟨F, T, en, g, Rl, p⟩ => goM Rl p fun sv v F1 T1 H1 e1 g1 R1 x1 o q => by
    obtain ⟨ds, es, q⟩ := Post.opt q
    cases hq1 : sv.seq with
    | none => rw [hq1] at es; cases es
    | some d0 =>
      rw [hq1] at es; cases es
      obtain ⟨a, b, xs, ev, k, r⟩ := μ.seqG (K := X.K) R1.base o hq1
      exact ⟨rfl, a, b, xs, ev, k _ (μ.refl R1.base), doneQ R1 q _ (walkD_enum k r)⟩
theorem si_zip2 (hg : Gl X "zip") (hm : X.mg "zip" = none) (ha : PE X e (tM μ c W m)) (hb : PE X e2 (tM μ c W m2)) (hs : starEach [e, e2] X.env = (false, eval e X.env) :: starEach [e2] X.env) (hs2 : starEach [e2] X.env = (false, eval e2 X.env) :: starEach [] X.env) (hpl : (backTo pos (starEach [e2] X.env)).any (·.1) = false) :
    PI X (.Tuple elts kk tpos) (.Call (.Name "zip" p) [e, e2] [] pos) (tI μ c W (.zip2 m m2)) :=
  piImp (pi_zpA hg hm ha hb hs hs2 hpl) fun σ H R ⟨F, T, en, g, Rl, p⟩ => goM Rl p fun sv v F1 T1 H1 e1 g1 R1 x1 o q => goM R1 q fun sv2 v2 F2 T2 H2 e2 g2 R2 x2 o2 q2 => by
    obtain ⟨ds, es, q⟩ := Post.opt q2
    cases hq1 : sv.seq with
    | none => rw [hq1] at es; cases es
    | some d0 =>
      cases hq2 : sv2.seq with
      | none => rw [hq1, hq2] at es; cases es
      | some d1 =>
        rw [hq1, hq2] at es; cases es
        obtain ⟨a, b, xs, ev, k, r⟩ := μ.seqG (K := X.K) R2.base (μ.ext x2 o) hq1
        obtain ⟨a', b', ys, ev', k', r'⟩ := μ.seqG (K := X.K) R2.base o2 hq2
        exact ⟨a, b, xs, a', b', ys, ev, ev', k _ (μ.refl R2.base), k' _ (μ.refl R2.base), doneQ R2 q _ (walkD_zip2 k k' r r')⟩
theorem si_zip3 (hg : Gl X "zip") (hm : X.mg "zip" = none) (ha : PE X e (tM μ c W m)) (hb : PE X e2 (tM μ c W m2)) (hd : PE X e3 (tM μ c W m3)) (hs : starEach [e, e2, e3] X.env = (false, eval e X.env) :: starEach [e2, e3] X.env) (hs2 : starEach [e2, e3] X.env = (false, eval e2 X.env) :: starEach [e3] X.env) (hs3 : starEach [e3] X.env = (false, eval e3 X.env) :: starEach [] X.env) (hpl : (backTo pos (starEach [e2, e3] X.env)).any (·.1) = false) :
    PI X (.Tuple elts kk tpos) (.Call (.Name "zip" p) [e, e2, e3] [] pos) (tI μ c W (.zip3 m m2 m3)) :=
  piImp (pi_zpA3 hg hm ha hb hd hs hs2 hs3 hpl) fun σ H R ⟨F, T, en, g, Rl, p⟩ => goM Rl p fun sv v F1 T1 H1 e1 g1 R1 x1 o q => goM R1 q fun sv2 v2 F2 T2 H2 e2 g2 R2 x2 o2 q2 => goM R2 q2 fun sv3 v3 F3 T3 H3 e3 g3 R3 x3 o3 q3 => by
    obtain ⟨ds, es, q⟩ := Post.opt q3
    cases hq1 : sv.seq with
    | none => rw [hq1] at es; cases es
    | some d0 =>
      cases hq2 : sv2.seq with
      | none => rw [hq1, hq2] at es; cases es
      | some d1 =>
        cases hq3 : sv3.seq with
        | none => rw [hq1, hq2, hq3] at es; cases es
        | some d2 =>
          rw [hq1, hq2, hq3] at es; cases es
          obtain ⟨a, b, xs, ev, k, r⟩ := μ.seqG (K := X.K) R3.base (μ.ext x3 (μ.ext x2 o)) hq1
          obtain ⟨a', b', ys, ev', k', r'⟩ := μ.seqG (K := X.K) R3.base (μ.ext x3 o2) hq2
          obtain ⟨a2, b2, zs, ev2, k2, r2⟩ := μ.seqG (K := X.K) R3.base o3 hq3
          exact ⟨a, b, xs, a', b', ys, a2, b2, zs, ev, ev', ev2, k _ (μ.refl R3.base), k' _ (μ.refl R3.base), k2 _ (μ.refl R3.base), doneQ R3 q _ (walkD_zip3 k k' k2 r r' r2)⟩
end
end PV
set_option Elab.async false
set_option linter.all false
set_option maxRecDepth 100000
set_option maxHeartbeats 4000000
/-! PV12: targets, list comprehensions. -/
namespace PV
open PySem L2 PySem.Spec PyProof.Rows

section
variable {c : Cn} {F F1 : Hp} {T T1 : Tm} {H H1 : Hp} {e e' : Env} {g : Rng} {σ σ' : L2.St}
/-- the same heap, other names -/
theorem Rel.env (R : Rel c F T e g σ H) (hl : e'.length = σ'.length) (h : ∀ i sv, e'[i]? = some (some sv) → ∃ v, σ'[i]? = some (some v) ∧ SlotRep c F T H i v sv) : Rel c F T e' g σ' H :=
  ⟨R.base, R.TL, R.TC, R.dom, hl, h⟩
theorem Rel.setDat (R : Rel c F T e g σ H) {v : V} {d : D} (i : Nat) (r : Rep c F v d) : Rel c F T (e.set i (some (.dat d))) g (σ.set i (some v)) H :=
  R.env (by simp [R.len]) fun j sv h => by
    by_cases hj : j = i
    · subst hj
      by_cases hlt : j < e.length
      · rw [List.getElem?_set_self hlt] at h
        cases h
        exact ⟨v, List.getElem?_set_self (by rw [← R.len]; exact hlt), r⟩
      · rw [List.getElem?_eq_none (by simp; omega)] at h; cases h
    · rw [List.getElem?_set_ne (Ne.symm hj)] at h
      obtain ⟨w, h1, h2⟩ := R.slot j sv h
      exact ⟨w, by rw [List.getElem?_set_ne (Ne.symm hj)]; exact h1, h2⟩
theorem wipe_len (e : Env) : ∀ is : List Nat, (wipe e is).length = e.length
  | [] => rfl
  | i :: is => by unfold wipe; rw [List.length_set, wipe_len e is]
theorem wipe_get (e : Env) {j : Nat} : ∀ {is : List Nat}, j ∉ is → (wipe e is)[j]? = e[j]?
  | [], _ => rfl
  | i :: is, h => by
    unfold wipe
    rw [List.getElem?_set_ne (by rintro rfl; exact h (by simp)), wipe_get e fun z => h (by simp [z])]
theorem wipe_in (e : Env) {j : Nat} {sv : SV} : ∀ {is : List Nat}, (wipe e is)[j]? = some (some sv) → j ∉ is
  | [], _ => by simp
  | i :: is, h => by
    unfold wipe at h
    by_cases hj : j = i
    · subst hj
      rw [List.getElem?_set_self'] at h
      cases q : (wipe e is)[j]? with
      | none => rw [q] at h; cases h
      | some _ => rw [q] at h; cases h
    · rw [List.getElem?_set_ne (Ne.symm hj)] at h
      have := wipe_in e h
      simp [hj, this]
theorem swipe_get (s : L2.St) {j : Nat} : ∀ {is : List Nat}, j ∉ is → (L2.wipe s is)[j]? = s[j]?
  | [], _ => rfl
  | i :: is, h => by
    unfold L2.wipe
    rw [List.getElem?_set_ne (by rintro rfl; exact h (by simp)), swipe_get s fun z => h (by simp [z])]
theorem swipe_in (s : L2.St) {j : Nat} : ∀ {is : List Nat}, j ∈ is → j < s.length → (L2.wipe s is)[j]? = some none
  | [], h, _ => by simp at h
  | i :: is, h, hl => by
    unfold L2.wipe
    by_cases hj : j = i
    · subst hj
      rw [List.getElem?_set_self (by rw [L2.wipe_length]; exact hl)]
    · rw [List.getElem?_set_ne (Ne.symm hj)]
      exact swipe_in s (by simpa [hj] using h) hl
/-- off is alike -/
def Off (is : List Nat) (s s' : L2.St) : Prop := s'.length = s.length ∧ ∀ j, j ∉ is → s'[j]? = s[j]?
theorem Off.refl (is : List Nat) (s : L2.St) : Off is s s := ⟨rfl, fun _ _ => rfl⟩
theorem Off.wipe {is : List Nat} {s s' : L2.St} (h : Off is s s') : L2.wipe s' is = L2.wipe s is := by
  apply List.ext_getElem?
  intro j
  by_cases hj : j ∈ is
  · by_cases hl : j < s.length
    · rw [swipe_in s' hj (by rw [h.1]; exact hl), swipe_in s hj hl]
    · rw [List.getElem?_eq_none (by rw [L2.wipe_length, h.1]; omega), List.getElem?_eq_none (by rw [L2.wipe_length]; omega)]
  · rw [swipe_get s' hj, swipe_get s hj, h.2 j hj]
theorem Off.mono {is js : List Nat} {s s' : L2.St} (h : Off is s s') (k : ∀ i ∈ is, i ∈ js) : Off js s s' := ⟨h.1, fun j hj => h.2 j fun z => hj (k j z)⟩
theorem Rel.wipe (R : Rel c F T e g σ H) (is : List Nat) : Rel c F T (PV.wipe e is) g (L2.wipe σ is) H :=
  R.env (by rw [wipe_len, L2.wipe_length, R.len]) fun j sv h => by
    have hj := wipe_in e h
    rw [wipe_get e hj] at h
    obtain ⟨v, h1, h2⟩ := R.slot j sv h
    exact ⟨v, by rw [swipe_get σ hj]; exact h1, h2⟩
theorem unwipe_len (e0 e : Env) : ∀ is : List Nat, (unwipe e0 e is).length = e.length
  | [] => rfl
  | i :: is => by unfold unwipe; rw [List.length_set, unwipe_len e0 e is]
theorem unwipe_out (e0 e : Env) {j : Nat} : ∀ {is : List Nat}, j ∉ is → (unwipe e0 e is)[j]? = e[j]?
  | [], _ => rfl
  | i :: is, h => by
    unfold unwipe
    rw [List.getElem?_set_ne (by rintro rfl; exact h (by simp)), unwipe_out e0 e fun z => h (by simp [z])]
theorem unwipe_in (e0 e : Env) {j : Nat} (hl : j < e.length) : ∀ {is : List Nat}, j ∈ is → (unwipe e0 e is)[j]? = some (e0[j]?.join)
  | [], h => by simp at h
  | i :: is, h => by
    unfold unwipe
    by_cases hj : j = i
    · subst hj
      rw [List.getElem?_set_self (by rw [unwipe_len]; exact hl)]
    · rw [List.getElem?_set_ne (Ne.symm hj)]
      exact unwipe_in e0 e hl (by simpa [hj] using h)
/-- behind a comprehension -/
theorem Rel.unwipe {e1 e2 : Env} {g2 : Rng} {F2 : Hp} {T2 : Tm} {H2 : Hp} {is : List Nat} {g1 : Rng} (R1 : Rel c F1 T1 e1 g1 σ H1) (R2 : Rel c F2 T2 e2 g2 (L2.wipe σ is) H2) (hs : still e1 is = true) (s : Sub F1 F2) :
    Rel c F2 T2 (PV.unwipe e1 e2 is) g2 σ H2 := by
  have l2 := R2.len
  rw [L2.wipe_length] at l2
  refine R2.env (by rw [unwipe_len]; exact l2) fun j sv h => ?_
  by_cases hj : j ∈ is
  · have hlt : j < e2.length := by
      have := (List.getElem?_eq_some_iff.mp h).1
      rwa [unwipe_len] at this
    rw [unwipe_in e1 e2 hlt hj] at h
    cases q : e1[j]? with
    | none => rw [q] at h; cases h
    | some o =>
      rw [q] at h
      have ho : o = some sv := by simpa using h
      subst ho
      have hst := List.all_eq_true.mp hs j hj
      rw [q] at hst
      cases sv with
      | dat d =>
        obtain ⟨v, h1, h2⟩ := R1.slot j _ q
        have h2' : Rep c F1 v d := h2
        exact ⟨v, h1, Rep.mono s h2'⟩
      | _ => cases hst
  · rw [unwipe_out e1 e2 hj] at h
    obtain ⟨v, h1, h2⟩ := R2.slot j sv h
    exact ⟨v, by rw [← swipe_get σ hj]; exact h1, h2⟩
/-- an object that nobody knows changes -/
theorem Rel.loose (R : Rel c F T e g σ H) {p : Addr} {o o' : HO} (hp : H p = some o) (hF : F p = none) (hT : T p = none) (h1 : p ≠ c.L) (h2 : p ≠ c.C) : Rel c F T e g σ (upd H p o') where
  base := ⟨fun a u q => by
    have n : a ≠ p := by rintro rfl; rw [hF] at q; cases q
    rw [upd_ne n]; exact R.base.sub a u q, by rw [upd_ne (Ne.symm h1)]; exact R.base.hL, by rw [upd_ne (Ne.symm h2)]; exact R.base.hC, R.base.ne, R.base.FL, R.base.FC⟩
  TL := R.TL
  TC := R.TC
  dom := fun a i q => ⟨fun z => by
    by_cases n : a = p
    · subst n; rw [hT] at q; cases q
    · rw [upd_ne n] at z; exact (R.dom a i q).1 z, (R.dom a i q).2⟩
  len := R.len
  slot := fun i sv q => by
    obtain ⟨v, k1, k2⟩ := R.slot i sv q
    exact ⟨v, k1, k2.mono (Sub.refl _) (fun _ z => z) fun a u t z => by
      rw [upd_ne (by rintro rfl; rw [hT] at t; cases t)]; exact z⟩
end

/-! ### targets -/
def Tgt.slots : Tgt → List Nat
  | .name i => [i]
  | .names is => is
def gT (c : Cn) (t : Tgt) : TG := fun v σ H Q => ∃ F T e g d e', Rel c F T e g σ H ∧ Rep c F v d ∧ t.bind d e = some e' ∧ ∀ σ', Off t.slots σ σ' → Rel c F T e' g σ' H → Q σ' H
theorem pgImp {X : Cx} {tg : Expr} {t t' : TG} (h : PG X tg t) (k : ∀ v σ H Q, t' v σ H Q → t v σ H Q) : PG X tg t' := ⟨fun pins s σ H v u Q I r q => h.run pins s σ H v u Q I r (k v σ H Q q)⟩
theorem pgsImp {X : Cx} {tg : List Expr} {t t' : TGs} (h : PGs X tg t) (k : ∀ v σ H Q, t' v σ H Q → t v σ H Q) : PGs X tg t' := ⟨fun pins s σ H v u Q I r q => h.run pins s σ H v u Q I r (k v σ H Q q)⟩
section
variable {X : Cx} {c : Cn} {pos : Pos}
theorem sg_name {i : Nat} {x : Str} (hN : X.N.Nodup) (hi : X.N[i]? = some x) (hx : Loc X.env.scope x) (hf : X.fn x = true ∨ X.env.scope.names.lookup x = some .local) : PG X (.Name x pos) (gT c (.name i)) :=
  pgImp (pg_name hN hi hx hf) fun v σ H Q ⟨F, T, e, g, d, e', R, r, b, k⟩ => by
    cases b
    exact k _ ⟨by simp, fun j hj => by rw [List.getElem?_set_ne (by rintro rfl; exact hj (by simp [Tgt.slots]))]⟩ (R.setDat i r)
def gNs (c : Cn) (is : List Nat) : TGs := fun vs σ H Q => ∃ F T e g ds, Rel c F T e g σ H ∧ Reps c F vs ds ∧ ds.length = is.length ∧ ∀ σ', Off is σ σ' → Rel c F T (setAll e is ds) g σ' H → Q σ' H
theorem sgs_nil : PGs X [] (gNs c []) := pgsImp pgs_nil fun vs σ H Q ⟨F, T, e, g, ds, R, r, l, k⟩ => by
  cases ds with
  | nil => cases r; exact ⟨rfl, k σ (Off.refl _ _) R⟩
  | cons _ _ => simp at l
theorem sgs_cons {i : Nat} {is : List Nat} {x : Str} {es : List Expr} (hN : X.N.Nodup) (hi : X.N[i]? = some x) (hx : Loc X.env.scope x) (hf : X.fn x = true ∨ X.env.scope.names.lookup x = some .local) (h : PGs X es (gNs c is)) : PGs X (.Name x pos :: es) (gNs c (i :: is)) :=
  pgsImp (pgs_cons (pg_name hN hi hx hf) h rfl) fun vs σ H Q ⟨F, T, e, g, ds, R, r, l, k⟩ => by
    cases ds with
    | nil => simp at l
    | cons d ds =>
      cases r with
      | cons r rs =>
        refine ⟨_, _, rfl, F, T, e.set i (some (.dat d)), g, ds, R.setDat i r, rs, by simpa using l, fun σ' o R' => k σ' ⟨by rw [o.1]; simp, fun j hj => ?_⟩ R'⟩
        rw [o.2 j fun z => hj (by simp [z]), List.getElem?_set_ne (by rintro rfl; exact hj (by simp))]
theorem sg_names {is : List Nat} {es : List Expr} {k : Nat} (hc : X.calm = true) (h : PGs X es (gNs c is)) (hn : (assignEach es X.env).length = is.length) (hst : (assignEach es X.env).findIdx? (·.1) = none) : PG X (.Tuple es k pos) (gT c (.names is)) :=
  pgImp (pg_tup hc h hn hst) fun v σ H Q ⟨F, T, e, g, d, e', R, r, b, k⟩ => by
    cases d with
    | tup ds =>
      have b' : (if ds.length = is.length then some (setAll e is ds) else none) = some e' := b
      split at b'
      · rename_i hl
        cases b'
        cases r with | tup kk rs =>
        exact ⟨_, _, rfl, .of (R.base.sub _ _ kk), by rw [rs.length, hl], F, T, e, g, ds, R, rs, hl, k⟩
      · cases b'
    | _ => cases b
end

/-! ### comprehensions -/
abbrev noW : WX := fun _ _ _ _ => False
section
variable {c : Cn} {F F1 : Hp} {T T1 : Tm} {H H1 : Hp} {e : Env} {g : Rng} {σ : L2.St}
/-- what a turn yields -/
theorem WalkD.turn {G : Hp → Prop} {F0 : Hp} {J : It} {ds : List D} {i : Nat} {d : D} {x : V} {H' : Hp} (w : WalkD c G F0 J ds) (hd : ds[i]? = some d) (gg : G H) (y : J.yld i H x H') (R : Rel c F T e g σ H) (s : Sub F0 F) :
    ∃ F', Rel c F' T e g σ H' ∧ Ext c F T H F' T H' ∧ Rep c F' x d ∧ ∀ a, H a ≠ none → F' a = F a := by
  rcases w.yields i d H x H' hd gg y with ⟨rfl, r⟩ | ⟨p, xs, es, rfl, hp, rfl, rfl, r⟩
  · exact ⟨F, R, .refl, r.mono s, fun _ _ => rfl⟩
  · refine ⟨upd F p (.tup xs), R.put hp, .put (R.base.free hp) hp, .tup upd_same ((r.mono s).mono (Sub.new (R.base.free hp))), fun a ha => ?_⟩
    rw [upd_ne (by rintro rfl; exact ha hp)]
theorem Walk.ofD {G : Hp → Prop} {F0 : Hp} {J : It} {ds : List D} (w : WalkD c G F0 J ds) : Walk J ds.length G J.yld := ⟨w.goes, w.stops, fun _ _ _ _ _ _ y => y⟩
theorem Md.G_of (μ : Md) (x : Ext c F T H F1 T1 H1) (b : Base c F1 g H1) : μ.G c F H H1 := by
  cases μ with
  | p => exact x.h
  | f => exact x.f.trans b.sub
theorem tLc_of {W : WX} {μ : Md} {own : List Nat} {t : Tgt} {src : Src} {cond : M Bool} {elt : M D} {Q : VK} (hs : ∀ i ∈ t.slots, i ∈ own) (h : tO c W (mComp own t src cond elt) σ H Q) :
    tLc (tI μ c W src) (gT c t) (tT c noW cond) (tV c noW elt) own σ H Q := by
  obtain ⟨F, T, e, g, R, p⟩ := h
  refine ⟨F, T, e, g, R, (Post.bind p).imp fun ds F1 T1 H1 e1 g1 R1 x1 p1 J w D hD => ?_⟩
  by_cases hst : still e1 own = true
  · have p1 : Post c W σ F1 T1 H1 (match compLoop own t cond elt ds [] (wipe e1 own) g1 with
      | .ok ys e' g' => .ok (.own ys) (unwipe e1 e' own) g'
      | _ => .stuck) (fun sv F' T' H' _ _ => ∀ v, ORes c H F' T' H' v sv → Q v H') := by
      have := p1
      simp only [hst, if_true] at this
      exact this
    cases hcl : compLoop own t cond elt ds [] (wipe e1 own) g1 with
    | exc _ _ _ => rw [hcl] at p1; exact p1.elim
    | stuck => rw [hcl] at p1; exact p1.elim
    | ok zs eN gN =>
      rw [hcl] at p1
      have p1 : Post c W σ F1 T1 H1 (.ok (.own zs) (unwipe e1 eN own) gN) (fun sv F' T' H' _ _ => ∀ v, ORes c H F' T' H' v sv → Q v H') := p1
      have DL := (R1.base.unL hD).1
      have DC := (R1.base.unL hD).2
      refine lc_it (Walk.ofD w) (fun i Hc => ∃ F2 T2 e2 g2 acc ys, Rel c F2 T2 e2 g2 (L2.wipe σ own) Hc ∧ Ext c F1 T1 H1 F2 T2 Hc ∧ Hc D = some (.lst ys) ∧ Reps c F2 ys acc ∧ F2 D = none ∧ T2 D = none ∧
        compLoop own t cond elt (ds.drop i) acc e2 g2 = .ok zs eN gN) ?_ ?_ ?_ ?_
      · exact ⟨F1, T1, wipe e1 own, g1, [], [], (R1.wipe own).alloc hD, .alloc hD, upd_same, .nil, R1.base.free hD, R1.tfree hD, by simpa using hcl⟩
      · rintro i Hc _ ⟨F2, T2, e2, g2, acc, ys, R2, x2, _⟩
        exact μ.G_of x2 R2.base
      · rintro i x Hc H' hi ⟨F2, T2, e2, g2, acc, ys, R2, x2, kD, ra, fD, tD, hc⟩ y
        have hd : ds[i]? = some ds[i] := List.getElem?_eq_getElem hi
        rw [List.drop_eq_getElem_cons hi] at hc
        obtain ⟨F3, R3, x3, r3, s3⟩ := w.turn hd (μ.G_of x2 R2.base) y R2 x2.f
        have fD3 : F3 D = none := by rw [s3 D (by rw [kD]; simp)]; exact fD
        have kD3 : H' D = some (.lst ys) := x3.h D _ DL DC kD
        unfold compLoop at hc
        cases hb : t.bind ds[i] e2 with
        | none => rw [hb] at hc; cases hc
        | some e3 =>
          rw [hb] at hc
          refine ⟨F3, T2, e2, g2, ds[i], e3, R3, r3, hb, fun σ' off R' => ⟨?_, F3, T2, e3, g2, R', ?_⟩⟩
          · rw [(off.mono hs).wipe]
            exact (Off.wipe ⟨L2.wipe_length σ own, fun j hj => swipe_get σ hj⟩)
          have wσ : L2.wipe σ' own = L2.wipe σ own := by
            rw [(off.mono hs).wipe]
            exact (Off.wipe ⟨L2.wipe_length σ own, fun j hj => swipe_get σ hj⟩)
          cases hcc : cond e3 g2 with
          | exc _ _ _ => simp only [hcc] at hc; cases hc
          | stuck => simp only [hcc] at hc; cases hc
          | ok b e4 g4 =>
            simp only [hcc] at hc
            intro F4 T4 H4 R4 x4
            have k4 := keepsNew x4 kD3 fD3 tD
            have kD4 := x4.h D _ DL DC kD3
            cases b with
            | false =>
              have hc : compLoop own t cond elt (ds.drop (i + 1)) acc (wipe e4 own) g4 = .ok zs eN gN := hc
              refine ⟨F4, T4, wipe e4 own, g4, acc, ys, ?_, (x2.trans x3).trans x4, kD4, ra.mono (x3.f.trans x4.f), k4.1, k4.2, hc⟩
              have := R4.wipe own
              rw [wσ] at this
              exact this
            | true =>
              refine ⟨F4, T4, e4, g4, R4, ?_⟩
              cases hee : elt e4 g4 with
              | exc _ _ _ => simp only [hee] at hc; cases hc
              | stuck => simp only [hee] at hc; cases hc
              | ok yd e5 g5 =>
                simp only [hee] at hc
                split at hc
                · rename_i hlt
                  intro F5 T5 H5 R5 x5 yv ry
                  have k5 := keepsNew x5 kD4 k4.1 k4.2
                  have kD5 := x5.h D _ DL DC kD4
                  have ra5 := ra.mono (x3.f.trans (x4.f.trans x5.f))
                  refine ⟨ys, kD5, by have := ra5.length; exact line_size (n := ys.length + 1) (by omega), F5, T5, wipe e5 own, g5, acc ++ [yd], ys ++ [yv], ?_, ?_, upd_same, ra5.append (.cons ry .nil), k5.1, k5.2, hc⟩
                  · have := (R5.loose (o' := .lst (ys ++ [yv])) kD5 k5.1 k5.2 DL DC).wipe own
                    rw [wσ] at this
                    exact this
                  · have xx := ((x2.trans x3).trans x4).trans x5
                    exact ⟨xx.f, fun a o n1 n2 q => by rw [upd_ne (by rintro rfl; rw [hD] at q; cases q)]; exact xx.h a o n1 n2 q, fun a q => by
                      by_cases z : a = D
                      · subst z; exact hD
                      · rw [upd_ne z] at q; exact xx.n a q, xx.g, xx.t⟩
                · cases hc
      · rintro Hc ⟨F2, T2, e2, g2, acc, ys, R2, x2, kD, ra, fD, tD, hc⟩
        rw [List.drop_of_length_le (Nat.le_refl _)] at hc
        have hc : (Res.ok acc e2 g2 : Res (List PV.D)) = .ok zs eN gN := hc
        cases hc
        exact p1 F2 T2 Hc (R1.unwipe R2 hst x2.f) x2 _ ⟨D, ys, rfl, x1.n D hD, fD, tD, kD, ra⟩
  · have p1 := p1
    simp only [hst, if_false] at p1
    exact (show False from p1).elim
end
section
variable {X : Cx} {c : Cn} {W : WX} {μ : Md} {elt tg iter : Expr} {ifs : List Expr} {scope : Scope} {own : List (Str × Nat)} {pos : Pos} {t : Tgt} {src : Src} {cond : M Bool} {m : M D}
theorem se_comp (hc : X.calm = true) (hN : X.N.Nodup) (hi : PI X tg iter (tI μ c W src)) (ok : blkC X.N X.env.scope scope own = true) (hsl : ∀ i ∈ t.slots, i ∈ own.map (·.2))
    (hg : ∀ (s : Shared) (H : Hp) (C : Addr) (cl : List (Str × Addr)) (fp : List Addr), PG (X.blk s H scope (compEnvC scope cl C X.env) fp) tg (gT c t)) (ht : ∀ (s : Shared) (H : Hp) (C : Addr) (cl : List (Str × Addr)) (fp : List Addr), PTs (X.blk s H scope (compEnvC scope cl C X.env) fp) ifs (tT c noW cond))
    (he : ∀ (s : Shared) (H : Hp) (C : Addr) (cl : List (Str × Addr)) (fp : List Addr), PE (X.blk s H scope (compEnvC scope cl C X.env) fp) elt (tV c noW m)) (hs : ∀ x, foldedSetIterable iter X.env x = pure x) :
    PE X (.ListComp elt [⟨tg, iter, ifs, 0⟩] scope pos) (tO c W (mComp (own.map (·.2)) t src cond m)) :=
  peImp (pe_lc hc hN hi (blkOk_by ok) hg ht he hs) fun σ H Q h => tLc_of hsl h
end
end PV
set_option Elab.async false
set_option linter.all false
set_option maxRecDepth 100000
set_option maxHeartbeats 4000000
/-! PV13: statements: what they mean; rows, names, tests, returns. -/
namespace PV
open PySem L2 PySem.Spec PyProof.Rows

/-- since a def's entry; Fb: what is fixed for sure -/
structure Old (c : Cn) (F0 H0 Fb F : Hp) (T : Tm) (H : Hp) : Prop where
  x : ExtF c F0 H0 F H
  y : ∀ a i, T a = some i → H0 a = none
  b : Sub Fb F
def PostS (c : Cn) (W : WX) (F0 H0 Fb : Hp) (E : Ends) (r : Res (Option SV)) : Prop := match r with
  | .ok none e g => ∀ σ F T H, Rel c F T e g σ H → Old c F0 H0 Fb F T H → E.nx σ H
  | .ok (some sv) _ g => ∀ v F H, Base c F g H → ExtF c F0 H0 F H → Sub Fb F → ORes c H0 F noT H v sv → E.rt v H
  | .exc x e g => ∀ cls d σ F T H, Rel c F T e g σ H → Old c F0 H0 Fb F T H → XRep c F H x cls d → W cls d σ H
  | .stuck => False
def tS (c : Cn) (W : WX) (F0 H0 Fb : Hp) (m : S) : TS := fun E σ H => ∃ F T e g, Rel c F T e g σ H ∧ Old c F0 H0 Fb F T H ∧ PostS c W F0 H0 Fb E (m e g)
def SS (X : Cx) (c : Cn) (W : WX) (st : Stmt) (m : S) : Prop := ∀ F0 H0 Fb, PS X st (tS c W F0 H0 Fb m)
def SSs (X : Cx) (c : Cn) (W : WX) (sts : List Stmt) (m : S) : Prop := ∀ F0 H0 Fb, PSs X sts (tS c W F0 H0 Fb m)
theorem psImp {X : Cx} {st : Stmt} {t t' : TS} (h : PS X st t) (k : ∀ D σ H, t' D σ H → t D σ H) : PS X st t' := ⟨fun pins s σ H D I q => h.run pins s σ H D I (k D σ H q)⟩
theorem pssImp {X : Cx} {st : List Stmt} {t t' : TS} (h : PSs X st t) (k : ∀ D σ H, t' D σ H → t D σ H) : PSs X st t' := ⟨fun pins s σ H D I q => h.run pins s σ H D I (k D σ H q)⟩
section
variable {c : Cn} {W : WX} {F0 H0 Fb F F1 H H1 : Hp} {T T1 : Tm} {e : Env} {g : Rng} {σ : L2.St} {α : Type} {E : Ends}
theorem ExtF.trans' {F2 H2 : Hp} (a : ExtF c F0 H0 F H) (x : Ext c F T H F1 T1 H1) (y : ∀ a i, T a = some i → H0 a = none) : ExtF c F0 H0 F1 H1 :=
  ⟨a.f.trans x.f, fun b o n1 n2 q => x.h b o n1 n2 (a.h b o n1 n2 q), fun b q => a.n b (x.n b q), fun b o q => by
    rcases x.g b o q with z | z | z
    · exact a.g b o z
    · exact .inr (a.n b z)
    · cases k : T b with
      | none => exact absurd k z
      | some i => exact .inr (y b i k)⟩
theorem Old.ext (O : Old c F0 H0 Fb F T H) (x : Ext c F T H F1 T1 H1) : Old c F0 H0 Fb F1 T1 H1 :=
  ⟨O.x.trans' (F2 := F) (H2 := H) x O.y, fun a i q => O.y a i (x.t a i q), O.b.trans x.f⟩
theorem Old.refl (b : Base c F g H) : Old c F H F F noT H := ⟨⟨Sub.refl _, fun _ _ _ _ q => q, fun _ q => q, fun _ _ q => .inl q⟩, (fun _ _ q => by cases q), Sub.refl _⟩
/-- an expression within a statement -/
theorem PostS.bind {m : M α} {f : α → S} (h : PostS c W F0 H0 Fb E (mBind m f e g)) (O : Old c F0 H0 Fb F T H) :
    Post c W σ F T H (m e g) fun a F1 T1 H1 e1 g1 => Old c F0 H0 Fb F1 T1 H1 ∧ PostS c W F0 H0 Fb E (f a e1 g1) := by
  unfold mBind at h
  cases q : m e g with
  | ok a e' g' => rw [q] at h; exact fun F1 T1 H1 R x => ⟨O.ext x, h⟩
  | exc x e' g' => rw [q] at h; exact fun cls d F1 T1 H1 R y r => h cls d σ F1 T1 H1 R (O.ext y) r
  | stuck => rw [q] at h; exact h
theorem PostS.opt {o : Option α} {f : α → S} (h : PostS c W F0 H0 Fb E (mBind (mOpt o) f e g)) : ∃ a, o = some a ∧ PostS c W F0 H0 Fb E (f a e g) := by
  cases o with
  | none => exact h.elim
  | some a => exact ⟨a, rfl, h⟩
end
section
variable {X : Cx} {c : Cn} {W : WX} {st : Stmt} {rest : List Stmt} {a b : S}
theorem ss_nil : SSs X c W [] sNil := fun F0 H0 Fb => pssImp pss_nil fun D σ H ⟨F, T, e, g, R, O, p⟩ => p σ F T H R O
theorem ss_cons (h1 : SS X c W st a) (h2 : SSs X c W rest b) : SSs X c W (st :: rest) (sSeq a b) := fun F0 H0 Fb => pssImp (pss_cons (h1 F0 H0 Fb) (h2 F0 H0 Fb)) fun D σ H ⟨F, T, e, g, R, O, p⟩ => by
  refine ⟨F, T, e, g, R, O, ?_⟩
  unfold sSeq mBind at p
  cases q : a e g with
  | ok r e' g' =>
    rw [q] at p
    cases r with
    | none => exact fun σ' F' T' H' R' O' => ⟨F', T', e', g', R', O', p⟩
    | some v => exact p
  | exc x e' g' => rw [q] at p; exact p
  | stuck => rw [q] at p; exact p
theorem ss_one (h : SS X c W st a) : SSs X c W [st] a := fun F0 H0 Fb => pss_one (h F0 H0 Fb)
theorem ss_pass {pos : Pos} : SS X c W (.Pass pos) sNil := fun F0 H0 Fb => psImp ps_pass fun D σ H ⟨F, T, e, g, R, O, p⟩ => p σ F T H R O
theorem ss_doc {x j pos pos'} : SS X c W (.Expr (.Constant (.str x) j pos) pos') sNil := fun F0 H0 Fb => psImp ps_doc fun D σ H ⟨F, T, e, g, R, O, p⟩ => p σ F T H R O
end

/-! ### a value put under a name -/
section
variable {c : Cn} {F H H' Hm : Hp} {T : Tm} {e : Env} {g : Rng} {σ : L2.St} {v : V}
/-- its objects stand already in Hm -/
def Known (Hm H' : Hp) (v : V) : SV → Prop
  | .dat _ => True
  | .owns _ => ∀ a, v = .ref a → Hm a ≠ none ∧ ∀ xs, H' a = some (.lst xs) → ∀ b, V.ref b ∈ xs → Hm b ≠ none
  | _ => ∀ a, v = .ref a → Hm a ≠ none
theorem ORes.known {sv : SV} (h : ORes c H F T H' v sv) : Known H' H' v sv := by
  cases sv with
  | dat _ => trivial
  | own ds => obtain ⟨a, xs, rfl, _, _, _, k, _⟩ := h; intro b e; cases e; rw [k]; simp
  | owns dss =>
    obtain ⟨a, as, rfl, _, _, _, k, _, l, r⟩ := h
    intro b e
    cases e
    refine ⟨by rw [k]; simp, fun xs hx b hb => ?_⟩
    rw [k] at hx
    cases hx
    obtain ⟨b', hb', e⟩ := List.mem_map.mp hb
    have e2 : b = b' := by cases e; rfl
    subst e2
    obtain ⟨j, hj⟩ := List.mem_iff_getElem?.mp hb'
    have hlt := (List.getElem?_eq_some_iff.mp hj).1
    obtain ⟨_, _, _, xs, kb, _⟩ := r j b dss[j] hj (List.getElem?_eq_getElem (by omega))
    rw [kb]; simp
  | dk _ => obtain ⟨_, a, rfl, _, _, _, k⟩ := h; intro b e; cases e; rw [k]; simp
  | dt _ => obtain ⟨_, a, rfl, _, _, _, k⟩ := h; intro b e; cases e; rw [k]; simp
/-- new owners -/
theorem Rel.own (R : Rel c F T e g σ H') {i : Nat} {sv : SV} (P : Addr → Prop) [DecidablePred P] (hP : ∀ a, P a → T a = none ∧ F a = none ∧ H' a ≠ none ∧ a ≠ c.L ∧ a ≠ c.C) (hi : i < e.length)
    (hs : SlotRep c F (fun b => if P b then some i else T b) H' i v sv) : Rel c F (fun b => if P b then some i else T b) (e.set i (some sv)) g (σ.set i (some v)) H' where
  base := R.base
  TL := by rw [if_neg fun z => (hP _ z).2.2.2.1 rfl]; exact R.TL
  TC := by rw [if_neg fun z => (hP _ z).2.2.2.2 rfl]; exact R.TC
  dom := fun a j q => by
    by_cases z : P a
    · exact ⟨(hP a z).2.2.1, (hP a z).2.1⟩
    · rw [if_neg z] at q; exact R.dom a j q
  len := by simp [R.len]
  slot := fun j sv' q => by
    by_cases hj : j = i
    · subst hj
      rw [List.getElem?_set_self hi] at q
      cases q
      exact ⟨v, List.getElem?_set_self (by rw [← R.len]; exact hi), hs⟩
    · rw [List.getElem?_set_ne (Ne.symm hj)] at q
      obtain ⟨w, h1, h2⟩ := R.slot j sv' q
      refine ⟨w, by rw [List.getElem?_set_ne (Ne.symm hj)]; exact h1, h2.mono (Sub.refl _) (fun a t => ?_) fun _ _ _ z => z⟩
      show (if P a then some i else T a) = some j
      rw [if_neg fun z => by rw [(hP a z).1] at t; cases t]
      exact t
theorem Rel.putSV (R : Rel c F T e g σ H') {g0 : Rng} {F00 : Hp} (B : Base c F00 g0 H) {i : Nat} (hi : i < e.length) : ∀ {sv : SV}, ORes c H F T H' v sv → Known Hm H' v sv →
    ∃ T2, Rel c F T2 (e.set i (some sv)) g (σ.set i (some v)) H' ∧ ∀ a, T2 a = T a ∨ (T2 a = some i ∧ H a = none ∧ Hm a ≠ none)
  | .dat d, h, _ => by
    have h' : Rep c F v d := h
    exact ⟨T, R.setDat i h', fun a => .inl rfl⟩
  | .own ds, h, kn => by
    obtain ⟨a, xs, rfl, h0, f, t, k, r⟩ := h
    refine ⟨fun b => if b = a then some i else T b, R.own (fun b => b = a) (fun b z => by subst z; exact ⟨t, f, by rw [k]; simp, (B.unL h0).1, (B.unL h0).2⟩) hi ⟨a, xs, rfl, if_pos rfl, k, r⟩, fun b => ?_⟩
    by_cases z : b = a
    · subst z; exact .inr ⟨if_pos rfl, h0, kn b rfl⟩
    · exact .inl (if_neg z)
  | .owns dss, h, kn => by
    obtain ⟨a, as, rfl, h0, f, t, k, nd, l, r⟩ := h
    have mem : ∀ b, b ∈ as → H b = none ∧ F b = none ∧ T b = none ∧ H' b ≠ none := fun b hb => by
      obtain ⟨j, hj⟩ := List.mem_iff_getElem?.mp hb
      have hlt := (List.getElem?_eq_some_iff.mp hj).1
      obtain ⟨p1, p2, p3, xs, kb, _⟩ := r j b dss[j] hj (List.getElem?_eq_getElem (by omega))
      exact ⟨p1, p2, p3, by rw [kb]; simp⟩
    refine ⟨fun b => if b ∈ a :: as then some i else T b, R.own (fun b => b ∈ a :: as) (fun b z => ?_) hi ⟨a, as, rfl, if_pos (by simp), k, nd, l, fun j b ds h1 h2 => ?_⟩, fun b => ?_⟩
    · rcases List.mem_cons.mp z with z | z
      · subst z; exact ⟨t, f, by rw [k]; simp, (B.unL h0).1, (B.unL h0).2⟩
      · obtain ⟨m1, m2, m3, m4⟩ := mem b z
        exact ⟨m3, m2, m4, (B.unL m1).1, (B.unL m1).2⟩
    · obtain ⟨_, _, _, xs, kb, rb⟩ := r j b ds h1 h2
      exact ⟨if_pos (List.mem_cons_of_mem _ (List.mem_iff_getElem?.mpr ⟨j, h1⟩)), xs, kb, rb⟩
    · by_cases z : b ∈ a :: as
      · refine .inr ⟨if_pos z, ?_⟩
        rcases List.mem_cons.mp z with z | z
        · subst z; exact ⟨h0, (kn b rfl).1⟩
        · exact ⟨(mem b z).1, (kn a rfl).2 _ k b (List.mem_map.mpr ⟨b, z, rfl⟩)⟩
      · exact .inl (if_neg z)
  | .dk kvs, h, kn => by
    obtain ⟨e0, a, rfl, h0, f, t, k⟩ := h
    subst e0
    refine ⟨fun b => if b = a then some i else T b, R.own (fun b => b = a) (fun b z => by subst z; exact ⟨t, f, by rw [k]; simp, (B.unL h0).1, (B.unL h0).2⟩) hi ⟨a, [], rfl, if_pos rfl, k, rfl, fun j kv w h1 _ => by simp at h1⟩, fun b => ?_⟩
    by_cases z : b = a
    · subst z; exact .inr ⟨if_pos rfl, h0, kn b rfl⟩
    · exact .inl (if_neg z)
  | .dt kvs, h, kn => by
    obtain ⟨e0, a, rfl, h0, f, t, k⟩ := h
    subst e0
    refine ⟨fun b => if b = a then some i else T b, R.own (fun b => b = a) (fun b z => by subst z; exact ⟨t, f, by rw [k]; simp, (B.unL h0).1, (B.unL h0).2⟩) hi ⟨a, [], rfl, if_pos rfl, k, rfl, fun j kv w h1 _ => by simp at h1⟩, fun b => ?_⟩
    by_cases z : b = a
    · subst z; exact .inr ⟨if_pos rfl, h0, kn b rfl⟩
    · exact .inl (if_neg z)
theorem Old.put {F0 H0 Fb : Hp} {T2 : Tm} {i : Nat} (O : Old c F0 H0 Fb F T H') (n : ∀ a, H a = none → H0 a = none) (h : ∀ a, T2 a = T a ∨ (T2 a = some i ∧ H a = none ∧ Hm a ≠ none)) : Old c F0 H0 Fb F T2 H' :=
  ⟨O.x, fun a j q => by
    rcases h a with z | z
    · rw [z] at q; exact O.y a j q
    · exact n a z.2.1, O.b⟩
end
section
variable {X : Cx} {c : Cn} {W : WX} {x : Str} {i : Nat} {e : Expr} {m : M SV} {pos pos' : Pos}
theorem tS_set {F0 H0 Fb : Hp} {D : Ends} {σ : L2.St} {H : Hp} (h : tS c W F0 H0 Fb (sSet i m) D σ H) : tO c W m σ H fun x H1 => gName i x σ H1 D.nx := by
  obtain ⟨F, T, e, g, R, O, p⟩ := h
  refine ⟨F, T, e, g, R, (PostS.bind p O).imp fun sv F1 T1 H1 e1 g1 R1 x1 ⟨O1, p1⟩ v o => ?_⟩
  unfold mBind put at p1
  by_cases hi : i < e1.length
  · rw [if_pos hi] at p1
    obtain ⟨T2, R2, hT⟩ := R1.putSV R.base hi o o.known
    exact p1 _ F1 T2 H1 R2 (O1.put (fun a q => O.x.n a q) hT)
  · rw [if_neg hi] at p1
    exact (show False from p1).elim
theorem ss_set (hN : X.N.Nodup) (hi : X.N[i]? = some x) (hx : Loc X.env.scope x) (he : PE X e (tO c W m)) (hs : swapsWith e (some (.Name x pos')) pos.line X.env = pure false) (hf : X.fn x = true ∨ X.env.scope.names.lookup x = some .local) :
    SS X c W (.Assign [.Name x pos'] e pos) (sSet i m) := fun F0 H0 Fb => psImp (ps_set hN hi hx he hs hf) fun D σ H h => tS_set h
theorem ss_setComp {μ : Md} {elt tg iter : Expr} {ifs : List Expr} {scope : Scope} {own : List (Str × Nat)} {lpos : Pos} {t : Tgt} {src : Src} {cond : M Bool} {me : M D} (hc : X.calm = true) (hN : X.N.Nodup) (hi : X.N[i]? = some x) (hx : X.env.scope.names.lookup x = some .local)
    (hsw : swapsWith (.ListComp elt [⟨tg, iter, ifs, 0⟩] scope lpos) (some (.Name x pos')) pos.line X.env = pure true) (hit : PI X tg iter (tI μ c W src)) (ok : blkC X.N X.env.scope scope own = true) (hsl : ∀ i ∈ t.slots, i ∈ own.map (·.2))
    (hg : ∀ (s : Shared) (H : Hp) (C : Addr) (cl : List (Str × Addr)) (fp : List Addr), PG (X.blk s H scope (compEnvC scope cl C X.env) fp) tg (gT c t)) (ht : ∀ (s : Shared) (H : Hp) (C : Addr) (cl : List (Str × Addr)) (fp : List Addr), PTs (X.blk s H scope (compEnvC scope cl C X.env) fp) ifs (tT c noW cond))
    (he : ∀ (s : Shared) (H : Hp) (C : Addr) (cl : List (Str × Addr)) (fp : List Addr), PE (X.blk s H scope (compEnvC scope cl C X.env) fp) elt (tV c noW me)) (hs : ∀ x, foldedSetIterable iter X.env x = pure x) :
    SS X c W (.Assign [.Name x pos'] (.ListComp elt [⟨tg, iter, ifs, 0⟩] scope lpos) pos) (sSet i (mComp (own.map (·.2)) t src cond me)) := fun F0 H0 Fb =>
  psImp (ps_setLc hc hN hi hx hsw hit (blkOk_by ok) hg ht he hs) fun D σ H h => tLc_of hsl (tS_set h)
theorem ss_drop (he : PE X e (tO c W m)) (hs : swapsWith e none pos.line X.env = pure false) : SS X c W (.Expr e pos) (sDrop m) := fun F0 H0 Fb => psImp (ps_expr he hs) fun D σ H ⟨F, T, e, g, R, O, p⟩ =>
  ⟨F, T, e, g, R, (PostS.bind p O).imp fun sv F1 T1 H1 e1 g1 R1 x1 ⟨O1, p1⟩ v o => p1 σ F1 T1 H1 R1 O1⟩
theorem ss_if {b : Expr} {mb : M Bool} {t u : List Stmt} {a a2 : S} (hc : PT X b (tT c W mb)) (ha : SSs X c W t a) (hb : SSs X c W u a2) : SS X c W (.If b t u pos) (sIf mb a a2) := fun F0 H0 Fb => psImp (ps_if hc (ha F0 H0 Fb) (hb F0 H0 Fb)) fun D σ H ⟨F, T, e, g, R, O, p⟩ =>
  ⟨F, T, e, g, R, (PostS.bind p O).imp fun b F1 T1 H1 e1 g1 R1 x1 ⟨O1, p1⟩ => by
    cases b with
    | true => exact ⟨F1, T1, e1, g1, R1, O1, p1⟩
    | false => exact ⟨F1, T1, e1, g1, R1, O1, p1⟩⟩
end

/-! ### what is handed back -/
/-- a value that is handed out of the def: names are no more -/
def tR (c : Cn) (W : WX) (F0 H0 Fb : Hp) (m : M SV) : TE := fun σ H Q => ∃ F T e g, Rel c F T e g σ H ∧ Old c F0 H0 Fb F T H ∧ Post c W σ F T H (m e g) fun sv F' T' H' _ _ => ∀ v, ORes c H0 F' noT H' v sv → Q v H'
def SR (X : Cx) (c : Cn) (W : WX) (e : Expr) (m : M SV) : Prop := ∀ F0 H0 Fb, PE X e (tR c W F0 H0 Fb m)
section
variable {X : Cx} {c : Cn} {W : WX} {x : Str} {i : Nat} {e : Expr} {m : M SV} {pos pos' : Pos}
theorem ORes.noT {F H H' H0 : Hp} {T : Tm} {v : V} (n : ∀ a, H a = none → H0 a = none) : ∀ {sv : SV}, ORes c H F T H' v sv → ORes c H0 F PV.noT H' v sv
  | .dat d, h => by
    have h' : Rep c F v d := h
    exact h'
  | .own _, h => by
    obtain ⟨a, xs, e, h0, f, t, r⟩ := h
    exact ⟨a, xs, e, n a h0, f, rfl, r⟩
  | .owns _, h => by
    obtain ⟨a, as, e, h0, f, t, k, nd, l, r⟩ := h
    refine ⟨a, as, e, n a h0, f, rfl, k, nd, l, fun j b ds h1 h2 => ?_⟩
    obtain ⟨hb, fb, tb, rb⟩ := r j b ds h1 h2
    exact ⟨n b hb, fb, rfl, rb⟩
  | .dk _, h => by
    obtain ⟨q, a, e, h0, f, t, k⟩ := h
    exact ⟨q, a, e, n a h0, f, rfl, k⟩
  | .dt _, h => by
    obtain ⟨q, a, e, h0, f, t, k⟩ := h
    exact ⟨q, a, e, n a h0, f, rfl, k⟩
theorem sr_val (h : PE X e (tO c W m)) : SR X c W e m := fun F0 H0 Fb => peImp h fun σ H Q ⟨F, T, en, g, R, O, p⟩ =>
  ⟨F, T, en, g, R, p.imp fun sv F1 T1 H1 e1 g1 R1 x1 q v o => q v (o.noT fun a z => O.x.n a z)⟩
/-- a name's own list goes out as it is -/
def mVarR (i : Nat) : M SV := fun e g => match e[i]? with
  | some (some (.dat d)) => .ok (.dat d) e g
  | some (some (.own ds)) => .ok (.own ds) e g
  | some (some (.owns dss)) => .ok (.owns dss) e g
  | _ => .stuck
theorem sr_var (hN : X.N[i]? = some x) (hv : Vis X.env.scope x) (hd : (x == ("__debug__" : Str)) = false) (hcd : (x == ("__classdict__" : Str)) = false) : SR X c W (.Name x pos) (mVarR i) := fun F0 H0 Fb =>
  peImp (pe_var hN hv hd hcd) fun σ H Q ⟨F, T, e, g, R, O, p⟩ => by
    unfold mVarR at p
    have go : ∀ sv, e[i]? = some (some sv) → (∀ v, SlotRep c F T H i v sv → ORes c H0 F PV.noT H v sv) → Post c W σ F T H (.ok sv e g) (fun sv F' T' H' _ _ => ∀ v, ORes c H0 F' PV.noT H' v sv → Q v H') → ∃ v, σ[i]? = some (some v) ∧ Q v H := fun sv q k p => by
      obtain ⟨v, h1, h2⟩ := R.slot i sv q
      exact ⟨v, h1, doneQ R p v (k v h2)⟩
    split at p
    · rename_i d q
      exact go _ q (fun v h => h) p
    · rename_i ds q
      refine go _ q (fun v h => ?_) p
      obtain ⟨a, xs, ev, t, k, r⟩ := h
      exact ⟨a, xs, ev, O.y a i t, (R.dom a i t).2, rfl, k, r⟩
    · rename_i dss q
      refine go _ q (fun v h => ?_) p
      obtain ⟨a, as, ev, t, k, nd, l, r⟩ := h
      refine ⟨a, as, ev, O.y a i t, (R.dom a i t).2, rfl, k, nd, l, fun j b ds h1 h2 => ?_⟩
      obtain ⟨tb, xs, kb, rb⟩ := r j b ds h1 h2
      exact ⟨O.y b i tb, (R.dom b i tb).2, rfl, xs, kb, rb⟩
    · exact p.elim
theorem ss_ret (he : SR X c W e m) : SS X c W (.Return (some e) pos) (sRet m) := fun F0 H0 Fb => psImp (ps_ret (he F0 H0 Fb)) fun D σ H ⟨F, T, e, g, R, O, p⟩ =>
  ⟨F, T, e, g, R, O, (PostS.bind p O).imp fun sv F1 T1 H1 e1 g1 R1 x1 ⟨O1, p1⟩ v o => p1 v F1 H1 R1.base O1.x O1.b o⟩
end

/-! ### loops -/
section
variable {X : Cx} {c : Cn} {W : WX} {tg iter : Expr} {t : Tgt} {src : Src} {body : List Stmt} {b : S} {pos : Pos} {cd : Expr} {mc : M Bool}
def tSx (c : Cn) (W : WX) (F0 H0 : Hp) (b : S) : TS := fun D σ H => ∃ Fb, tS c W F0 H0 Fb b D σ H
theorem ssx (hb : SSs X c W body b) (F0 H0 : Hp) : PSs X body (tSx c W F0 H0 b) := ⟨fun pins s σ H D I ⟨Fb, h⟩ => (hb F0 H0 Fb).run pins s σ H D I h⟩
theorem Old.low {F0 H0 Fb Fb' F H : Hp} {T : Tm} (O : Old c F0 H0 Fb' F T H) (s : Sub Fb Fb') : Old c F0 H0 Fb F T H := ⟨O.x, O.y, s.trans O.b⟩
theorem ss_for (hp : PassesOwn (model X.prog X.w) X.A X.env X.xe) (hc : X.calm = true) (hi : PI X tg iter (tI .f c W src)) (hg : PG X tg (gT c t)) (hb : SSs X c W body b) (hs : ∀ x, foldedSetIterable iter X.env x = pure x) :
    SS X c W (.For tg iter body [] pos) (sFor t src b) := fun F0 H0 Fb => psImp (ps_for hp hc hi hg (ssx hb F0 H0) hs) fun D σ H ⟨F, T, e, g, R, O, p⟩ => by
  refine ⟨F, T, e, g, R, (PostS.bind p O).imp fun ds F1 T1 H1 e1 g1 R1 x1 ⟨O1, p1⟩ J w => ?_⟩
  refine for_it (Walk.ofD w) (fun i σ' H' => ∃ F2 T2 e2 g2, Rel c F2 T2 e2 g2 σ' H' ∧ Old c F0 H0 F1 F2 T2 H' ∧ PostS c W F0 H0 Fb D (sForGo t b (ds.drop i) e2 g2)) ?_ ?_ ?_ ?_
  · exact ⟨F1, T1, e1, g1, R1, ⟨O1.x, O1.y, Sub.refl _⟩, by simpa using p1⟩
  · rintro i σ' H' _ ⟨F2, T2, e2, g2, R2, O2, _⟩
    exact O2.b.trans R2.base.sub
  · rintro i x σ2 H2 H' hi ⟨F2, T2, e2, g2, R2, O2, p2⟩ y
    have hd : ds[i]? = some ds[i] := List.getElem?_eq_getElem hi
    rw [List.drop_eq_getElem_cons hi] at p2
    obtain ⟨F3, R3, x3, r3, s3⟩ := w.turn hd (O2.b.trans R2.base.sub) y R2 O2.b
    unfold sForGo at p2
    cases hbd : t.bind ds[i] e2 with
    | none => simp only [hbd] at p2; exact p2.elim
    | some e3 =>
      simp only [hbd] at p2
      refine ⟨F3, T2, e2, g2, ds[i], e3, R3, r3, hbd, fun σ' off R' => ⟨F1, F3, T2, e3, g2, R', O2.ext x3, ?_⟩⟩
      cases hbe : b e3 g2 with
      | ok r e4 g4 =>
        simp only [hbe] at p2
        cases r with
        | none => exact fun σ5 F5 T5 H5 R5 O5 => ⟨F5, T5, e4, g4, R5, O5, p2⟩
        | some sv => exact fun v F5 H5 b5 x5 s5 o5 => p2 v F5 H5 b5 x5 (O1.b.trans s5) o5
      | exc x e4 g4 =>
        simp only [hbe] at p2
        exact fun cls d σ5 F5 T5 H5 R5 O5 xr => p2 cls d σ5 F5 T5 H5 R5 (O5.low O1.b) xr
      | stuck => simp only [hbe] at p2; exact p2
  · rintro σ2 H2 ⟨F2, T2, e2, g2, R2, O2, p2⟩
    rw [List.drop_of_length_le (Nat.le_refl _)] at p2
    exact p2 σ2 F2 T2 H2 R2 (O2.low O1.b)
theorem ss_while (hp : PassesOwn (model X.prog X.w) X.A X.env X.xe) (hc : PT X cd (tT c W mc)) (hb : SSs X c W body b) : SS X c W (.While cd body [] pos) (sWhile mc b) := fun F0 H0 Fb => psImp (ps_while hp hc (hb F0 H0 Fb)) fun D σ H ⟨F, T, e, g, R, O, p⟩ => by
  have start : ∃ n, PostS c W F0 H0 Fb D (whileN mc b n e g) := by
    unfold sWhile at p
    split at p
    · exact ⟨_, p⟩
    · exact p.elim
  obtain ⟨n, pn⟩ := start
  refine ⟨fun m σ' H' => ∃ F2 T2 e2 g2, Rel c F2 T2 e2 g2 σ' H' ∧ Old c F0 H0 Fb F2 T2 H' ∧ PostS c W F0 H0 Fb D (whileN mc b m e2 g2), ⟨n, F, T, e, g, R, O, pn⟩, ?_⟩
  rintro m σ2 H2 ⟨F2, T2, e2, g2, R2, O2, p2⟩
  refine ⟨F2, T2, e2, g2, R2, ?_⟩
  cases m with
  | zero => exact p2.elim
  | succ m =>
    unfold whileN at p2
    cases hce : mc e2 g2 with
    | stuck => simp only [hce] at p2; exact p2
    | exc x e3 g3 =>
      simp only [hce] at p2
      exact fun cls d F3 T3 H3 R3 x3 xr => p2 cls d σ2 F3 T3 H3 R3 (O2.ext x3) xr
    | ok r e3 g3 =>
      simp only [hce] at p2
      intro F3 T3 H3 R3 x3
      have O3 := O2.ext x3
      cases r with
      | false =>
        dsimp only
        rw [if_neg Bool.false_ne_true]
        exact p2 σ2 F3 T3 H3 R3 O3
      | true =>
        dsimp only
        rw [if_pos rfl]
        refine ⟨fun σ' H' => ∃ F2 T2 e2 g2, Rel c F2 T2 e2 g2 σ' H' ∧ Old c F0 H0 Fb F2 T2 H' ∧ PostS c W F0 H0 Fb D (whileN mc b m e2 g2), fun σ' H' h => ⟨m, Nat.lt_succ_self m, h⟩, F3, T3, e3, g3, R3, O3, ?_⟩
        have p3 : PostS c W F0 H0 Fb D (match b e3 g3 with
          | .ok none e2 g2 => whileN mc b m e2 g2
          | .ok (some v) e2 g2 => .ok (some v) e2 g2
          | .exc x e2 g2 => .exc x e2 g2
          | .stuck => .stuck) := p2
        cases hbe : b e3 g3 with
        | ok r e4 g4 =>
          rw [hbe] at p3
          cases r with
          | none => exact fun σ5 F5 T5 H5 R5 O5 => ⟨F5, T5, e4, g4, R5, O5, p3⟩
          | some sv => exact p3
        | exc x e4 g4 => rw [hbe] at p3; exact p3
        | stuck => rw [hbe] at p3; exact p3
end
end PV
set_option Elab.async false
set_option linter.all false
set_option maxRecDepth 100000
set_option maxHeartbeats 4000000
/-! PV14: statements that change lists; several names at once. -/
namespace PV
open PySem L2 PySem.Spec PyProof.Rows

section
variable {c : Cn} {F H H0 F0 Fb : Hp} {T : Tm} {e : Env} {g : Rng} {σ : L2.St}
/-- a list of a name changes -/
theorem Rel.mut (R : Rel c F T e g σ H) {i : Nat} {ds : List D} (q : e[i]? = some (some (.own ds))) : ∃ a xs, σ[i]? = some (some (.ref a)) ∧ T a = some i ∧ H a = some (.lst xs) ∧ Reps c F xs ds ∧
    ∀ xs' ds', Reps c F xs' ds' → Rel c F T (e.set i (some (.own ds'))) g σ (upd H a (.lst xs')) := by
  obtain ⟨v, h1, a, xs, rfl, t, k, r⟩ := R.slot i _ q
  obtain ⟨nL, nC⟩ := R.tneL t
  have fa := (R.dom a i t).2
  have hi : i < e.length := (List.getElem?_eq_some_iff.mp q).1
  refine ⟨a, xs, h1, t, k, r, fun xs' ds' r' => ⟨⟨fun b o z => by rw [upd_ne (by rintro rfl; rw [fa] at z; cases z)]; exact R.base.sub b o z, by rw [upd_ne (Ne.symm nL)]; exact R.base.hL, by rw [upd_ne (Ne.symm nC)]; exact R.base.hC, R.base.ne, R.base.FL, R.base.FC⟩, R.TL, R.TC, fun b j z => ⟨?_, (R.dom b j z).2⟩, by simp [R.len], fun j sv z => ?_⟩⟩
  · by_cases n : b = a
    · subst n; rw [upd_same]; simp
    · rw [upd_ne n]; exact (R.dom b j z).1
  · by_cases hj : j = i
    · subst hj
      rw [List.getElem?_set_self hi] at z
      cases z
      exact ⟨.ref a, h1, a, xs', rfl, t, upd_same, r'⟩
    · rw [List.getElem?_set_ne (Ne.symm hj)] at z
      obtain ⟨w, k1, k2⟩ := R.slot j sv z
      exact ⟨w, k1, k2.mono (Sub.refl _) (fun _ y => y) fun b o tb y => by
        rw [upd_ne (by rintro rfl; rw [t] at tb; exact hj (Option.some.inj tb).symm)]; exact y⟩
theorem Old.mut (O : Old c F0 H0 Fb F T H) {a : Addr} {i : Nat} {o : HO} (t : T a = some i) : Old c F0 H0 Fb F T (upd H a o) :=
  ⟨⟨O.x.f, fun b u n1 n2 q => by rw [upd_ne (by rintro rfl; rw [O.y b i t] at q; cases q)]; exact O.x.h b u n1 n2 q, fun b q => by
    by_cases n : b = a
    · subst n; rw [upd_same] at q; cases q
    · rw [upd_ne n] at q; exact O.x.n b q, O.x.g⟩, O.y, O.b⟩
/-- a row of a name's list of lists changes -/
theorem Rel.mutRow (R : Rel c F T e g σ H) {i j : Nat} {dss : List (List D)} {ds : List D} (q : e[i]? = some (some (.owns dss))) (hj : dss[j]? = some ds) : ∃ (a : Addr) (as : List Addr) (b : Addr) (xs : List V), σ[i]? = some (some (.ref a)) ∧ T a = some i ∧ H a = some (.lst (as.map V.ref)) ∧ as.length = dss.length ∧ as[j]? = some b ∧ T b = some i ∧ H b = some (.lst xs) ∧ Reps c F xs ds ∧
    ∀ xs' ds', Reps c F xs' ds' → Rel c F T (e.set i (some (.owns (dss.set j ds')))) g σ (upd H b (.lst xs')) := by
  obtain ⟨v, h1, a, as, rfl, t, k, nd, l, r⟩ := R.slot i _ q
  have hjl : j < dss.length := (List.getElem?_eq_some_iff.mp hj).1
  have hb : as[j]? = some (as[j]'(by omega)) := List.getElem?_eq_getElem (by omega)
  generalize as[j]'(by omega) = b at hb
  obtain ⟨tb, xs, kb, rb⟩ := r j b ds hb hj
  obtain ⟨nL, nC⟩ := R.tneL tb
  have fb := (R.dom b i tb).2
  have hi : i < e.length := (List.getElem?_eq_some_iff.mp q).1
  have nba : b ≠ a := fun z => by
    have : b ∈ as := List.mem_iff_getElem?.mpr ⟨j, hb⟩
    rw [z] at this
    exact (List.nodup_cons.mp nd).1 this
  refine ⟨a, as, b, xs, h1, t, k, l, hb, tb, kb, rb, fun xs' ds' r' => ⟨⟨fun b' o z => by rw [upd_ne (by rintro rfl; rw [fb] at z; cases z)]; exact R.base.sub b' o z, by rw [upd_ne (Ne.symm nL)]; exact R.base.hL, by rw [upd_ne (Ne.symm nC)]; exact R.base.hC, R.base.ne, R.base.FL, R.base.FC⟩, R.TL, R.TC, fun b' j z => ⟨?_, (R.dom b' j z).2⟩, by simp [R.len], fun m sv z => ?_⟩⟩
  · by_cases n : b' = b
    · subst n; rw [upd_same]; simp
    · rw [upd_ne n]; exact (R.dom b' j z).1
  · by_cases hm : m = i
    · subst hm
      rw [List.getElem?_set_self hi] at z
      cases z
      refine ⟨.ref a, h1, a, as, rfl, t, by rw [upd_ne (Ne.symm nba)]; exact k, nd, by simpa using l, fun n b' ds2 q1 q2 => ?_⟩
      by_cases hn : n = j
      · subst hn
        rw [hb] at q1
        cases q1
        rw [List.getElem?_set_self hjl] at q2
        cases q2
        exact ⟨tb, xs', upd_same, r'⟩
      · rw [List.getElem?_set_ne (Ne.symm hn)] at q2
        obtain ⟨p1, ys, p2, p3⟩ := r n b' ds2 q1 q2
        refine ⟨p1, ys, ?_, p3⟩
        rw [upd_ne]
        · exact p2
        · rintro rfl
          have h2 := (List.nodup_cons.mp nd).2
          have l1 := (List.getElem?_eq_some_iff.mp q1)
          have l2 := (List.getElem?_eq_some_iff.mp hb)
          obtain ⟨l1, e1⟩ := l1
          obtain ⟨l2, e2⟩ := l2
          exact hn ((List.getElem_inj h2).mp (e1.trans e2.symm))
    · rw [List.getElem?_set_ne (Ne.symm hm)] at z
      obtain ⟨w, k1, k2⟩ := R.slot m sv z
      exact ⟨w, k1, k2.mono (Sub.refl _) (fun _ y => y) fun b' o tb' y => by
        rw [upd_ne (by rintro rfl; rw [tb] at tb'; exact hm (Option.some.inj tb').symm)]; exact y⟩
end

/-! ### append -/
/-- what a method call asks of its text -/
structure BmOk (X : Cx) (o : Expr) (es : List Expr) (name : Str) (apos cpos : Pos) : Prop where
  hab : attributeBase o name X.env (eval o X.env) = eval o X.env
  hfew : (((backTo cpos (starEach es X.env)).all fun x => !x.1) && (backToKw cpos (keywordEach [] X.env)).all (fun x => x.1.isSome) && decide (es.length + ([] : List Keyword).length + (if ([] : List Keyword).isEmpty = true then 0 else 1) < 30)) = true
  hline : (apos.endLine == cpos.line) = true
theorem mInt_bind {α : Type} (m : M SV) (f : Int → M α) : mBind (mInt m) f = mBind m fun sv => mBind (mOpt sv.int) f := by
  funext e g
  unfold mInt mBind
  cases m e g <;> rfl
section
variable {c : Cn} {W : WX} {F0 H0 Fb : Hp} {E : Ends} {e : Env} {g : Rng} {α : Type} {i : Nat}
theorem PostS.own {f : List D → S} (h : PostS c W F0 H0 Fb E (mBind (mOwn i) f e g)) : ∃ ds, e[i]? = some (some (.own ds)) ∧ PostS c W F0 H0 Fb E (f ds e g) := by
  unfold mBind mOwn at h
  split at h
  · rename_i ds q
    exact ⟨ds, q, h⟩
  · exact (show False from h).elim
theorem PostS.rowAt {z : Int} {f : List (List D) × Nat × List D → S} (h : PostS c W F0 H0 Fb E (mBind (mRowAt i z) f e g)) : ∃ dss j ds, e[i]? = some (some (.owns dss)) ∧ ixAt dss.length z = some j ∧ dss[j]? = some ds ∧ PostS c W F0 H0 Fb E (f (dss, j, ds) e g) := by
  have h1 : PostS c W F0 H0 Fb E (mBind (mOpt (PV.rowAt e i z)) f e g) := h
  obtain ⟨p, q, h2⟩ := PostS.opt h1
  unfold PV.rowAt at q
  split at q
  · rename_i dss hd
    split at q
    · rename_i j hj
      cases hjj : dss[j]? with
      | none => rw [hjj] at q; cases q
      | some ds => rw [hjj] at q; cases q; exact ⟨dss, j, ds, hd, hj, hjj, h2⟩
    · cases q
  · cases q
theorem PostS.must {b : Bool} {f : Unit → S} (h : PostS c W F0 H0 Fb E (mBind (mMust b) f e g)) : b = true ∧ PostS c W F0 H0 Fb E (f () e g) := by
  unfold mMust at h
  cases b with
  | true => exact ⟨rfl, h⟩
  | false => exact (show False from h).elim
theorem PostS.varP {f : SV → S} (h : PostS c W F0 H0 Fb E (mBind (mVarP i) f e g)) : ∃ sv, e[i]? = some (some sv) ∧ PostS c W F0 H0 Fb E (f sv e g) := by
  unfold mBind mVarP at h
  split at h
  · rename_i sv q
    exact ⟨sv, q, h⟩
  · exact (show False from h).elim
theorem SV.int_at {sv : SV} {z : Int} (h : sv.int = some z) : sv = .dat (.int z) := by
  unfold SV.int at h
  split at h
  · cases h; rfl
  · cases h
end
section
variable {X : Cx}
theorem get_listL : PGet X (rIxL X.K) := by
  intro pins s σ H o i ov iv Q I rx ry h
  obtain ⟨p, xs, k, z, rfl, rfl, hq, he, q⟩ := h
  cases rx
  obtain ⟨t, rfl⟩ := ry
  obtain ⟨its, r, pl, hz⟩ := I.list hq
  obtain ⟨j, h1, h2, h3, h4, h5⟩ := atI_get he
  obtain ⟨w, ew, rw'⟩ := r.get h2
  have hl := r.length
  have hn := line63
  have fin : EP X pins σ Q w s := ⟨z, H, I, rw', q⟩
  by_cases h0 : 0 ≤ k
  · have hj : k.toNat = j := by
      rw [seqIndex_of h0 h5] at h1
      exact Option.some.inj h1
    exact wpAny_getItem_list pl.isList h0 (by omega) (by rw [hj]; simpa using ew) fin
  · have hj : (k + (its.toArray.size : Int)).toNat = j := by
      rw [seqIndex_neg (by omega) h4] at h1
      rw [List.size_toArray, ← hl]
      exact Option.some.inj h1
    exact wpAny_getItem_list_neg pl.isList (by omega) (by rw [List.size_toArray] <;> omega) (by omega) (by rw [hj]; simpa using ew) fin
end

/-! ### remove -/
section
variable {X : Cx}
def rRemD (K : PySem.W.Frag) : V → List V → Hp → VK → Prop := fun x xs H Q => ∃ (a : Addr) (y : V) (d : PyData) (ds : List PyData) (zs : List V) (j : Nat), x = V.ref a ∧ xs = [y] ∧ H a = some (.lst zs) ∧ DpAll K H zs ds ∧ Dp K H y d ∧
  PyData.canLayAll0 ds = true ∧ d.canLay0 = true ∧ d.depth ≤ 60 ∧ SeqAt.dataPlace ds d = some j ∧ Q .non (upd H a (.lst (zs.eraseIdx j)))
theorem mt_removeD (hu : X.A.units + 65 < cLine) : MtR X "list.remove" (rRemD X.K) := by
  intro pins s σ H x xs v us Q I rx rxs h
  obtain ⟨a, y, d, ds, zs, j, rfl, rfl, hH, hl, hy, k1, k2, kd, hp, q⟩ := h
  cases rx
  obtain ⟨uy, rfl, ry⟩ := rxs.one
  obtain ⟨bs, r1⟩ := Dp.reads I d y uy hy ry
  obtain ⟨z, its, n, r, hlen, e⟩ := I.lstM hH
  obtain ⟨as, h4⟩ := Dp.readsAll I ds _ its hl r
  refine SeqAt.remove_list_data (vs := its.toArray) (l := a) ⟨_, e, rfl, n, rfl⟩ (by simpa using h4) r1 (PyData.plainAll_of_canLay0 _ k1) (PyData.plain_of_canLay0 _ k2) (by omega) hp (by rw [List.size_toArray]; omega) ?_
  refine ⟨.non, _, I.lset (its' := its.eraseIdx j) (t' := s.toks) hH e ?_ (r.eraseIdx j) ?_, rfl, q⟩
  · show its.toArray.eraseIdxIfInBounds j = (its.eraseIdx j).toArray
    rw [List.eraseIdxIfInBounds_toArray]
  · have := len_erase zs j
    omega
end

/-! ### the statements -/
theorem pys_find {d : D} {p : PyData} : ∀ {ds : List D} {ps : List PyData}, D.pys ds = some ps → d.py = some p → (ps.findIdx? fun y => PyData.eqv y p) = ds.findIdx? fun z => z.eqv d
  | [], ps, h, _ => by simp [D.pys] at h; subst h; rfl
  | x :: ds, ps, h, hp => by
    simp only [D.pys] at h
    split at h
    · rename_i q qs e1 e2
      cases h
      rw [List.findIdx?_cons, List.findIdx?_cons, eqv_py _ _ _ _ e1 hp, pys_find e2 hp]
    · cases h
section
variable {X : Cx} {c : Cn} {W : WX} {x : Str} {i : Nat} {a b b2 : Expr} {m mk mk2 : M SV} {md : M D} {pos vpos apos cpos bpos spos : Pos}
/-- a name of the def -/
structure Nm (X : Cx) (i : Nat) (x : Str) : Prop where
  hN : X.N[i]? = some x
  hv : Vis X.env.scope x
  hd : (x == ("__debug__" : Str)) = false
  hcd : (x == ("__classdict__" : Str)) = false
theorem same_addr {σ : L2.St} {i : Nat} {a a1 : Addr} (h : σ[i]? = some (some (V.ref a))) (h1 : σ[i]? = some (some (V.ref a1))) : a1 = a := by
  rw [h] at h1; cases h1; rfl
theorem ss_app (n : Nm X i x) (ha : PE X a (tV c W md)) (he : starEach [a] X.env = (false, eval a X.env) :: starEach [] X.env) (hpl : (backTo cpos (starEach [] X.env)).any (·.1) = false)
    (B : BmOk X (.Name x vpos) [a] "append" apos cpos) (hs : swapsWith (.Call (.Attribute (.Name x vpos) "append" apos) [a] [] cpos) none pos.line X.env = pure false) : SS X c W (.Expr (.Call (.Attribute (.Name x vpos) "append" apos) [a] [] cpos) pos) (sApp i md) := fun F0 H0 Fb =>
  psImp (ps_expr (pe_bm PySem.F.plainAttrs_list PySem.F.slot_list_append PySem.F.type_list_append mt_append (pe_var n.hN n.hv n.hd n.hcd) (pa_cons ha pa_nil he) B.hab B.hfew B.hline he hpl) hs) fun D σ H ⟨F, T, e, g, R, O, p⟩ => by
    obtain ⟨ds, q, p⟩ := PostS.own p
    obtain ⟨l, xs, h1, t, k, r, _⟩ := R.mut q
    refine ⟨.ref l, h1, .inl ⟨rfl, xs, .of k⟩, F, T, e, g, R, (PostS.bind p O).imp fun d F1 T1 H1 e1 g1 R1 x1 ⟨O1, p1⟩ v rv => ?_⟩
    obtain ⟨ds1, q1, p1⟩ := PostS.own p1
    obtain ⟨hm, p1⟩ := PostS.must p1
    obtain ⟨l1, xs1, h2, t1, k1, r1, mt⟩ := R1.mut q1
    have := same_addr h1 h2
    subst this
    have hl := r1.length
    have hm' := of_decide_eq_true hm
    exact ⟨l1, xs1, v, rfl, rfl, k1, line_size (n := xs1.length + 1) (by omega), p1 σ F1 T1 _ (mt _ _ (r1.append (.cons rv .nil))) (O1.mut t1)⟩
theorem ss_remove (hu : X.A.units + 65 < cLine) (n : Nm X i x) (ha : PE X a (tV c W md)) (he : starEach [a] X.env = (false, eval a X.env) :: starEach [] X.env) (hpl : (backTo cpos (starEach [] X.env)).any (·.1) = false)
    (B : BmOk X (.Name x vpos) [a] "remove" apos cpos) (hs : swapsWith (.Call (.Attribute (.Name x vpos) "remove" apos) [a] [] cpos) none pos.line X.env = pure false) : SS X c W (.Expr (.Call (.Attribute (.Name x vpos) "remove" apos) [a] [] cpos) pos) (sRemove i md) := fun F0 H0 Fb =>
  psImp (ps_expr (pe_bm PySem.F.plainAttrs_list PySem.F.slot_list_remove PySem.F.type_list_remove (mt_removeD hu) (pe_var n.hN n.hv n.hd n.hcd) (pa_cons ha pa_nil he) B.hab B.hfew B.hline he hpl) hs) fun D σ H ⟨F, T, e, g, R, O, p⟩ => by
    obtain ⟨ds, q, p⟩ := PostS.own p
    obtain ⟨l, xs, h1, t, k, r, _⟩ := R.mut q
    refine ⟨.ref l, h1, .inl ⟨rfl, xs, .of k⟩, F, T, e, g, R, (PostS.bind p O).imp fun d F1 T1 H1 e1 g1 R1 x1 ⟨O1, p1⟩ v rv => ?_⟩
    obtain ⟨ds1, q1, p1⟩ := PostS.own p1
    obtain ⟨hm, p1⟩ := PostS.must p1
    obtain ⟨j, hj, p1⟩ := PostS.opt p1
    obtain ⟨l1, xs1, h2, t1, k1, r1, mt⟩ := R1.mut q1
    have := same_addr h1 h2
    subst this
    rw [Bool.and_eq_true] at hm
    obtain ⟨pd, w1, w2, w3⟩ := fine_py 60 d hm.1
    obtain ⟨ps, w4, w5, w6⟩ := fine_pys 60 ds1 hm.2
    refine ⟨l1, v, pd, ps, xs1, j, rfl, rfl, k1, r1.dp R1.base.sub w4, rv.dp R1.base.sub w1, w5, w2, w3, ?_, p1 σ F1 T1 _ (mt _ _ (r1.erase j)) (O1.mut t1)⟩
    unfold SeqAt.dataPlace
    rw [pys_find w4 w1]
    exact hj
theorem ss_put (n : Nm X i x) (hb : PE X b (tP c W mk)) (ha : PE X a (tV c W md)) (hs : swapsWithSole [.Subscript (.Name x vpos) b spos] a pos.line X.env = pure false) (hw : swappedStores [.Subscript (.Name x vpos) b spos] a X.env = pure none)
    (h1 : (assignEach [.Subscript (.Name x vpos) b spos] X.env).map (·.2) = [assign (.Subscript (.Name x vpos) b spos) X.env])
    (h2 : ∀ v, assign (.Subscript (.Name x vpos) b spos) X.env v = (do
      let ov ← holding [v] (eval (.Name x vpos) X.env)
      let iv ← holding [v, ov] (eval b X.env)
      standAt spos
      holding [v, ov, iv] (setItem ov iv v)
      release [v, ov, iv] [])) : SS X c W (.Assign [.Subscript (.Name x vpos) b spos] a pos) (sPut i mk md) := fun F0 H0 Fb =>
  psImp (ps_asg ha (pg_sub (pe_var n.hN n.hv n.hd n.hcd) hb set_list h2) hs hw h1) fun D σ H ⟨F, T, e, g, R, O, p⟩ => by
    refine ⟨F, T, e, g, R, (PostS.bind p O).imp fun d F1 T1 H1 e1 g1 R1 x1 ⟨O1, p1⟩ v rv => ?_⟩
    obtain ⟨ds, q, p1⟩ := PostS.own p1
    obtain ⟨l, xs, h1, t, k, r, _⟩ := R1.mut q
    rw [mInt_bind] at p1
    refine ⟨.ref l, h1, F1, T1, e1, g1, R1, (PostS.bind p1 O1).imp fun sk F2 T2 H2 e2 g2 R2 x2 ⟨O2, p2⟩ y py => ?_⟩
    obtain ⟨z, hz, p2⟩ := PostS.opt p2
    have := SV.int_at hz
    subst this
    obtain ⟨⟩ := py
    obtain ⟨ds1, q1, p2⟩ := PostS.own p2
    obtain ⟨j, hj, p2⟩ := PostS.opt p2
    obtain ⟨l1, xs1, h2, t1, k1, r1, mt⟩ := R2.mut q1
    have := same_addr h1 h2
    subst this
    exact ⟨l1, xs1, z, j, rfl, rfl, k1, by rw [r1.length]; exact hj, p2 σ F2 T2 _ (mt _ _ (Reps.set (rv.mono x2.f) j r1)) (O2.mut t1)⟩
theorem ss_augI (n : Nm X i x) (hb : PE X b (tP c W mk)) (ha : PE X a (tP c W m))
    (h2 : ∀ ov iv new, augStore b ov iv new = (do holding [new, ov, iv] (setItem ov iv new); release [new, ov, iv] []; pure .next)) : SS X c W (.AugAssign (.Subscript (.Name x vpos) b spos) .Add a pos) (sAugI i mk m) := fun F0 H0 Fb =>
  psImp (ps_augS (pe_var n.hN n.hv n.hd n.hcd) hb get_listL ha ip_add set_list h2) fun D σ H ⟨F, T, e, g, R, O, p⟩ => by
    obtain ⟨ds, q, p⟩ := PostS.own p
    obtain ⟨l, xs, h1, t, k, r, _⟩ := R.mut q
    rw [mInt_bind] at p
    refine ⟨.ref l, h1, F, T, e, g, R, (PostS.bind p O).imp fun sk F2 T2 H2 e2 g2 R2 x2 ⟨O2, p2⟩ y py => ?_⟩
    obtain ⟨z, hz, p2⟩ := PostS.opt p2
    have := SV.int_at hz
    subst this
    obtain ⟨⟩ := py
    obtain ⟨ds1, q1, p2⟩ := PostS.own p2
    obtain ⟨j, hj, p2⟩ := PostS.opt p2
    obtain ⟨n0, hn, p2⟩ := PostS.opt p2
    obtain ⟨l1, xs1, h2, t1, k1, r1, _⟩ := R2.mut q1
    have := same_addr h1 h2
    subst this
    have hn' : ds1[j]? = some (.int n0) := by
      unfold getI at hn
      split at hn
      · rename_i w e; cases hn; exact e
      · cases hn
    obtain ⟨w, hw, rw'⟩ := r1.get hn'
    cases rw'
    rw [mInt_bind] at p2
    refine ⟨l1, xs1, z, .int n0, rfl, rfl, .of k1, ?_, F2, T2, e2, g2, R2, (PostS.bind p2 O2).imp fun sk F3 T3 H3 e3 g3 R3 x3 ⟨O3, p3⟩ y py => ?_⟩
    · unfold atI
      rw [r1.length, show ixN ds1.length z = some j from hj]
      exact hw
    obtain ⟨z2, hz2, p3⟩ := PostS.opt p3
    have := SV.int_at hz2
    subst this
    obtain ⟨⟩ := py
    obtain ⟨ds2, q2, p3⟩ := PostS.own p3
    obtain ⟨hm, p3⟩ := PostS.must p3
    have hm' := of_decide_eq_true hm
    obtain ⟨l2, xs2, h3, t2, k2, r2, mt⟩ := R3.mut q2
    have := same_addr h1 h3
    subst this
    exact ⟨n0, z2, rfl, rfl, l2, xs2, z, j, rfl, rfl, k2, by rw [r2.length, hm']; exact hj, p3 σ F3 T3 _ (mt _ _ (Reps.set (.int _) j r2)) (O3.mut t2)⟩
end
end PV
set_option Elab.async false
set_option linter.all false
set_option maxRecDepth 100000
set_option maxHeartbeats 4000000
/-! PV15: rows of lists of lists, x += y, several names at once. -/
namespace PV
open PySem L2 PySem.Spec PyProof.Rows

section
variable {c : Cn} {F F1 H H0 H1 H2 F2 : Hp} {T T1 T2 : Tm} {e : Env} {g : Rng} {σ : L2.St} {v : V}
theorem ref_inj : ∀ {as bs : List Addr}, as.map V.ref = bs.map V.ref → as = bs
  | [], [], _ => rfl
  | [], _ :: _, h => by simp at h
  | _ :: _, [], h => by simp at h
  | a :: as, b :: bs, h => by
    simp only [List.map_cons, List.cons.injEq] at h
    rw [ref_inj h.2, show a = b from V.ref.inj h.1]
theorem ORes.knownAt {sv : SV} {g0 : Rng} {F00 : Hp} (B : Base c F00 g0 H) (h : ORes c H F T H1 v sv) (x : Ext c F1 T1 H1 F2 T2 H2) : Known H1 H2 v sv := by
  have k := h.known
  cases sv with
  | owns dss =>
    obtain ⟨a, as, rfl, h0, f, t, ka, nd, l, r⟩ := h
    intro b e
    cases e
    refine ⟨by rw [ka]; simp, fun xs hx => ?_⟩
    rw [x.h a _ (B.unL h0).1 (B.unL h0).2 ka] at hx
    exact (k a rfl).2 xs (by rw [ka]; exact hx)
  | dat _ => trivial
  | own _ => exact k
  | dk _ => exact k
  | dt _ => exact k
theorem ORes.tm (k : ∀ a, H0 a = none → T a = none → T1 a = none) : ∀ {sv : SV}, ORes c H0 F T H v sv → ORes c H0 F T1 H v sv
  | .dat d, h => by
    have h' : Rep c F v d := h
    exact h'
  | .own _, h => by
    obtain ⟨a, xs, e, h0, f, t, r⟩ := h
    exact ⟨a, xs, e, h0, f, k a h0 t, r⟩
  | .owns _, h => by
    obtain ⟨a, as, e, h0, f, t, ka, nd, l, r⟩ := h
    refine ⟨a, as, e, h0, f, k a h0 t, ka, nd, l, fun j b ds h1 h2 => ?_⟩
    obtain ⟨hb, fb, tb, rb⟩ := r j b ds h1 h2
    exact ⟨hb, fb, k b hb tb, rb⟩
  | .dk _, h => by
    obtain ⟨q, a, e, h0, f, t, r⟩ := h
    exact ⟨q, a, e, h0, f, k a h0 t, r⟩
  | .dt _, h => by
    obtain ⟨q, a, e, h0, f, t, r⟩ := h
    exact ⟨q, a, e, h0, f, k a h0 t, r⟩
theorem SlotRep.move {i j : Nat} (hT : ∀ a, T a = some j → T1 a = some i) : ∀ {sv : SV}, SlotRep c F T H j v sv → SlotRep c F T1 H i v sv
  | .dat d, h => by
    have h' : Rep c F v d := h
    exact h'
  | .own _, h => by
    obtain ⟨a, xs, e, t, k, r⟩ := h
    exact ⟨a, xs, e, hT a t, k, r⟩
  | .owns _, h => by
    obtain ⟨a, as, e, t, k, nd, l, r⟩ := h
    refine ⟨a, as, e, hT a t, k, nd, l, fun j b ds h1 h2 => ?_⟩
    obtain ⟨tb, xs, kb, rb⟩ := r j b ds h1 h2
    exact ⟨hT b tb, xs, kb, rb⟩
  | .dk _, h => by
    obtain ⟨a, ws, e, t, r⟩ := h
    exact ⟨a, ws, e, hT a t, r⟩
  | .dt _, h => by
    obtain ⟨a, ws, e, t, r⟩ := h
    exact ⟨a, ws, e, hT a t, r⟩
end
section
variable {c : Cn} {W : WX} {F0 H0 Fb : Hp} {E : Ends} {e : Env} {g : Rng} {i : Nat}
theorem PostS.put {sv : SV} {f : Unit → S} (h : PostS c W F0 H0 Fb E (mBind (PV.put i sv) f e g)) : i < e.length ∧ PostS c W F0 H0 Fb E (f () (e.set i (some sv)) g) := by
  unfold mBind PV.put at h
  by_cases hi : i < e.length
  · rw [if_pos hi] at h; exact ⟨hi, h⟩
  · rw [if_neg hi] at h; exact (show False from h).elim
end

/-- a, b = x, y -/
def sPar2 (i j : Nat) (a b : M SV) : S := mBind a fun x => mBind b fun y => mBind (put i x) fun _ => mBind (put j y) fun _ => mRet none
def sPar3 (i j k : Nat) (a b d : M SV) : S := mBind a fun x => mBind b fun y => mBind d fun z => mBind (put i x) fun _ => mBind (put j y) fun _ => mBind (put k z) fun _ => mRet none
section
variable {X : Cx} {c : Cn} {W : WX} {x y z : Str} {i j l : Nat} {a b b2 d : Expr} {m mk mk2 ma mb md : M SV} {mv : M D} {pos vpos apos cpos bpos spos px py pz pt : Pos} {kt k2 : Nat} {pt2 : Pos}
theorem ss_appR (n : Nm X i x) (hb : PE X b (tP c W mk)) (hpx : PlainIx b) (ha : PE X a (tV c W mv)) (he : starEach [a] X.env = (false, eval a X.env) :: starEach [] X.env) (hpl : (backTo cpos (starEach [] X.env)).any (·.1) = false)
    (B : BmOk X (.Subscript (.Name x vpos) b bpos) [a] "append" apos cpos) (hs : swapsWith (.Call (.Attribute (.Subscript (.Name x vpos) b bpos) "append" apos) [a] [] cpos) none pos.line X.env = pure false) : SS X c W (.Expr (.Call (.Attribute (.Subscript (.Name x vpos) b bpos) "append" apos) [a] [] cpos) pos) (sAppR i mk mv) := fun F0 H0 Fb =>
  psImp (ps_expr (pe_bm PySem.F.plainAttrs_list PySem.F.slot_list_append PySem.F.type_list_append mt_append (pe_ix ix_list (pe_var n.hN n.hv n.hd n.hcd) hb hpx) (pa_cons ha pa_nil he) B.hab B.hfew B.hline he hpl) hs) fun D σ H ⟨F, T, e, g, R, O, p⟩ => by
    obtain ⟨sv, q, p⟩ := PostS.varP p
    obtain ⟨v, h1, _⟩ := R.slot i sv q
    rw [mInt_bind] at p
    refine ⟨v, h1, F, T, e, g, R, (PostS.bind p O).imp fun sk F1 T1 H1 e1 g1 R1 x1 ⟨O1, p1⟩ w rw' => ?_⟩
    obtain ⟨zk, hz, p1⟩ := PostS.opt p1
    have := SV.int_at hz
    subst this
    obtain ⟨⟩ := rw'
    obtain ⟨dss, jj, ds, q1, hj, hd, p1⟩ := PostS.rowAt p1
    obtain ⟨ad, as, ab, xs, h2, ta, k, hl, hab, tb, kb, rb, _⟩ := R1.mutRow q1 hd
    rw [h1] at h2
    have ev : v = V.ref ad := by cases h2; rfl
    subst ev
    have tneA := R1.tneL ta
    refine ⟨ad, as.map V.ref, zk, .ref ab, rfl, rfl, .of k, ?_, .inl ⟨rfl, xs, .of kb⟩, F1, T1, e1, g1, R1, (PostS.bind p1 O1).imp fun dv F2 T2 H2 e2 g2 R2 x2 ⟨O2, p2⟩ u ru => ?_⟩
    · unfold atI
      rw [List.length_map, hl, show ixN dss.length zk = some jj from hj]
      show (as.map V.ref)[jj]? = _
      rw [List.getElem?_map, hab]; rfl
    obtain ⟨dss2, j2, ds2, q2, hj2, hd2, p2⟩ := PostS.rowAt p2
    obtain ⟨hm, p2⟩ := PostS.must p2
    obtain ⟨ad2, as2, ab2, xs2, h3, ta2, k2, hl2, hab2, tb2, kb2, rb2, mt⟩ := R2.mutRow q2 hd2
    have := same_addr h1 h3
    subst this
    have k3 := x2.h ad2 _ tneA.1 tneA.2 k
    rw [k2] at k3
    have e3 : as2 = as := ref_inj (by injection k3 with k3; injection k3)
    subst e3
    rw [show dss2.length = dss.length by omega, hj] at hj2
    cases hj2
    rw [hab] at hab2
    cases hab2
    have hr := rb2.length
    have hm' : ds2.length < line := of_decide_eq_true hm
    exact ⟨ab, xs2, u, rfl, rfl, kb2, line_size (n := xs2.length + 1) (by omega), p2 σ F2 T2 _ (mt _ _ (rb2.append (.cons ru .nil))) (O2.mut tb2)⟩
theorem ss_putR (n : Nm X i x) (hb : PE X b (tP c W mk)) (hpx : PlainIx b) (hb2 : PE X b2 (tP c W mk2)) (ha : PE X a (tV c W mv)) (hs : swapsWithSole [.Subscript (.Subscript (.Name x vpos) b bpos) b2 spos] a pos.line X.env = pure false) (hw : swappedStores [.Subscript (.Subscript (.Name x vpos) b bpos) b2 spos] a X.env = pure none)
    (h1 : (assignEach [.Subscript (.Subscript (.Name x vpos) b bpos) b2 spos] X.env).map (·.2) = [assign (.Subscript (.Subscript (.Name x vpos) b bpos) b2 spos) X.env])
    (h2 : ∀ v, assign (.Subscript (.Subscript (.Name x vpos) b bpos) b2 spos) X.env v = (do
      let ov ← holding [v] (eval (.Subscript (.Name x vpos) b bpos) X.env)
      let iv ← holding [v, ov] (eval b2 X.env)
      standAt spos
      holding [v, ov, iv] (setItem ov iv v)
      release [v, ov, iv] [])) : SS X c W (.Assign [.Subscript (.Subscript (.Name x vpos) b bpos) b2 spos] a pos) (sPutR i mk mk2 mv) := fun F0 H0 Fb =>
  psImp (ps_asg ha (pg_sub (pe_ix ix_list (pe_var n.hN n.hv n.hd n.hcd) hb hpx) hb2 set_list h2) hs hw h1) fun D σ H ⟨F, T, e, g, R, O, p⟩ => by
    refine ⟨F, T, e, g, R, (PostS.bind p O).imp fun d F0' T0' H0' e0' g0' R0 x0 ⟨O0, p⟩ vd rd => ?_⟩
    obtain ⟨sv, q, p⟩ := PostS.varP p
    obtain ⟨v, h1, _⟩ := R0.slot i sv q
    rw [mInt_bind] at p
    refine ⟨v, h1, F0', T0', e0', g0', R0, (PostS.bind p O0).imp fun sk F1 T1 H1 e1 g1 R1 x1 ⟨O1, p1⟩ w rw' => ?_⟩
    obtain ⟨zk, hz, p1⟩ := PostS.opt p1
    have := SV.int_at hz
    subst this
    obtain ⟨⟩ := rw'
    obtain ⟨dss, jj, ds, q1, hj, hd, p1⟩ := PostS.rowAt p1
    obtain ⟨ad, as, ab, xs, h2, ta, k, hl, hab, tb, kb, rb, _⟩ := R1.mutRow q1 hd
    rw [h1] at h2
    have ev : v = V.ref ad := by cases h2; rfl
    subst ev
    have tneA := R1.tneL ta
    rw [mInt_bind] at p1
    refine ⟨ad, as.map V.ref, zk, .ref ab, rfl, rfl, .of k, ?_, F1, T1, e1, g1, R1, (PostS.bind p1 O1).imp fun sk2 F2 T2 H2 e2 g2 R2 x2 ⟨O2, p2⟩ u ru => ?_⟩
    · unfold atI
      rw [List.length_map, hl, show ixN dss.length zk = some jj from hj]
      show (as.map V.ref)[jj]? = _
      rw [List.getElem?_map, hab]; rfl
    obtain ⟨zk2, hz2, p2⟩ := PostS.opt p2
    have := SV.int_at hz2
    subst this
    obtain ⟨⟩ := ru
    obtain ⟨dss2, j2, ds2, q2, hj2, hd2, p2⟩ := PostS.rowAt p2
    obtain ⟨j3, hj3, p2⟩ := PostS.opt p2
    obtain ⟨ad2, as2, ab2, xs2, h3, ta2, k2, hl2, hab2, tb2, kb2, rb2, mt⟩ := R2.mutRow q2 hd2
    have := same_addr h1 h3
    subst this
    have k3 := x2.h ad2 _ tneA.1 tneA.2 k
    rw [k2] at k3
    have e3 : as2 = as := ref_inj (by injection k3 with k3; injection k3)
    subst e3
    rw [show dss2.length = dss.length by omega, hj] at hj2
    cases hj2
    rw [hab] at hab2
    cases hab2
    exact ⟨ab, xs2, zk2, j3, rfl, rfl, kb2, by rw [rb2.length]; exact hj3, p2 σ F2 T2 _ (mt _ _ (Reps.set ((rd.mono x1.f).mono x2.f) j3 rb2)) (O2.mut tb2)⟩
theorem ss_aug (hnd : X.N.Nodup) (n : Nm X i x) (hx : Loc X.env.scope x) (hf : X.fn x = true ∨ X.env.scope.names.lookup x = some .local) (ha : PE X a (tP c W m)) : SS X c W (.AugAssign (.Name x vpos) .Add a pos) (sAug i m) := fun F0 H0 Fb =>
  psImp (ps_aug hnd n.hN hx ha ip_add hf) fun D σ H ⟨F, T, e, g, R, O, p⟩ => by
    have p := p
    unfold sAug at p
    rw [mInt_bind] at p
    obtain ⟨sv, q, p⟩ := PostS.varP p
    obtain ⟨v, h1, h2⟩ := R.slot i sv q
    obtain ⟨z, hz, pz⟩ := PostS.opt p
    have := SV.int_at hz
    subst this
    have h2' : Rep c F v (.int z) := h2
    cases h2'
    rw [mInt_bind] at pz
    refine ⟨.int z, h1, F, T, e, g, R, (PostS.bind pz O).imp fun sk F1 T1 H1 e1 g1 R1 x1 ⟨O1, p1⟩ w rw' => ?_⟩
    obtain ⟨z2, hz2, p3⟩ := PostS.opt p1
    have := SV.int_at hz2
    subst this
    obtain ⟨⟩ := rw'
    obtain ⟨hi, p4⟩ := PostS.put p3
    exact ⟨z, z2, rfl, rfl, p4 _ F1 T1 H1 (R1.setDat i (.int _)) O1⟩
theorem ss_augL (hnd : X.N.Nodup) (n : Nm X i x) (hx : Loc X.env.scope x) (hf : X.fn x = true ∨ X.env.scope.names.lookup x = some .local) (ha : PE X a (tO c W m)) : SS X c W (.AugAssign (.Name x vpos) .Add a pos) (sAugL i m) := fun F0 H0 Fb =>
  psImp (ps_aug hnd n.hN hx ha iop_ext hf) fun D σ H ⟨F, T, e, g, R, O, p⟩ => by
    obtain ⟨ds, q, p⟩ := PostS.own p
    obtain ⟨l, xs, h1, t, k, r, _⟩ := R.mut q
    refine ⟨.ref l, h1, F, T, e, g, R, (PostS.bind p O).imp fun sk F1 T1 H1 e1 g1 R1 x1 ⟨O1, p1⟩ w ow => ?_⟩
    obtain ⟨ys, hys, p1⟩ := PostS.opt p1
    obtain ⟨ds1, q1, p1⟩ := PostS.own p1
    obtain ⟨hm, p1⟩ := PostS.must p1
    obtain ⟨l1, xs1, h2, t1, k1, r1, mt⟩ := R1.mut q1
    have := same_addr h1 h2
    subst this
    obtain ⟨b, zs, rfl, kb, rb⟩ := (ow.look R.base).listAt R1.base hys
    have hm' : ds1.length + ys.length ≤ line := of_decide_eq_true hm
    refine ⟨l1, b, xs1, zs, rfl, rfl, k1, kb, by rw [r1.length, rb.length]; exact line_size hm', ?_⟩
    have es : σ.set i (some (V.ref l1)) = σ := by
      obtain ⟨hlt, he⟩ := List.getElem?_eq_some_iff.mp h1
      rw [← he]
      exact List.set_getElem_self hlt
    show D.nx (σ.set i (some (V.ref l1))) _
    rw [es]
    exact p1 σ F1 T1 _ (mt _ _ (r1.append rb)) (O1.mut t1)
theorem ss_unp {t : Tgt} {tg : Expr} (ha : PE X a (tV c W mv)) (hg : PG X tg (gT c t)) (hs : swapsWithSole [tg] a pos.line X.env = pure false) (hw : swappedStores [tg] a X.env = pure none) (h1 : (assignEach [tg] X.env).map (·.2) = [assign tg X.env]) : SS X c W (.Assign [tg] a pos) (sUnp t mv) := fun F0 H0 Fb =>
  psImp (ps_asg ha hg hs hw h1) fun D σ H ⟨F, T, e, g, R, O, p⟩ => by
    refine ⟨F, T, e, g, R, (PostS.bind p O).imp fun d F1 T1 H1 e1 g1 R1 x1 ⟨O1, p1⟩ v rv => ?_⟩
    cases hb : t.bind d e1 with
    | none => simp only [hb] at p1; exact (show False from p1).elim
    | some e' =>
      simp only [hb] at p1
      exact ⟨F1, T1, e1, g1, d, e', R1, rv, hb, fun σ' off R' => p1 σ' F1 T1 H1 R' O1⟩
/-- x = y -/
theorem ss_move (hnd : X.N.Nodup) (n : Nm X j y) (hi : X.N[i]? = some x) (hx : Loc X.env.scope x) (hf : X.fn x = true ∨ X.env.scope.names.lookup x = some .local) (hs : swapsWith (.Name y py) (some (.Name x px)) pos.line X.env = pure false) : SS X c W (.Assign [.Name x px] (.Name y py) pos) (sMove i j) := fun F0 H0 Fb =>
  psImp (ps_set hnd hi hx (pe_var n.hN n.hv n.hd n.hcd) hs hf) fun D σ H ⟨F, T, e, g, R, O, p⟩ => by
    unfold sMove at p
    split at p
    · rename_i sv q
      split at p
      · rename_i hij
        obtain ⟨v, h1, h2⟩ := R.slot j sv q
        refine ⟨v, h1, p _ F (fun b => if T b = some j then some i else T b) H ⟨R.base, by rw [if_neg (by rw [R.TL]; simp)]; exact R.TL, by rw [if_neg (by rw [R.TC]; simp)]; exact R.TC, fun b k z => ?_, by simp [R.len], fun k sv' z => ?_⟩ ⟨O.x, fun b k z => ?_, O.b⟩⟩
        · by_cases w : T b = some j
          · exact R.dom b j w
          · rw [if_neg w] at z; exact R.dom b k z
        · by_cases hk : k = i
          · subst hk
            rw [List.getElem?_set_self (by simpa using hij.1)] at z
            cases z
            exact ⟨v, List.getElem?_set_self (by rw [← R.len]; exact hij.1), h2.move fun b tb => if_pos tb⟩
          · rw [List.getElem?_set_ne (Ne.symm hk)] at z
            by_cases hkj : k = j
            · subst hkj
              rw [List.getElem?_set_self'] at z
              cases w : e[k]? with
              | none => rw [w] at z; cases z
              | some _ => rw [w] at z; cases z
            · rw [List.getElem?_set_ne (Ne.symm hkj)] at z
              obtain ⟨w, k1, k2⟩ := R.slot k sv' z
              exact ⟨w, by rw [List.getElem?_set_ne (Ne.symm hk)]; exact k1, k2.mono (Sub.refl _) (fun b tb => by
                show (if T b = some j then some i else T b) = some k
                rw [if_neg (by rw [tb]; intro w; exact hkj (Option.some.inj w))]; exact tb) fun _ _ _ w => w⟩
        · by_cases w : T b = some j
          · exact O.y b j w
          · rw [if_neg w] at z; exact O.y b k z
      · exact (show False from p).elim
    · exact (show False from p).elim
theorem ss_par2 (hc : X.calm = true) (hN : X.N.Nodup) (hi : X.N[i]? = some x) (hj : X.N[j]? = some y) (hij : i ≠ j) (hx : X.env.scope.names.lookup x = some .local) (hy : X.env.scope.names.lookup y = some .local) (ha : PE X a (tO c W ma)) (hb : PE X b (tO c W mb))
    (he : starEach [a, b] X.env = (false, eval a X.env) :: starEach [b] X.env) (he2 : starEach [b] X.env = (false, eval b X.env) :: starEach [] X.env)
    (hw : swappedStores [.Tuple [.Name x px, .Name y py] kt pt] (.Tuple [a, b] k2 pt2) X.env = pure (some [x, y])) (hs : swapsWithSole [.Tuple [.Name x px, .Name y py] kt pt] (.Tuple [a, b] k2 pt2) pos.line X.env = pure false) :
    SS X c W (.Assign [.Tuple [.Name x px, .Name y py] kt pt] (.Tuple [a, b] k2 pt2) pos) (sPar2 i j ma mb) := fun F0 H0 Fb =>
  psImp (ps_par hc hN hi hj hij hx hy (pa_cons ha (pa_cons hb pa_nil he2) he) hw hs) fun D σ H ⟨F, T, e, g, R, O, p⟩ => by
    refine ⟨F, T, e, g, R, (PostS.bind p O).imp fun s1 F1 T1 H1 e1 g1 R1 x1 ⟨O1, p1⟩ v1 o1 => ?_⟩
    refine ⟨F1, T1, e1, g1, R1, (PostS.bind p1 O1).imp fun s2 F2 T2 H2 e2 g2 R2 x2 ⟨O2, p2⟩ v2 o2 => ?_⟩
    obtain ⟨hi', p2⟩ := PostS.put p2
    obtain ⟨hj', p2⟩ := PostS.put p2
    obtain ⟨T3, R3, t3⟩ := R2.putSV (Hm := H1) R.base hi' (o1.ext R.base x2) (o1.knownAt R.base x2)
    have o2' : ORes c H1 F2 T3 H2 v2 s2 := o2.tm fun b hb tb => by
      rcases t3 b with w | w
      · rw [w]; exact tb
      · exact absurd hb w.2.2
    obtain ⟨T4, R4, t4⟩ := R3.putSV (Hm := H2) R1.base hj' o2' o2'.known
    exact ⟨v1, v2, rfl, p2 _ F2 T4 H2 R4 ((O2.put (fun b w => O.x.n b w) t3).put (fun b w => O1.x.n b w) t4)⟩
theorem ss_par3 (hc : X.calm = true) (hN : X.N.Nodup) (hi : X.N[i]? = some x) (hj : X.N[j]? = some y) (hl : X.N[l]? = some z) (hij : i ≠ j) (hil : i ≠ l) (hjl : j ≠ l) (hx : X.env.scope.names.lookup x = some .local) (hy : X.env.scope.names.lookup y = some .local) (hz : X.env.scope.names.lookup z = some .local)
    (ha : PE X a (tO c W ma)) (hb : PE X b (tO c W mb)) (hd : PE X d (tO c W md))
    (he : starEach [a, b, d] X.env = (false, eval a X.env) :: starEach [b, d] X.env) (he2 : starEach [b, d] X.env = (false, eval b X.env) :: starEach [d] X.env) (he3 : starEach [d] X.env = (false, eval d X.env) :: starEach [] X.env)
    (hw : swappedStores [.Tuple [.Name x px, .Name y py, .Name z pz] kt pt] (.Tuple [a, b, d] k2 pt2) X.env = pure (some [x, y, z])) (hs : swapsWithSole [.Tuple [.Name x px, .Name y py, .Name z pz] kt pt] (.Tuple [a, b, d] k2 pt2) pos.line X.env = pure false) :
    SS X c W (.Assign [.Tuple [.Name x px, .Name y py, .Name z pz] kt pt] (.Tuple [a, b, d] k2 pt2) pos) (sPar3 i j l ma mb md) := fun F0 H0 Fb =>
  psImp (ps_par3 hc hN hi hj hl hij hil hjl hx hy hz (pa_cons ha (pa_cons hb (pa_cons hd pa_nil he3) he2) he) hw hs) fun D σ H ⟨F, T, e, g, R, O, p⟩ => by
    refine ⟨F, T, e, g, R, (PostS.bind p O).imp fun s1 F1 T1 H1 e1 g1 R1 x1 ⟨O1, p1⟩ v1 o1 => ?_⟩
    refine ⟨F1, T1, e1, g1, R1, (PostS.bind p1 O1).imp fun s2 F2 T2 H2 e2 g2 R2 x2 ⟨O2, p2⟩ v2 o2 => ?_⟩
    refine ⟨F2, T2, e2, g2, R2, (PostS.bind p2 O2).imp fun s3 F3 T3 H3 e3 g3 R3 x3 ⟨O3, p3⟩ v3 o3 => ?_⟩
    obtain ⟨hi', p3⟩ := PostS.put p3
    obtain ⟨hj', p3⟩ := PostS.put p3
    obtain ⟨hl', p3⟩ := PostS.put p3
    obtain ⟨T4, R4, t4⟩ := R3.putSV (Hm := H1) R.base hi' (o1.ext R.base (x2.trans x3)) (o1.knownAt R.base (x2.trans x3))
    have o2' : ORes c H1 F3 T4 H3 v2 s2 := (o2.ext R1.base x3).tm fun b hb tb => by
      rcases t4 b with w | w
      · rw [w]; exact tb
      · exact absurd hb w.2.2
    obtain ⟨T5, R5, t5⟩ := R4.putSV (Hm := H2) R1.base hj' o2' (o2.knownAt R1.base x3)
    have o3' : ORes c H2 F3 T5 H3 v3 s3 := o3.tm fun b hb tb => by
      rcases t5 b with w | w
      · rw [w]
        rcases t4 b with w | w
        · rw [w]; exact tb
        · exact absurd (x2.n b hb) w.2.2
      · exact absurd hb w.2.2
    obtain ⟨T6, R6, t6⟩ := R5.putSV (Hm := H3) R2.base hl' o3' o3'.known
    exact ⟨v1, v2, v3, rfl, p3 _ F3 T6 H3 R6 (((O3.put (fun b w => O.x.n b w) t4).put (fun b w => O1.x.n b w) t5).put (fun b w => O2.x.n b w) t6)⟩
end
end PV
set_option Elab.async false
set_option linter.all false
set_option maxRecDepth 100000
set_option maxHeartbeats 4000000
/-! PV16: a def's promise from its body. -/
namespace PV
open PySem L2 PySem.Spec PyProof.Rows

section
variable {P : Program} {w : World} {K : PySem.W.Frag} {mg : Str → Option Value} {base : Heap} {c : Cn}
def fnW (E : XK) : WX := fun cls d _ H => E cls d H
def envOf (n : Nat) (ds : List D) : Env := ds.map (fun d => some (.dat d)) ++ List.replicate (n - ds.length) none
theorem rel_start {F H : Hp} {g : Rng} {ds : List D} {vs : List V} {N : List Str} (B : Base c F g H) (r : Reps c F vs ds) : Rel c F noT (envOf N.length ds) g (L2.start N vs) H := by
  have hl := r.length
  refine ⟨B, rfl, rfl, (fun _ _ q => by cases q), by simp [envOf, L2.start, hl], fun i sv q => ?_⟩
  unfold envOf at q
  by_cases hi : i < ds.length
  · rw [List.getElem?_append_left (by simpa using hi), List.getElem?_map, List.getElem?_eq_getElem hi] at q
    cases q
    obtain ⟨v, h1, h2⟩ := r.get (List.getElem?_eq_getElem hi)
    refine ⟨v, ?_, h2⟩
    unfold L2.start
    rw [List.getElem?_append_left (by simp; omega), List.getElem?_map, h1]; rfl
  · rw [List.getElem?_append_right (by simp; omega)] at q
    have := List.mem_of_getElem? q
    have := List.eq_of_mem_replicate this
    cases this
theorem fn_ok {x qual : Str} {st : Stmt} {f : Addr} {fd : FuncData} {N ps : List Str} {k n : Nat} {b : S} (F : Fun K x qual st f fd) (S : FnScope N ps (defScope st)) (hn : ps.length = n)
    (hb : ∀ (cdv : Value) (A : Around) (outer : List PySem.Env) (s : Shared) (H : Hp) (E : XK), Room k (A.deeper (envOfC qual (defScope st) s.heap.objs.size f cdv)) →
      SSs (cxOf (L2.CX P w) P w K mg base N qual (defScope st) f cdv A outer s H E) c (fnW E) (defBody st) b) :
    FnOk P w K mg base (L2.CX P w) (k + 1) f fd ps (spOf c n (runFn N.length b)) := by
  refine F.okX S (fun vs H Q E h => by rw [h.1, hn]) (fun cdv A outer s H vs Q E hr h => ?_)
  obtain ⟨hl, F0, ds, g, B, r, p⟩ := h
  refine ⟨_, hb cdv A outer s H E hr F0 H F0, F0, noT, envOf N.length ds, g, rel_start B r, Old.refl B, ?_⟩
  unfold runFn at p
  show PostS c (fnW E) F0 H F0 _ (b (ds.map (fun d => some (.dat d)) ++ List.replicate (N.length - ds.length) none) g)
  cases q : b (ds.map (fun d => some (.dat d)) ++ List.replicate (N.length - ds.length) none) g with
  | ok r' e' g' =>
    rw [q] at p
    cases r' with
    | none => exact fun σ F' T' H' R' O' => p .non F' H' R'.base O'.x .non
    | some sv => exact fun v F' H' B' x' _ o => p v F' H' B' x' o
  | exc x e' g' =>
    rw [q] at p
    exact fun cls d σ F' T' H' R' O' xr => p cls d F' H' R'.base O'.x xr
  | stuck => rw [q] at p; exact p
end
end PV
set_option Elab.async false
set_option linter.all false
set_option maxRecDepth 100000
set_option maxHeartbeats 4000000
/-! PV16R: [[] for .. in ..]: a new list of new lists. -/
namespace PV
open PySem L2 PySem.Spec PyProof.Rows

def mRowsC (own : List Nat) (t : Tgt) (src : Src) : M SV := mBind src.items fun items => fun e g =>
  if still e own then
    match compLoop own t (mRet true) (mRet (.lst [])) items [] (wipe e own) g with
    | .ok ys e' g' => .ok (.owns (ys.map fun _ => [])) (unwipe e e' own) g'
    | _ => .stuck
  else .stuck
section
variable {c : Cn} {F F1 : Hp} {T T1 : Tm} {H H1 : Hp} {e : Env} {g : Rng} {σ : L2.St}
theorem tLcR_of {W : WX} {μ : Md} {own : List Nat} {t : Tgt} {src : Src} {Q : VK} (hs : ∀ i ∈ t.slots, i ∈ own) (h : tO c W (mRowsC own t src) σ H Q) :
    tLc (tI μ c W src) (gT c t) (tT c noW (mRet true)) (tO c noW (mLst [])) own σ H Q := by
  obtain ⟨F, T, e, g, R, p⟩ := h
  refine ⟨F, T, e, g, R, (Post.bind p).imp fun ds F1 T1 H1 e1 g1 R1 x1 p1 J w D hD => ?_⟩
  by_cases hst : still e1 own = true
  · have p1 : Post c W σ F1 T1 H1 (match compLoop own t (mRet true) (mRet (.lst [])) ds [] (wipe e1 own) g1 with
      | .ok ys e' g' => .ok (.owns (ys.map fun _ => [])) (unwipe e1 e' own) g'
      | _ => .stuck) (fun sv F' T' H' _ _ => ∀ v, ORes c H F' T' H' v sv → Q v H') := by
      have := p1
      simp only [hst, if_true] at this
      exact this
    cases hcl : compLoop own t (mRet true) (mRet (.lst [])) ds [] (wipe e1 own) g1 with
    | exc _ _ _ => rw [hcl] at p1; exact p1.elim
    | stuck => rw [hcl] at p1; exact p1.elim
    | ok zs eN gN =>
      rw [hcl] at p1
      have p1 : Post c W σ F1 T1 H1 (.ok (.owns (zs.map fun _ => [])) (unwipe e1 eN own) gN) (fun sv F' T' H' _ _ => ∀ v, ORes c H F' T' H' v sv → Q v H') := p1
      have DL := (R1.base.unL hD).1
      have DC := (R1.base.unL hD).2
      refine lc_it (Walk.ofD w) (fun i Hc => ∃ (F2 : Hp) (T2 : Tm) (e2 : Env) (g2 : Rng) (acc : List PV.D) (as : List Addr), Rel c F2 T2 e2 g2 (L2.wipe σ own) Hc ∧ Ext c F1 T1 H1 F2 T2 Hc ∧ Hc D = some (.lst (as.map V.ref)) ∧ as.length = acc.length ∧ F2 D = none ∧ T2 D = none ∧ (D :: as).Nodup ∧
        (∀ b ∈ as, H1 b = none ∧ F2 b = none ∧ T2 b = none ∧ Hc b = some (.lst [])) ∧ compLoop own t (mRet true) (mRet (.lst [])) (ds.drop i) acc e2 g2 = .ok zs eN gN) ?_ ?_ ?_ ?_
      · exact ⟨F1, T1, wipe e1 own, g1, [], [], (R1.wipe own).alloc hD, .alloc hD, upd_same, rfl, R1.base.free hD, R1.tfree hD, by simp, by simp, by simpa using hcl⟩
      · rintro i Hc _ ⟨F2, T2, e2, g2, acc, as, R2, x2, _⟩
        exact μ.G_of x2 R2.base
      · rintro i x Hc H' hi ⟨F2, T2, e2, g2, acc, as, R2, x2, kD, la, fD, tD, nd, hb, hc⟩ y
        have hd : ds[i]? = some ds[i] := List.getElem?_eq_getElem hi
        rw [List.drop_eq_getElem_cons hi] at hc
        obtain ⟨F3, R3, x3, r3, s3⟩ := w.turn hd (μ.G_of x2 R2.base) y R2 x2.f
        have fD3 : F3 D = none := by rw [s3 D (by rw [kD]; simp)]; exact fD
        have kD3 : H' D = some (.lst (as.map V.ref)) := x3.h D _ DL DC kD
        unfold compLoop at hc
        cases hbd : t.bind ds[i] e2 with
        | none => rw [hbd] at hc; cases hc
        | some e3 =>
          rw [hbd] at hc
          have hc : (if acc.length < line then compLoop own t (mRet true) (mRet (.lst [])) (ds.drop (i + 1)) (acc ++ [.lst []]) (wipe e3 own) g2 else .stuck) = .ok zs eN gN := hc
          split at hc
          · rename_i hlt
            refine ⟨F3, T2, e2, g2, ds[i], e3, R3, r3, hbd, fun σ' off R' => ⟨?_, F3, T2, e3, g2, R', ?_⟩⟩
            · rw [(off.mono hs).wipe]
              exact (Off.wipe ⟨L2.wipe_length σ own, fun j hj => swipe_get σ hj⟩)
            have wσ : L2.wipe σ' own = L2.wipe σ own := by
              rw [(off.mono hs).wipe]
              exact (Off.wipe ⟨L2.wipe_length σ own, fun j hj => swipe_get σ hj⟩)
            intro F4 T4 H4 R4 x4
            have k4 := keepsNew x4 kD3 fD3 tD
            have kD4 := x4.h D _ DL DC kD3
            refine ⟨F4, T4, e3, g2, R4, ?_⟩
            intro F5 T5 H5 R5 x5 v ov
            obtain ⟨a, xs, rfl, h0, fa, ta, ka, ra⟩ := ov
            have exs : xs = [] := by cases ra; rfl
            subst exs
            have k5 := keepsNew x5 kD4 k4.1 k4.2
            have kD5 := x5.h D _ DL DC kD4
            have nDa : a ≠ D := by rintro rfl; rw [kD4] at h0; cases h0
            have old : ∀ b ∈ as, H1 b = none ∧ F5 b = none ∧ T5 b = none ∧ H5 b = some (.lst []) ∧ b ≠ a := fun b hbm => by
              obtain ⟨q1, q2, q3, q4⟩ := hb b hbm
              have nL := R1.base.unL q1
              have z3 := keepsNew x3 q4 q2 q3
              have h3 := x3.h b _ nL.1 nL.2 q4
              have z4 := keepsNew x4 h3 z3.1 z3.2
              have h4 := x4.h b _ nL.1 nL.2 h3
              have z5 := keepsNew x5 h4 z4.1 z4.2
              exact ⟨q1, z5.1, z5.2, x5.h b _ nL.1 nL.2 h4, by rintro rfl; rw [h4] at h0; cases h0⟩
            have h1a : H1 a = none := x2.n a (x3.n a (x4.n a h0))
            refine ⟨as.map V.ref, kD5, by rw [List.length_map]; exact line_size (n := as.length + 1) (by omega), F5, T5, wipe e3 own, g2, acc ++ [.lst []], as ++ [a], ?_, ?_, ?_, by simp [la], k5.1, k5.2, ?_, ?_, hc⟩
            · have := (R5.loose (o' := .lst (as.map V.ref ++ [.ref a])) kD5 k5.1 k5.2 DL DC).wipe own
              rw [wσ] at this
              exact this
            · have xx := ((x2.trans x3).trans x4).trans x5
              exact ⟨xx.f, fun b o n1 n2 q => by rw [upd_ne (by rintro rfl; rw [hD] at q; cases q)]; exact xx.h b o n1 n2 q, fun b q => by
                by_cases z : b = D
                · subst z; exact hD
                · rw [upd_ne z] at q; exact xx.n b q, xx.g, xx.t⟩
            · rw [upd_same]; simp
            · rw [← List.cons_append]
              refine List.nodup_append.mpr ⟨nd, by simp, fun b hbm b' hb' => ?_⟩
              rw [List.mem_singleton.mp hb']
              rcases List.mem_cons.mp hbm with z | z
              · rw [z]; exact nDa.symm
              · exact (old b z).2.2.2.2
            · intro b hbm
              rcases List.mem_append.mp hbm with z | z
              · obtain ⟨q1, q2, q3, q4, q5⟩ := old b z
                exact ⟨q1, q2, q3, by rw [upd_ne (by rintro rfl; exact (List.nodup_cons.mp nd).1 z)]; exact q4⟩
              · rw [List.mem_singleton.mp z]
                exact ⟨h1a, fa, ta, by rw [upd_ne nDa]; exact ka⟩
          · cases hc
      · rintro Hc ⟨F2, T2, e2, g2, acc, as, R2, x2, kD, la, fD, tD, nd, hb, hc⟩
        rw [List.drop_of_length_le (Nat.le_refl _)] at hc
        have hc : (Res.ok acc e2 g2 : Res (List PV.D)) = .ok zs eN gN := hc
        cases hc
        refine p1 F2 T2 Hc (R1.unwipe R2 hst x2.f) x2 _ ⟨D, as, rfl, x1.n D hD, fD, tD, kD, nd, by simp [la], fun j b rs h1 h2 => ?_⟩
        have hbm : b ∈ as := List.mem_of_getElem? h1
        obtain ⟨q1, q2, q3, q4⟩ := hb b hbm
        rw [List.getElem?_map] at h2
        cases q : zs[j]? with
        | none => rw [q] at h2; cases h2
        | some z =>
          rw [q] at h2
          cases h2
          exact ⟨x1.n b q1, q2, q3, [], q4, .nil⟩
  · have p1 := p1
    simp only [hst, if_false] at p1
    exact (show False from p1).elim
end
section
variable {X : Cx} {c : Cn} {W : WX} {x : Str} {i : Nat} {pos pos' : Pos}
theorem ss_setRows {μ : Md} {tg iter : Expr} {scope : Scope} {own : List (Str × Nat)} {lpos ep : Pos} {t : Tgt} {src : Src} (hc : X.calm = true) (hN : X.N.Nodup) (hi : X.N[i]? = some x) (hx : X.env.scope.names.lookup x = some .local)
    (hsw : swapsWith (.ListComp (.List [] ep) [⟨tg, iter, [], 0⟩] scope lpos) (some (.Name x pos')) pos.line X.env = pure true) (hit : PI X tg iter (tI μ c W src)) (ok : blkC X.N X.env.scope scope own = true) (hsl : ∀ i ∈ t.slots, i ∈ own.map (·.2))
    (hg : ∀ (s : Shared) (H : Hp) (C : Addr) (cl : List (Str × Addr)) (fp : List Addr), PG (X.blk s H scope (compEnvC scope cl C X.env) fp) tg (gT c t)) (hs : ∀ x, foldedSetIterable iter X.env x = pure x) :
    SS X c W (.Assign [.Name x pos'] (.ListComp (.List [] ep) [⟨tg, iter, [], 0⟩] scope lpos) pos) (sSet i (mRowsC (own.map (·.2)) t src)) := fun F0 H0 Fb =>
  psImp (ps_setLc hc hN hi hx hsw hit (blkOk_by ok) hg (fun s H C cl fp => ⟨fun pins s σ H Q I ⟨F, T, e, g, R, p⟩ => pts_nil.run pins s σ H Q I (doneQ R p)⟩) (fun s H C cl fp => se_lst sa_nil) hs) fun D σ H h => tLcR_of hsl (tS_set h)
end
end PV
set_option Elab.async false
set_option linter.all false
set_option maxRecDepth 100000
set_option maxHeartbeats 4000000
/-! PV16T: a, b = x, y where a name is a cell: by way of the tuple. -/
namespace PV
open PySem L2 PySem.Spec PyProof.Rows
section
variable {X : Cx} {c : Cn} {W : WX} {x y : Str} {i j : Nat} {a b : Expr} {ma mb : M SV} {pos px py pt pt2 : Pos} {kt k2 : Nat}
theorem ss_parT2 (hc : X.calm = true) (hN : X.N.Nodup) (hi : X.N[i]? = some x) (hj : X.N[j]? = some y) (hx : L2.Loc X.env.scope x) (hy : L2.Loc X.env.scope y) (fx : X.fn x = true ∨ X.env.scope.names.lookup x = some .local) (fy : X.fn y = true ∨ X.env.scope.names.lookup y = some .local) (ha : PE X a (tO c W ma)) (hb : PE X b (tO c W mb))
    (he : starEach [a, b] X.env = (false, eval a X.env) :: starEach [b] X.env) (he2 : starEach [b] X.env = (false, eval b X.env) :: starEach [] X.env)
    (hw : swappedStores [.Tuple [.Name x px, .Name y py] kt pt] (.Tuple [a, b] k2 pt2) X.env = pure none) (hs : swapsWithSole [.Tuple [.Name x px, .Name y py] kt pt] (.Tuple [a, b] k2 pt2) pos.line X.env = pure false) :
    SS X c W (.Assign [.Tuple [.Name x px, .Name y py] kt pt] (.Tuple [a, b] k2 pt2) pos) (sPar2 i j ma mb) := fun F0 H0 Fb =>
  psImp (ps_asg (pe_tup (pa_cons ha (pa_cons hb pa_nil he2) he)) (pg_tup (n := 2) hc (pgs_cons (pg_name hN hi hx fx) (pgs_cons (pg_name hN hj hy fy) pgs_nil rfl) rfl) rfl rfl) hs hw rfl) fun D σ H ⟨F, T, e, g, R, O, p⟩ => by
    refine ⟨F, T, e, g, R, (PostS.bind p O).imp fun s1 F1 T1 H1 e1 g1 R1 x1 ⟨O1, p1⟩ v1 o1 => ?_⟩
    refine ⟨F1, T1, e1, g1, R1, (PostS.bind p1 O1).imp fun s2 F2 T2 H2 e2 g2 R2 x2 ⟨O2, p2⟩ v2 o2 => ?_⟩
    refine ⟨by show 2 ≤ sizeLine; decide, fun q hq => ⟨q, [v1, v2], rfl, .of upd_same, rfl, v1, [v2], rfl, v2, [], rfl, rfl, ?_⟩⟩
    obtain ⟨hi', p2⟩ := PostS.put p2
    obtain ⟨hj', p2⟩ := PostS.put p2
    have xq : Ext c F2 T2 H2 F2 T2 (upd H2 q (.tup [v1, v2])) := .alloc hq
    have Rq := R2.alloc (o := .tup [v1, v2]) hq
    obtain ⟨T3, R3, t3⟩ := Rq.putSV (Hm := H1) R.base hi' (o1.ext R.base (x2.trans xq)) (o1.knownAt R.base (x2.trans xq))
    have o2' : ORes c H1 F2 T3 (upd H2 q (.tup [v1, v2])) v2 s2 := (o2.ext R1.base xq).tm fun b hb tb => by
      rcases t3 b with w | w
      · rw [w]; exact tb
      · exact absurd hb w.2.2
    obtain ⟨T4, R4, t4⟩ := R3.putSV (Hm := upd H2 q (.tup [v1, v2])) R1.base hj' o2' o2'.known
    exact p2 _ F2 T4 _ R4 (((O2.ext xq).put (fun b w => O.x.n b w) t3).put (fun b w => O1.x.n b w) t4)
end
end PV
set_option Elab.async false
set_option linter.all false
set_option maxRecDepth 100000
set_option maxHeartbeats 4000000
/-! PV16U: three or four names at once by way of the tuple. -/
namespace PV
open PySem L2 PySem.Spec PyProof.Rows
def sPar4 (i j k l : Nat) (a b c d : M SV) : S := mBind a fun x => mBind b fun y => mBind c fun z => mBind d fun u => mBind (put i x) fun _ => mBind (put j y) fun _ => mBind (put k z) fun _ => mBind (put l u) fun _ => mRet none
section
variable {X : Cx} {c : Cn} {W : WX} {x y z u : Str} {i j k l : Nat} {a b d f : Expr} {ma mb md mf : M SV} {pos px py pz pu pt pt2 : Pos} {kt k2 : Nat}
theorem ss_parT3 (hc : X.calm = true) (hN : X.N.Nodup) (hi : X.N[i]? = some x) (hj : X.N[j]? = some y) (hk : X.N[k]? = some z) (hx : L2.Loc X.env.scope x) (hy : L2.Loc X.env.scope y) (hz : L2.Loc X.env.scope z) (fx : X.fn x = true ∨ X.env.scope.names.lookup x = some .local) (fy : X.fn y = true ∨ X.env.scope.names.lookup y = some .local) (fz : X.fn z = true ∨ X.env.scope.names.lookup z = some .local)
    (ha : PE X a (tO c W ma)) (hb : PE X b (tO c W mb)) (hd : PE X d (tO c W md))
    (he : starEach [a, b, d] X.env = (false, eval a X.env) :: starEach [b, d] X.env) (he2 : starEach [b, d] X.env = (false, eval b X.env) :: starEach [d] X.env) (he3 : starEach [d] X.env = (false, eval d X.env) :: starEach [] X.env)
    (hw : swappedStores [.Tuple [.Name x px, .Name y py, .Name z pz] kt pt] (.Tuple [a, b, d] k2 pt2) X.env = pure none) (hs : swapsWithSole [.Tuple [.Name x px, .Name y py, .Name z pz] kt pt] (.Tuple [a, b, d] k2 pt2) pos.line X.env = pure false) :
    SS X c W (.Assign [.Tuple [.Name x px, .Name y py, .Name z pz] kt pt] (.Tuple [a, b, d] k2 pt2) pos) (sPar3 i j k ma mb md) := fun F0 H0 Fb =>
  psImp (ps_asg (pe_tup (pa_cons ha (pa_cons hb (pa_cons hd pa_nil he3) he2) he)) (pg_tup (n := 3) hc (pgs_cons (pg_name hN hi hx fx) (pgs_cons (pg_name hN hj hy fy) (pgs_cons (pg_name hN hk hz fz) pgs_nil rfl) rfl) rfl) rfl rfl) hs hw rfl) fun D σ H ⟨F, T, e, g, R, O, p⟩ => by
    refine ⟨F, T, e, g, R, (PostS.bind p O).imp fun s1 F1 T1 H1 e1 g1 R1 x1 ⟨O1, p1⟩ v1 o1 => ?_⟩
    refine ⟨F1, T1, e1, g1, R1, (PostS.bind p1 O1).imp fun s2 F2 T2 H2 e2 g2 R2 x2 ⟨O2, p2⟩ v2 o2 => ?_⟩
    refine ⟨F2, T2, e2, g2, R2, (PostS.bind p2 O2).imp fun s3 F3 T3 H3 e3 g3 R3 x3 ⟨O3, p3⟩ v3 o3 => ?_⟩
    refine ⟨by show 3 ≤ sizeLine; decide, fun q hq => ⟨q, [v1, v2, v3], rfl, .of upd_same, rfl, v1, [v2, v3], rfl, v2, [v3], rfl, v3, [], rfl, rfl, ?_⟩⟩
    obtain ⟨hi', p3⟩ := PostS.put p3
    obtain ⟨hj', p3⟩ := PostS.put p3
    obtain ⟨hk', p3⟩ := PostS.put p3
    have xq : Ext c F3 T3 H3 F3 T3 (upd H3 q (.tup [v1, v2, v3])) := .alloc hq
    have Rq := R3.alloc (o := .tup [v1, v2, v3]) hq
    obtain ⟨T4, R4, t4⟩ := Rq.putSV (Hm := H1) R.base hi' (o1.ext R.base (x2.trans (x3.trans xq))) (o1.knownAt R.base (x2.trans (x3.trans xq)))
    have o2' : ORes c H1 F3 T4 (upd H3 q (.tup [v1, v2, v3])) v2 s2 := (o2.ext R1.base (x3.trans xq)).tm fun b hb tb => by
      rcases t4 b with w | w
      · rw [w]; exact tb
      · exact absurd hb w.2.2
    obtain ⟨T5, R5, t5⟩ := R4.putSV (Hm := H2) R1.base hj' o2' (o2.knownAt R1.base (x3.trans xq))
    have o3' : ORes c H2 F3 T5 (upd H3 q (.tup [v1, v2, v3])) v3 s3 := (o3.ext R2.base xq).tm fun b hb tb => by
      rcases t5 b with w | w
      · rw [w]
        rcases t4 b with w | w
        · rw [w]; exact tb
        · exact absurd (x2.n b hb) w.2.2
      · exact absurd hb w.2.2
    obtain ⟨T6, R6, t6⟩ := R5.putSV (Hm := upd H3 q (.tup [v1, v2, v3])) R2.base hk' o3' o3'.known
    exact p3 _ F3 T6 _ R6 ((((O3.ext xq).put (fun b w => O.x.n b w) t4).put (fun b w => O1.x.n b w) t5).put (fun b w => O2.x.n b w) t6)
theorem ss_parT4 (hc : X.calm = true) (hN : X.N.Nodup) (hi : X.N[i]? = some x) (hj : X.N[j]? = some y) (hk : X.N[k]? = some z) (hl : X.N[l]? = some u) (hx : L2.Loc X.env.scope x) (hy : L2.Loc X.env.scope y) (hz : L2.Loc X.env.scope z) (hu : L2.Loc X.env.scope u) (fx : X.fn x = true ∨ X.env.scope.names.lookup x = some .local) (fy : X.fn y = true ∨ X.env.scope.names.lookup y = some .local) (fz : X.fn z = true ∨ X.env.scope.names.lookup z = some .local) (fu : X.fn u = true ∨ X.env.scope.names.lookup u = some .local)
    (ha : PE X a (tO c W ma)) (hb : PE X b (tO c W mb)) (hd : PE X d (tO c W md)) (hf : PE X f (tO c W mf))
    (he : starEach [a, b, d, f] X.env = (false, eval a X.env) :: starEach [b, d, f] X.env) (he2 : starEach [b, d, f] X.env = (false, eval b X.env) :: starEach [d, f] X.env) (he3 : starEach [d, f] X.env = (false, eval d X.env) :: starEach [f] X.env) (he4 : starEach [f] X.env = (false, eval f X.env) :: starEach [] X.env)
    (hw : swappedStores [.Tuple [.Name x px, .Name y py, .Name z pz, .Name u pu] kt pt] (.Tuple [a, b, d, f] k2 pt2) X.env = pure none) (hs : swapsWithSole [.Tuple [.Name x px, .Name y py, .Name z pz, .Name u pu] kt pt] (.Tuple [a, b, d, f] k2 pt2) pos.line X.env = pure false) :
    SS X c W (.Assign [.Tuple [.Name x px, .Name y py, .Name z pz, .Name u pu] kt pt] (.Tuple [a, b, d, f] k2 pt2) pos) (sPar4 i j k l ma mb md mf) := fun F0 H0 Fb =>
  psImp (ps_asg (pe_tup (pa_cons ha (pa_cons hb (pa_cons hd (pa_cons hf pa_nil he4) he3) he2) he)) (pg_tup (n := 4) hc (pgs_cons (pg_name hN hi hx fx) (pgs_cons (pg_name hN hj hy fy) (pgs_cons (pg_name hN hk hz fz) (pgs_cons (pg_name hN hl hu fu) pgs_nil rfl) rfl) rfl) rfl) rfl rfl) hs hw rfl) fun D σ H ⟨F, T, e, g, R, O, p⟩ => by
    refine ⟨F, T, e, g, R, (PostS.bind p O).imp fun s1 F1 T1 H1 e1 g1 R1 x1 ⟨O1, p1⟩ v1 o1 => ?_⟩
    refine ⟨F1, T1, e1, g1, R1, (PostS.bind p1 O1).imp fun s2 F2 T2 H2 e2 g2 R2 x2 ⟨O2, p2⟩ v2 o2 => ?_⟩
    refine ⟨F2, T2, e2, g2, R2, (PostS.bind p2 O2).imp fun s3 F3 T3 H3 e3 g3 R3 x3 ⟨O3, p3⟩ v3 o3 => ?_⟩
    refine ⟨F3, T3, e3, g3, R3, (PostS.bind p3 O3).imp fun s4 F4 T4 H4 e4 g4 R4 x4 ⟨O4, p4⟩ v4 o4 => ?_⟩
    refine ⟨by show 4 ≤ sizeLine; decide, fun q hq => ⟨q, [v1, v2, v3, v4], rfl, .of upd_same, rfl, v1, [v2, v3, v4], rfl, v2, [v3, v4], rfl, v3, [v4], rfl, v4, [], rfl, rfl, ?_⟩⟩
    obtain ⟨hi', p4⟩ := PostS.put p4
    obtain ⟨hj', p4⟩ := PostS.put p4
    obtain ⟨hk', p4⟩ := PostS.put p4
    obtain ⟨hl', p4⟩ := PostS.put p4
    have xq : Ext c F4 T4 H4 F4 T4 (upd H4 q (.tup [v1, v2, v3, v4])) := .alloc hq
    have Rq := R4.alloc (o := .tup [v1, v2, v3, v4]) hq
    obtain ⟨T5, R5, t5⟩ := Rq.putSV (Hm := H1) R.base hi' (o1.ext R.base (x2.trans (x3.trans (x4.trans xq)))) (o1.knownAt R.base (x2.trans (x3.trans (x4.trans xq))))
    have o2' : ORes c H1 F4 T5 (upd H4 q (.tup [v1, v2, v3, v4])) v2 s2 := (o2.ext R1.base (x3.trans (x4.trans xq))).tm fun b hb tb => by
      rcases t5 b with w | w
      · rw [w]; exact tb
      · exact absurd hb w.2.2
    obtain ⟨T6, R6, t6⟩ := R5.putSV (Hm := H2) R1.base hj' o2' (o2.knownAt R1.base (x3.trans (x4.trans xq)))
    have o3' : ORes c H2 F4 T6 (upd H4 q (.tup [v1, v2, v3, v4])) v3 s3 := (o3.ext R2.base (x4.trans xq)).tm fun b hb tb => by
      rcases t6 b with w | w
      · rw [w]
        rcases t5 b with w | w
        · rw [w]; exact tb
        · exact absurd (x2.n b hb) w.2.2
      · exact absurd hb w.2.2
    obtain ⟨T7, R7, t7⟩ := R6.putSV (Hm := H3) R2.base hk' o3' (o3.knownAt R2.base (x4.trans xq))
    have o4' : ORes c H3 F4 T7 (upd H4 q (.tup [v1, v2, v3, v4])) v4 s4 := (o4.ext R3.base xq).tm fun b hb tb => by
      rcases t7 b with w | w
      · rw [w]
        rcases t6 b with w | w
        · rw [w]
          rcases t5 b with w | w
          · rw [w]; exact tb
          · exact absurd (x2.n b (x3.n b hb)) w.2.2
        · exact absurd (x3.n b hb) w.2.2
      · exact absurd hb w.2.2
    obtain ⟨T8, R8, t8⟩ := R7.putSV (Hm := upd H4 q (.tup [v1, v2, v3, v4])) R3.base hl' o4' o4'.known
    exact p4 _ F4 T8 _ R8 (((((O4.ext xq).put (fun b w => O.x.n b w) t5).put (fun b w => O1.x.n b w) t6).put (fun b w => O2.x.n b w) t7).put (fun b w => O3.x.n b w) t8)
theorem swp4 {env : PySem.Env} {t1 t2 t3 t4 a b d f : Expr} {pt pt2 : Pos} {kt k2 : Nat} : swappedStores [.Tuple [t1, t2, t3, t4] kt pt] (.Tuple [a, b, d, f] k2 pt2) env = pure none := by
  unfold swappedStores
  simp
end
end PV
set_option Elab.async false
set_option linter.all false
set_option maxRecDepth 100000
set_option maxHeartbeats 4000000
/-! PV16S: sorted(t) of a tuple or a list of ints, the machine part. -/
namespace SrtO
open PySem PyProof.Rows Srt
section
variable {prog : Program} {w : World} {A : Around} {E : Value → Shared → Prop} {s : Shared}
theorem collect_tup {l : Addr} {vs : List Value} {Q : List Value → Shared → Prop} (hl : IsTup s.heap l vs.toArray)
    (h : Q vs { s with heap := (s.heap.push (seqObj "list" #[] 0)).update s.heap.objs.size (Obj.mapSeq (· ++ vs.toArray)) }) (hsz : vs.length ≤ sizeLine) :
    wpAny (model prog w) A (collect (.ref l)) Q E s := by
  obtain ⟨o, ho, hc, n, hd⟩ := id hl
  unfold collect
  refine wpAny_bind (wpAny_runValue (codeAny_builtin entry_proto_collect' ?_))
  show wpAny _ _ (do again (.builtin "list.__iadd__" ⟨[← newList [], .ref l], []⟩)) _ _ s
  refine wpAny_bind (wpAny_newList (wpAny_pure ⟨Code.quiet_builtin _ (by decide +kernel), codeAny_builtin entry_list_iadd' ?_⟩))
  show wpAny _ _ (Builtin.List.listExtendWith (.ref s.heap.objs.size) (.ref l) (.ref s.heap.objs.size)) _ _ { s with heap := s.heap.push (seqObj "list" #[] 0) }
  unfold Builtin.List.listExtendWith
  have ho' : (s.heap.push (seqObj "list" #[] 0)).get? l = some o := Heap.get?_push_of_some _ ho
  refine wpAny_bind (wpAny_typeOf (T := "tuple") ⟨o, ho', hc⟩ ?_)
  have ht : (Value.type "tuple" == Value.type "tuple") = true := by rfl
  rw [if_pos (by rw [ht]; simp)]
  refine wpAny_bind (listItems_at ho' hd ?_)
  refine wpAny_bind (listItems_at (xs := #[]) (n := 0) (Heap.get?_push_size _ rfl) rfl ?_)
  rw [if_neg (by simp)]
  refine wpAny_bind (listUpdate_at (xs := #[]) (n := 0) (Heap.get?_push_size _ rfl) rfl ?_ (Nat.zero_le _) (by show (#[] ++ vs.toArray).size ≤ sizeLine + 1; simp only [Array.size_append, List.size_toArray, List.length_nil]; omega))
  refine wpAny_pure ?_
  show wpAny (model prog w) A (do
      let o ← load s.heap.objs.size
      match o.data with
      | .seq xs _ => pure xs.toList
      | _ => unsupported "internal:collect") Q E { s with heap := (s.heap.push (seqObj "list" #[] 0)).update s.heap.objs.size (Obj.mapSeq (· ++ vs.toArray)) }
  refine wpAny_bind (wpAny_load (get?_update_seq (Heap.get?_push_size _ rfl) _) ?_)
  show wpAny _ _ (pure ((#[] : Array Value) ++ vs.toArray).toList) Q E _
  rw [show ((#[] : Array Value) ++ vs.toArray).toList = vs by simp]
  exact wpAny_pure h
theorem sorted_ordT {l : Addr} {vs : List Value} {ltv : Value → Value → Bool} {Q : Value → Shared → Prop} (O : Swo ltv) (hl : IsTup s.heap l vs.toArray) (hz : vs.length ≤ sizeLine)
    (hS : 2 ≤ vs.length → ∀ (h₁ : Heap) (a : Addr), h₁.get? a = some (seqObj "list" vs.toArray 0) → (∀ b o, s.heap.get? b = some o → b ≠ a ∧ h₁.get? b = some o) → SortableO prog w A.in1.in1 { s with heap := h₁ } a vs ltv)
    (h : ∀ out : List Value, Srtd ltv out → Stb ltv out vs → Q (.ref (s.heap.objs.size + 1)) { s with heap := sortedAll s.heap vs out.toArray }) :
    wpAny (model prog w) A (call (.builtin "sorted") [.ref l]) Q E s := by
  refine Calls.call_function_entry kind_sorted plain_sorted entry_sorted (args_sorted1 _) ?_
  unfold Builtin.«sorted»
  refine wpAny_bind (m := checkCount "sorted" 1 1 _) (wpAny_pure ?_)
  refine wpAny_bind (collect_tup hl ?_ hz)
  refine wpAny_bind (wpAny_newList ?_ hz)
  have hsz : ((s.heap.push (seqObj "list" #[] 0)).update s.heap.objs.size (Obj.mapSeq (· ++ vs.toArray))).objs.size = s.heap.objs.size + 1 := by
    rw [Heap.size_update, size_push']
  have hoL : (((s.heap.push (seqObj "list" #[] 0)).update s.heap.objs.size (Obj.mapSeq (· ++ vs.toArray))).push (seqObj "list" vs.toArray 0)).get? (s.heap.objs.size + 1) = some (seqObj "list" vs.toArray 0) := by
    rw [← hsz]; exact Heap.get?_push_size _ rfl
  have keep : ∀ b o, s.heap.get? b = some o → b ≠ s.heap.objs.size + 1 ∧ (((s.heap.push (seqObj "list" #[] 0)).update s.heap.objs.size (Obj.mapSeq (· ++ vs.toArray))).push (seqObj "list" vs.toArray 0)).get? b = some o := fun b o q => by
    have hlt : b < s.heap.objs.size := Heap.lt_size q
    refine ⟨Nat.ne_of_lt (Nat.lt_succ_of_lt hlt), Heap.get?_push_of_some _ ?_⟩
    rw [Heap.get?_update_ne _ _ _ _ (Nat.ne_of_lt hlt)]
    exact Heap.get?_push_of_some _ q
  show wpAny _ _ _ _ _ { s with heap := ((s.heap.push (seqObj "list" #[] 0)).update s.heap.objs.size (Obj.mapSeq (· ++ vs.toArray))).push (seqObj "list" vs.toArray 0) }
  rw [hsz]
  refine wpAny_bind (wpAny_holding (wpAny_call_entry slot_list_sort ⟨_, hoL, rfl⟩ entry_list_sort (list_sort_ord O hoL hz (fun h2 => hS h2 _ _ hoL keep) fun out hs hb => ⟨_, rfl, ?_⟩) (args_list_sort _)))
  exact wpAny_pure ⟨_, rfl, h out hs hb⟩
end
end SrtO
namespace PV
open PySem L2 PySem.Spec PyProof.Rows
/-- sorted(q), q a list or a tuple of ints -/
def rSortA (K : PySem.W.Frag) : List V → Hp → VK → Prop := fun vs H Q => ∃ (a : Addr) (ns : List Int), vs = [V.ref a] ∧ (SqL K H a (ns.map V.int) ∨ SqT K H a (ns.map V.int)) ∧
  ∀ (ns' : List Int) (p : Addr), ns'.Perm ns → ns'.Pairwise (· ≤ ·) → H p = none → Q (.ref p) (upd H p (.lst (ns'.map V.int)))
section
variable {X : Cx}
theorem cr_sortA : CallR X (.builtin "sorted") (rSortA X.K) := by
  intro pins s σ H vs us Q I r h
  obtain ⟨a, ns, rfl, hs | hs, q⟩ := h
  · exact cr_sortedI pins s σ H _ us Q I r ⟨a, ns, rfl, hs, q⟩
  · obtain ⟨its, rv, hl, hz⟩ := I.tuple hs
    rw [Vals.ref1 r]
    have hi := rv.ints
    refine SrtO.sorted_ordT SrtO.swo_int hl (by rw [← rv.length]; exact hz) (fun h2 h₁ a' _ _ => SrtO.ints_sortable hi h2) fun out h1 h2 => ?_
    obtain ⟨k1, k2, k3⟩ := SrtO.ints_out hi h1 h2
    obtain ⟨ep, he'⟩ := PyProof.Rows.sortedAll_at s.heap its out.toArray
    have hlen : ((out.map SrtO.iv).map V.int).length ≤ sizeLine := by
      rw [List.length_map, k2.length_eq]
      rw [List.length_map] at hz
      exact hz
    exact ⟨.ref _, upd H (s.heap.objs.size + 1) (.lst ((out.map SrtO.iv).map V.int)), I.laid (t' := s.toks) (fun _ _ => PyProof.Rows.sortedAll_old) (Nat.le_succ _) ⟨hlen, out, ep, vals_of_ints k1, he'⟩, rfl, q _ _ k2 k3 (I.hok.fresh (Nat.le_succ _))⟩
end
/-! ### the sorted list -/
def insL (x : Int) : List Int → List Int
  | [] => [x]
  | y :: ys => if x ≤ y then x :: y :: ys else y :: insL x ys
def sortL : List Int → List Int
  | [] => []
  | x :: xs => insL x (sortL xs)
theorem insL_perm (x : Int) : ∀ ys : List Int, (insL x ys).Perm (x :: ys)
  | [] => .refl _
  | y :: ys => by
    unfold insL
    split
    · exact .refl _
    · exact ((insL_perm x ys).cons y).trans (.swap x y ys)
theorem sortL_perm : ∀ xs : List Int, (sortL xs).Perm xs
  | [] => .refl _
  | x :: xs => (insL_perm x (sortL xs)).trans ((sortL_perm xs).cons x)
theorem insL_sorted (x : Int) : ∀ {ys : List Int}, ys.Pairwise (· ≤ ·) → (insL x ys).Pairwise (· ≤ ·)
  | [], _ => by unfold insL; simp
  | y :: ys, h => by
    rw [List.pairwise_cons] at h
    unfold insL
    split
    · rename_i hx
      rw [List.pairwise_cons, List.pairwise_cons]
      refine ⟨fun z hz => ?_, h⟩
      rcases List.mem_cons.mp hz with hz | hz
      · omega
      · have := h.1 z hz; omega
    · rename_i hx
      rw [List.pairwise_cons]
      refine ⟨fun z hz => ?_, insL_sorted x h.2⟩
      rcases List.mem_cons.mp ((insL_perm x ys).mem_iff.mp hz) with hz | hz
      · omega
      · exact h.1 z hz
theorem sortL_sorted : ∀ xs : List Int, (sortL xs).Pairwise (· ≤ ·)
  | [] => .nil
  | x :: xs => insL_sorted x (sortL_sorted xs)
theorem sorted_uniq : ∀ {xs ys : List Int}, xs.Perm ys → xs.Pairwise (· ≤ ·) → ys.Pairwise (· ≤ ·) → xs = ys
  | [], ys, h, _, _ => by rw [List.nil_perm.mp h]
  | x :: xs, [], h, _, _ => by have := h.length_eq; simp at this
  | x :: xs, y :: ys, h, h1, h2 => by
    have a1 : x ∈ y :: ys := h.mem_iff.mp List.mem_cons_self
    have a2 : y ∈ x :: xs := h.mem_iff.mpr List.mem_cons_self
    rw [List.pairwise_cons] at h1 h2
    have b1 : y ≤ x := by
      rcases List.mem_cons.mp a1 with q | q
      · omega
      · exact h2.1 x q
    have b2 : x ≤ y := by
      rcases List.mem_cons.mp a2 with q | q
      · omega
      · exact h1.1 y q
    have e : x = y := by omega
    subst e
    rw [sorted_uniq h.cons_inv h1.2 h2.2]
def opSort : SV → Option SV := fun a => (a.seq.bind D.ints).map fun ns => .own ((sortL ns).map D.int)
theorem br_sort {c : Cn} {K : PySem.W.Frag} : BiRun c K (fun ss => match ss with
  | [a] => opSort a
  | _ => none) (rSortA K) := fun {W F T e g σ H H0 vs ss sv Q} R n p h q => by
  match ss, h with
  | [a], h =>
    obtain ⟨v, rfl, p1⟩ := p.one
    have h' : (a.seq.bind D.ints).map (fun ns => SV.own ((sortL ns).map D.int)) = some sv := h
    cases e1 : a.seq.bind D.ints with
    | none => rw [e1] at h'; cases h'
    | some ns =>
      rw [e1] at h'
      cases h'
      obtain ⟨b, rfl, k⟩ := ints_seq (K := K) R p1 e1
      refine ⟨b, ns, rfl, k, fun ns' l h1 h2 hl => ?_⟩
      have e2 := sorted_uniq (h1.trans (sortL_perm ns).symm) h2 (sortL_sorted ns)
      subst e2
      exact wishL R n q Reps.ints hl
  | [], h => cases h
  | _ :: _ :: _, h => cases h
end PV
set_option Elab.async false
set_option linter.all false
set_option maxRecDepth 100000
set_option maxHeartbeats 4000000
/-! PV17: facts of the text's form; the built-ins in one table. -/
namespace PV
open PySem L2 PySem.Spec PyProof.Rows

/-! ### the text's form -/
def noStar : Expr → Bool
  | .Starred _ _ => false
  | _ => true
theorem star_cons {e : Expr} {es : List Expr} {env : PySem.Env} (h : noStar e = true) : starEach (e :: es) env = (false, eval e env) :: starEach es env := by
  cases e <;> first | rfl | cases h
theorem star_none {es : List Expr} {env : PySem.Env} {pos : Pos} : es.all noStar = true → (backTo pos (starEach es env)).any (·.1) = false := by
  induction es with
  | nil => intro _; rfl
  | cons e es ih =>
    intro h
    rw [List.all_cons, Bool.and_eq_true] at h
    rw [star_cons h.1]
    have := ih h.2
    unfold backTo at this ⊢
    rw [List.map_cons, List.any_cons, this]
    rfl
def plainIx : Expr → Bool
  | .Slice _ _ _ _ => false
  | _ => true
theorem plain_ix {b : Expr} (h : plainIx b = true) : PlainIx b := by
  intro o i
  cases b <;> first | rfl | cases h
def plainBase : Expr → Bool
  | .Call _ (_ :: _) _ _ => true
  | .Call _ _ _ _ => false
  | _ => true
theorem plain_base {o : Expr} {a : Str} {env : PySem.Env} (h : plainBase o = true) : attributeBase o a env (eval o env) = eval o env := by
  cases o with
  | Call f as ks p => cases as with
    | nil => cases h
    | cons a as => cases f <;> rfl
  | _ => first | rfl | cases h
def noSet : Expr → Bool
  | .Set _ _ _ => false
  | _ => true
theorem no_set {e : Expr} {env : PySem.Env} (h : noSet e = true) : ∀ x, foldedSetIterable e env x = pure x := by
  intro x
  cases e <;> first | rfl | cases h
theorem no_marks {e : Expr} {op : CmpOp} (h : noSet e = true) : behindInMarks op e = false := by
  cases e <;> first | rfl | cases h
theorem few_args {X : Cx} {o : Expr} {a : Expr} {name : Str} {apos cpos : Pos} (h1 : plainBase o = true) (h2 : noStar a = true) (h3 : (apos.endLine == cpos.line) = true) : BmOk X o [a] name apos cpos := by
  refine ⟨plain_base h1, ?_, h3⟩
  rw [star_cons h2]
  rfl
def plainTest : Expr → Bool
  | .UnaryOp .Not _ _ => false
  | .BoolOp _ _ _ => false
  | .IfExp _ _ _ _ => false
  | .Compare _ _ _ _ => false
  | _ => true
theorem plain_test {e : Expr} {env : PySem.Env} (h : plainTest e = true) : ∀ whole, isTrue e env whole = (do let v ← whole; standAt e.pos; holding [v] (truthy v)) := by
  intro whole
  cases e with
  | UnaryOp op a p => cases op <;> first | rfl | cases h
  | _ => first | rfl | cases h
def noComp : Expr → Bool
  | .ListComp _ _ _ _ => false
  | .SetComp _ _ _ _ => false
  | .DictComp _ _ _ _ _ => false
  | _ => true
theorem no_comp {e : Expr} {t : Option Expr} {l : Nat} {env : PySem.Env} (h : noComp e = true) : swapsWith e t l env = pure false := by
  cases e <;> first | rfl | cases h
theorem no_comp1 {e t : Expr} {l : Nat} {env : PySem.Env} (h : noComp e = true) : swapsWithSole [t] e l env = pure false := no_comp h

/-! ### the built-ins -/
inductive Bn where
  | len | sum | max | min | max2 | min2 | abs | all | any | tuple | list | str | int | sorted
  deriving DecidableEq
def lenOf : SV → Option SV
  | .dat (.str x) => if x.length ≤ line then some (.dat (.int x.length)) else none
  | .owns dss => some (.dat (.int dss.length))
  | a => (a.seq).map fun ds => .dat (.int ds.length)
def opBn : Bn → List SV → Option SV
  | .len, [a] => lenOf a
  | .sum, xs => opBi .sum xs
  | .max, xs => opBi .max xs
  | .min, xs => opBi .min xs
  | .max2, xs => opBi .max2 xs
  | .min2, xs => opBi .min2 xs
  | .abs, xs => opBi .abs xs
  | .all, xs => opBi .all xs
  | .any, xs => opBi .any xs
  | .tuple, xs => opBi .tuple xs
  | .list, xs => opBi .list xs
  | .str, xs => opBi .str xs
  | .int, xs => opBi .int xs
  | .sorted, xs => match xs with
    | [a] => opSort a
    | _ => none
  | _, _ => none
def Bn.name : Bn → Str
  | .len => "len" | .sum => "sum" | .max => "max" | .min => "min" | .max2 => "max" | .min2 => "min" | .abs => "abs" | .all => "all" | .any => "any" | .tuple => "tuple" | .list => "list" | .str => "str" | .int => "int" | .sorted => "sorted"
def mBn (b : Bn) (ms : List (M SV)) : M SV := mBind (mAll ms) fun xs => mOpt (opBn b xs)
section
variable {c : Cn} {K : PySem.W.Frag}
theorem br_len : BiRun c K (opBn .len) (fun xs H Q => ∃ x n, xs = [x] ∧ LenV K x H n ∧ Q (.int n) H) := fun {W F T e g σ H H0 vs ss sv Q} R n p h q => by
  match ss, h with
  | [a], h =>
    obtain ⟨v, rfl, p1⟩ := p.one
    have h' : lenOf a = some sv := h
    have viaSeq : (a.seq).map (fun ds => SV.dat (.int (ds.length : Nat))) = some sv → ∃ x n, [v] = [x] ∧ LenV K x H n ∧ Q (.int n) H := fun h' => by
      cases e1 : a.seq with
      | none => rw [e1] at h'; cases h'
      | some ds =>
        rw [e1] at h'
        cases h'
        obtain ⟨b, xs, rfl, k, r⟩ := p1.seqAt R.base e1
        refine ⟨.ref b, ds.length, rfl, ?_, wishD R q (.int _)⟩
        rcases k with k | k
        · exact .inl ⟨xs, .of k, r.length.symm⟩
        · exact .inr ⟨xs, .of k, r.length.symm⟩
    cases a with
    | dat d =>
      cases d with
      | str x =>
        have h2 : (if x.length ≤ line then some (SV.dat (.int (x.length : Nat))) else none) = some sv := h'
        split at h2
        · rename_i hl
          cases h2
          obtain ⟨⟩ := p1
          exact ⟨_, x.length, rfl, ⟨line_size hl, rfl⟩, wishD R q (.int _)⟩
        · cases h2
      | _ => exact viaSeq h'
    | owns dss =>
      cases h'
      obtain ⟨b, as, rfl, _, _, k, l, _⟩ := p1
      exact ⟨.ref b, dss.length, rfl, .inl ⟨_, .of k, by simp [l]⟩, wishD R q (.int _)⟩
    | _ => exact viaSeq h'
  | [], h => cases h
  | _ :: _ :: _, h => cases h
end
section
variable {X : Cx} {c : Cn} {W : WX} {p pos : Pos} {a : Expr} {es : List Expr} {ms : List (M SV)}
theorem call_tupA : CallR X (.type "tuple") (rTupA X.K) := by
  intro pins s σ H xs us Q I r h
  obtain ⟨q, ys, rfl, h⟩ := h
  obtain ⟨u, rfl, rx⟩ := vals1 r
  refine rl_tuple pins s σ H _ u Q I rx ?_
  rcases h with ⟨h1, h2⟩ | ⟨h1, h2⟩
  · exact .inl ⟨q, ys, rfl, h1, h2⟩
  · exact .inr ⟨q, ys, rfl, h1, h2⟩
theorem se_bn (b : Bn) (hc : X.calm = true) (hu : X.A.units + 65 < cLine) (hg : Gl X b.name) (hm : X.mg b.name = none) (ha : PA X (a :: es) (tAP c W (mAll ms))) (he : starEach (a :: es) X.env = (false, eval a X.env) :: starEach es X.env) (hpl : (backTo pos (starEach es X.env)).any (·.1) = false) :
    PE X (.Call (.Name b.name p) (a :: es) [] pos) (tO c W (mBn b ms)) := by
  cases b with
  | len => exact se_callB call_len br_len hg hm (by decide +kernel) ha (by decide +kernel) (by decide +kernel) he hpl
  | sum => exact se_callB (f := opBn .sum) (cr_sumA hc) br_sum hg hm (by decide +kernel) ha (by decide +kernel) (by decide +kernel) he hpl
  | max => exact se_callB (f := opBn .max) (cr_maxA hc hu) br_max hg hm (by decide +kernel) ha (by decide +kernel) (by decide +kernel) he hpl
  | min => exact se_callB (f := opBn .min) (cr_minA hc hu) br_min hg hm (by decide +kernel) ha (by decide +kernel) (by decide +kernel) he hpl
  | max2 => exact se_callB (f := opBn .max2) (call_max2 hc) (br_max2 (K := X.K)) hg hm (by decide +kernel) ha (by decide +kernel) (by decide +kernel) he hpl
  | min2 => exact se_callB (f := opBn .min2) (call_min2 hc) (br_min2 (K := X.K)) hg hm (by decide +kernel) ha (by decide +kernel) (by decide +kernel) he hpl
  | abs => exact se_callB (f := opBn .abs) call_abs (br_abs (K := X.K)) hg hm (by decide +kernel) ha (by decide +kernel) (by decide +kernel) he hpl
  | all => exact se_callB (f := opBn .all) (cr_all hc) br_all hg hm (by decide +kernel) ha (by decide +kernel) (by decide +kernel) he hpl
  | any => exact se_callB (f := opBn .any) (cr_any hc) br_any hg hm (by decide +kernel) ha (by decide +kernel) (by decide +kernel) he hpl
  | tuple => exact se_callT (f := opBn .tuple) call_tupA br_tuple hg hm (by decide +kernel) ha (by decide +kernel) (by decide +kernel) he hpl
  | list => exact se_callT (f := opBn .list) call_list_of br_list hg hm (by decide +kernel) ha (by decide +kernel) (by decide +kernel) he hpl
  | str => exact se_callT (f := opBn .str) call_str_int (br_str (K := X.K)) hg hm (by decide +kernel) ha (by decide +kernel) (by decide +kernel) he hpl
  | sorted => exact se_callB (f := opBn .sorted) cr_sortA br_sort hg hm (by decide +kernel) ha (by decide +kernel) (by decide +kernel) he hpl
  | int => exact se_callT (f := opBn .int) (call_int1.or call_int_str) (br_int (K := X.K)) hg hm (by decide +kernel) ha (by decide +kernel) (by decide +kernel) he hpl
end
end PV
set_option Elab.async false
set_option linter.all false
set_option maxRecDepth 100000
set_option maxHeartbeats 4000000
/-! PV15N: a look that leaves no trace; a list goes over to a list of lists. -/
namespace PV
open PySem L2 PySem.Spec PyProof.Rows

/-- data without a place in the heap -/
def D.flat : D → Bool
  | .int _ => true
  | .bl _ => true
  | .non => true
  | .str _ => true
  | _ => false
/-- a value without a place in the heap: names are as before -/
def mPeek (m : M SV) : M SV := fun e g => match m e g with
  | .ok (.dat d) _ g' => if d.flat then .ok (.dat d) e g' else .stuck
  | _ => .stuck
theorem Rel.back {c : Cn} {F F' H H' : Hp} {T T' : Tm} {e e' : Env} {g g' : Rng} {σ : L2.St} (R : Rel c F T e g σ H) (R' : Rel c F' T' e' g' σ H') (x : Ext c F T H F' T' H') : Rel c F T e g' σ H' where
  base := ⟨fun a o q => x.h a o (fun z => by subst z; rw [R.base.FL] at q; cases q) (fun z => by subst z; rw [R.base.FC] at q; cases q) (R.base.sub a o q), R'.base.hL, R'.base.hC, R.base.ne, R.base.FL, R.base.FC⟩
  TL := R.TL
  TC := R.TC
  dom := fun a i q => ⟨fun z => (R.dom a i q).1 (x.n a z), (R.dom a i q).2⟩
  len := R.len
  slot := fun i sv q => by
    obtain ⟨v, h1, h2⟩ := R.slot i sv q
    exact ⟨v, h1, h2.mono (Sub.refl _) (fun _ z => z) fun a o t z => x.h a o (R.tneL t).1 (R.tneL t).2 z⟩
theorem Rep.flat {c : Cn} {F F' : Hp} {v : V} {d : D} (h : Rep c F v d) (hd : d.flat = true) : Rep c F' v d := by
  cases h <;> first | (cases hd; done) | constructor
theorem se_peek {X : Cx} {c : Cn} {W : WX} {e : Expr} {m : M SV} (h : PE X e (tO c W m)) : PE X e (tO c W (mPeek m)) := peImp h fun σ H Q ⟨F, T, en, g, R, p⟩ => by
  refine ⟨F, T, en, g, R, ?_⟩
  unfold mPeek at p
  cases q : m en g with
  | stuck => rw [q] at p; exact p
  | exc x e1 g1 => rw [q] at p; exact p.elim
  | ok sv e1 g1 =>
    rw [q] at p
    cases sv with
    | dat d =>
      dsimp only at p
      by_cases hd : d.flat = true
      · rw [if_pos hd] at p
        intro F1 T1 H1 R1 x1 v o
        have o : Rep c F1 v d := o
        exact p F T H1 (R.back R1 x1) ⟨Sub.refl _, x1.h, x1.n, fun _ _ z => .inl z, fun _ _ z => z⟩ v (o.flat hd)
      · rw [if_neg hd] at p; exact p.elim
    | _ => exact p.elim
/-- the lists of a list of lists; a list without items is one -/
def SV.rows : SV → Option (List (List D))
  | .owns dss => some dss
  | .own [] => some []
  | _ => none
/-- l.append(r), r's own list goes over to the list of lists l -/
def sAppW (i j : Nat) : S := fun e g => match e[i]?, e[j]? with
  | some (some sv), some (some (.own ds)) => match sv.rows with
    | some dss => if dss.length < line ∧ i ≠ j ∧ i < e.length then .ok none ((e.set j none).set i (some (.owns (dss ++ [ds])))) g else .stuck
    | none => .stuck
  | _, _ => .stuck
section
variable {X : Cx} {c : Cn} {W : WX} {i j : Nat} {x y : Str} {vpos apos cpos py pos : Pos}
theorem Rel.rows {F H : Hp} {T : Tm} {e : Env} {g : Rng} {σ : L2.St} (R : Rel c F T e g σ H) {sv : SV} {dss : List (List D)} (q : e[i]? = some (some sv)) (hr : sv.rows = some dss) : ∃ (a : Addr) (as : List Addr), σ[i]? = some (some (.ref a)) ∧ T a = some i ∧ H a = some (.lst (as.map V.ref)) ∧ (a :: as).Nodup ∧ as.length = dss.length ∧
      ∀ (j : Nat) b ds, as[j]? = some b → dss[j]? = some ds → T b = some i ∧ ∃ xs, H b = some (.lst xs) ∧ Reps c F xs ds := by
  obtain ⟨v, h1, h2⟩ := R.slot i _ q
  unfold SV.rows at hr
  split at hr
  · cases hr
    obtain ⟨a, as, rfl, r⟩ := h2
    exact ⟨a, as, h1, r⟩
  · cases hr
    obtain ⟨a, xs, rfl, t, k, r⟩ := h2
    cases r
    exact ⟨a, [], h1, t, k, by simp, rfl, fun j b ds z => by simp at z⟩
  · cases hr
theorem ss_appO (n : Nm X i x) (n2 : Nm X j y)
    (B : BmOk X (.Name x vpos) [.Name y py] "append" apos cpos) (hs : swapsWith (.Call (.Attribute (.Name x vpos) "append" apos) [.Name y py] [] cpos) none pos.line X.env = pure false) : SS X c W (.Expr (.Call (.Attribute (.Name x vpos) "append" apos) [.Name y py] [] cpos) pos) (sAppW i j) := fun F0 H0 Fb =>
  psImp (ps_expr (pe_bm PySem.F.plainAttrs_list PySem.F.slot_list_append PySem.F.type_list_append mt_append (pe_var n.hN n.hv n.hd n.hcd) (pa_cons (pe_var n2.hN n2.hv n2.hd n2.hcd) pa_nil (star_cons rfl)) B.hab B.hfew B.hline (star_cons rfl) (star_none rfl)) hs) fun D σ H ⟨F, T, e, g, R, O, p⟩ => by
    unfold sAppW at p
    split at p
    · rename_i sv ds q1 q2
      split at p
      · rename_i dss hr
        split at p
        · rename_i hc
          obtain ⟨hl, hij, hi⟩ := hc
          obtain ⟨l, as, h1, t, k, nd, hlen, r⟩ := R.rows q1 hr
          obtain ⟨b, xs, h2, tb, kb, rb, _⟩ := R.mut q2
          have hbl : b ≠ l := by rintro rfl; rw [t] at tb; exact hij (Option.some.inj tb)
          obtain ⟨nL, nC⟩ := R.tneL t
          have fa := (R.dom l i t).2
          refine ⟨.ref l, h1, .inl ⟨rfl, _, .of k⟩, .ref b, h2, l, _, .ref b, rfl, rfl, k, line_size (n := (as.map V.ref).length + 1) (by rw [List.length_map]; omega), p σ F (fun a => if T a = some j then some i else T a) _ ⟨⟨fun a o z => by rw [upd_ne (by rintro rfl; rw [fa] at z; cases z)]; exact R.base.sub a o z, by rw [upd_ne (Ne.symm nL)]; exact R.base.hL, by rw [upd_ne (Ne.symm nC)]; exact R.base.hC, R.base.ne, R.base.FL, R.base.FC⟩, by show (if T c.L = some j then some i else T c.L) = none; rw [R.TL, if_neg (by simp)], by show (if T c.C = some j then some i else T c.C) = none; rw [R.TC, if_neg (by simp)], fun a m z => ?_, by simp [R.len], fun m sv' z => ?_⟩ ⟨(O.mut t).x, fun a m z => ?_, O.b⟩⟩
          · have hne : ∀ m, T a = some m → upd H l (.lst (as.map V.ref ++ [.ref b])) a ≠ none ∧ F a = none := fun m w => ⟨by
              by_cases q : a = l
              · subst q; rw [upd_same]; simp
              · rw [upd_ne q]; exact (R.dom a m w).1, (R.dom a m w).2⟩
            by_cases w : T a = some j
            · exact hne j w
            · have z : (if T a = some j then some i else T a) = some m := z
              rw [if_neg w] at z
              exact hne m z
          · by_cases hm : m = i
            · subst hm
              rw [List.getElem?_set_self (by simpa using hi)] at z
              cases z
              have keep : ∀ {a o}, T a = some m → a ≠ l → H a = some o → (if T a = some j then some m else T a) = some m ∧ upd H l (.lst (as.map V.ref ++ [.ref b])) a = some o := fun {a o} w1 w2 w3 => ⟨by rw [w1]; split <;> rfl, by rw [upd_ne w2]; exact w3⟩
              have hnm : ∀ {b'}, b' ∈ as → T b' = some m := fun {b'} hb' => by
                obtain ⟨q, hq⟩ := List.mem_iff_getElem?.mp hb'
                have hlt := (List.getElem?_eq_some_iff.mp hq).1
                exact (r q b' dss[q] hq (List.getElem?_eq_getElem (by omega))).1
              refine ⟨.ref l, h1, l, as ++ [b], rfl, by show (if T l = some j then some m else T l) = some m; rw [t]; split <;> rfl, by rw [upd_same, List.map_append]; rfl, ?_, by simp [hlen], fun q b' ds' w1 w2 => ?_⟩
              · rw [List.nodup_cons] at nd ⊢
                refine ⟨by simp [nd.1, Ne.symm hbl], ?_⟩
                rw [List.nodup_append]
                refine ⟨nd.2, by simp, fun u hu w hw => ?_⟩
                rw [List.mem_singleton] at hw
                subst hw
                rintro rfl
                have := hnm hu
                rw [tb] at this
                exact hij (Option.some.inj this).symm
              · by_cases hq : q < as.length
                · rw [List.getElem?_append_left hq] at w1
                  rw [List.getElem?_append_left (by omega)] at w2
                  obtain ⟨z1, ys, z2, z3⟩ := r q b' ds' w1 w2
                  have hbn : b' ≠ l := by
                    rintro rfl
                    exact (List.nodup_cons.mp nd).1 (List.mem_of_getElem? w1)
                  obtain ⟨k1, k2⟩ := keep z1 hbn z2
                  exact ⟨k1, ys, k2, z3⟩
                · rw [List.getElem?_append_right (by omega)] at w1 w2
                  have e0 : q - as.length = 0 := by
                    have := (List.getElem?_eq_some_iff.mp w1).1
                    simp at this
                    omega
                  rw [e0] at w1
                  rw [show q - dss.length = 0 by omega] at w2
                  cases w1
                  cases w2
                  exact ⟨by show (if T b = some j then some m else T b) = some m; rw [if_pos tb], xs, by rw [upd_ne hbl]; exact kb, rb⟩
            · rw [List.getElem?_set_ne (Ne.symm hm)] at z
              by_cases hmj : m = j
              · subst hmj
                rw [List.getElem?_set_self'] at z
                cases w : e[m]? with
                | none => rw [w] at z; cases z
                | some _ => rw [w] at z; cases z
              · rw [List.getElem?_set_ne (Ne.symm hmj)] at z
                obtain ⟨w, k1, k2⟩ := R.slot m sv' z
                exact ⟨w, k1, k2.mono (Sub.refl _) (fun a ta => by
                  show (if T a = some j then some i else T a) = some m
                  rw [if_neg (by rw [ta]; intro w; exact hmj (Option.some.inj w))]; exact ta) fun a o ta w => by
                  rw [upd_ne (by rintro rfl; rw [t] at ta; exact hm (Option.some.inj ta).symm)]; exact w⟩
          · have z : (if T a = some j then some i else T a) = some m := z
            by_cases w : T a = some j
            · exact O.y a j w
            · rw [if_neg w] at z; exact O.y a m z
        · exact (show False from p).elim
      · exact (show False from p).elim
    · exact (show False from p).elim
end
end PV
set_option Elab.async false
set_option linter.all false
set_option maxRecDepth 100000
set_option maxHeartbeats 4000000
/-! PV17M: a model is made. -/
namespace PV
open PySem L2 PySem.Spec PyProof.Rows

mutual
/-- data without addresses of the text -/
def D.pl : D → Bool
  | .tup ds => D.pls ds
  | .lst ds => D.pls ds
  | .mdl t => D.pl t
  | .hnd => false
  | .fn _ => false
  | .exc _ _ => false
  | _ => true
def D.pls : List D → Bool
  | [] => true
  | d :: ds => D.pl d && D.pls ds
end
def Exn.pl (x : Exn) : Bool := decide (x.c ≠ ("self" : Str)) && D.pls (x.fs.map (·.2))
/-- what __init__ does ahead of its store, and what it stores then -/
def runInit (n : Nat) (b : S) : SemF := fun ds g => match b (some (.dat (.fn "self")) :: (ds.map (fun d => some (.dat d)) ++ List.replicate (n - (ds.length + 1)) none)) g with
  | .ok none e g' => match e with
    | some (.dat (.fn x)) :: some (.dat d) :: _ => if x = ("self" : Str) then .ok (.dat d) g' else .stuck
    | _ => .stuck
  | .exc x _ g' => .exc x g'
  | _ => .stuck
/-- Model(d) -/
def mMake (f : SemF) (m : M D) : M SV := mBind m fun d => fun e g => if d.pl then match f [d] g with
    | .ok (.dat d') g' => if d'.pl then .ok (.dat (.mdl d')) e g' else .stuck
    | .exc x g' => if x.pl then .exc x e g' else .stuck
    | _ => .stuck
  else .stuck
def spMk (c : Cn) (f : SemF) : Sp := fun vs H Q E => ∃ x dx v F d g, vs = [.ref x, v] ∧ H x = some (.ins c.Md dx []) ∧ F x = none ∧ x ≠ c.L ∧ x ≠ c.C ∧ Base c F g H ∧ Rep c F v d ∧ d.pl = true ∧ match f [d] g with
  | .ok (.dat d') g' => d'.pl = true ∧ ∀ v' F' H', Base c F' g' H' → ExtF c F H F' H' → F' x = none → H' x = some (.ins c.Md dx []) → Rep c F' v' d' → Q .non (upd H' x (.ins c.Md dx [("rows", v')]))
  | .exc e g' => e.pl = true ∧ ∀ cls dd F' H', Base c F' g' H' → ExtF c F H F' H' → XRep c F' H' e cls dd → E cls dd H'
  | _ => False
/-- where the new instance stands, as a name -/
def Cn.self (c : Cn) (x : Addr) : Cn := { c with fa := fun s => if s = ("self" : Str) then some x else c.fa s }
section
variable {c : Cn} {F : Hp}
mutual
theorem Rep.plTo {c' : Cn} (hM : c'.Md = c.Md) : ∀ {d : D} {v : V}, d.pl = true → Rep c F v d → Rep c' F v d
  | _, _, _, .non => .non
  | _, _, _, .bl b => .bl b
  | _, _, _, .int i => .int i
  | _, _, _, .str x => .str x
  | _, _, p, .tup h r => .tup h (Reps.plTo hM (by unfold D.pl at p; exact p) r)
  | _, _, p, .lst h r => .lst h (Reps.plTo hM (by unfold D.pl at p; exact p) r)
  | _, _, p, .mdl h r => .mdl (by rw [hM]; exact h) (Rep.plTo hM (by unfold D.pl at p; exact p) r)
  | _, _, p, .hnd => by unfold D.pl at p; cases p
  | _, _, p, .fn h => by unfold D.pl at p; cases p
theorem Reps.plTo {c' : Cn} (hM : c'.Md = c.Md) : ∀ {ds : List D} {vs : List V}, D.pls ds = true → Reps c F vs ds → Reps c' F vs ds
  | _, _, _, .nil => .nil
  | _, _, p, .cons r rs => by
    unfold D.pls at p
    rw [Bool.and_eq_true] at p
    exact .cons (Rep.plTo hM p.1 r) (Reps.plTo hM p.2 rs)
end
theorem Base.self {g : Rng} {H : Hp} {x : Addr} (b : Base c F g H) : Base (c.self x) F g H := ⟨b.sub, b.hL, b.hC, b.ne, b.FL, b.FC⟩
theorem Base.unself {g : Rng} {H : Hp} {x : Addr} (b : Base (c.self x) F g H) : Base c F g H := ⟨b.sub, b.hL, b.hC, b.ne, b.FL, b.FC⟩
theorem ExtF.unself {F' H H' : Hp} {x : Addr} (b : ExtF (c.self x) F H F' H') : ExtF c F H F' H' := ⟨b.f, b.h, b.n, b.g⟩
theorem XRep.unself {H : Hp} {x : Addr} {e : Exn} {cls : Value} {d : Option Addr} (hp : e.pl = true) (h : XRep (c.self x) F H e cls d) : XRep c F H e cls d := by
  unfold Exn.pl at hp
  rw [Bool.and_eq_true, decide_eq_true_eq] at hp
  obtain ⟨f, h1, h2, h3⟩ := h
  refine ⟨f, ?_, h2, ?_⟩
  · have h1 : (if e.c = ("self" : Str) then some x else c.fa e.c) = some f := h1
    rw [if_neg hp.1] at h1; exact h1
  · rcases h3 with h3 | ⟨q0, dd, fs, q1, q2, q3, q4, q5⟩
    · exact .inl h3
    · exact .inr ⟨q0, dd, fs, q1, q2, q3, q4, q5.plTo (c := c.self x) (c' := c) rfl hp.2⟩
end

/-! ### the call Model(d) -/
section
variable {X : Cx} {CX : CXT} {k : Nat} {f C : Addr} {fd : FuncData} {ps : List Str} {sp : Sp} {E : L2.St → XK} {x : Str} {p pos : Pos} {e : Expr} {es : List Expr} {t : TA}
theorem run_makeS {pins : List (Addr × Obj)} {σ : L2.St} {H : Hp} {s : Shared} {Q : VK} {us : List Value} {vs : List V} (M : Mk X.K C f) (F : FnOk X.prog X.w X.K X.mg X.base CX k f fd ps sp) (hr : Room (k + 1) X.A) (hb : Binds X.K fd ps [])
    (hx : PassesAt CX X σ (E σ)) (I : Inv X pins σ H s) (r : Vals vs us)
    (h : ∀ x dx, H x = none → H dx = none → dx ≠ x → sp (.ref x :: vs) (upd (upd H dx (.own x)) x (.ins C dx [])) (fun v H2 => v = .non ∧ Q (.ref x) H2) (E σ)) :
    wpAny (model X.prog X.w) X.A (call (.ref C) us) (EP X pins σ Q) X.xe s := by
  have hq := h (s.heap.objs.size + 1) s.heap.objs.size (I.hok.fresh (Nat.le_succ _)) (I.hok.fresh (Nat.le_refl _)) (Nat.ne_of_lt (Nat.lt_succ_self _))
  have I2 := Inv.made (C := C) I
  have r2 : Vals (V.ref (s.heap.objs.size + 1) :: vs) (Value.ref (s.heap.objs.size + 1) :: us) := .cons rfl r
  have hl : (Value.ref (s.heap.objs.size + 1) :: us).length = ps.length := by
    have e := r2.length
    rw [F.len _ _ _ _ hq] at e
    exact e.symm
  refine wpAny_call (make_map (f := f) I.kIn M.makes M.init (beq_iff_eq.mp M.fn) (codeAny_mono (F.run _ X.stack _ _ ⟨Value.ref (s.heap.objs.size + 1) :: us, []⟩ (Value.ref (s.heap.objs.size + 1) :: us) _ _ (E σ) (hr.make C us [])
    (I2.env0.make C us []) (by
      have := hb _ (Value.ref (s.heap.objs.size + 1) :: us) I2.kIn (by rw [List.append_nil]; exact hl)
      rw [List.append_nil] at this
      exact this) r2 hq) fun r s' hq' => ?_))
  cases r with
  | error e => exact hx pins _ _ e s' I2 hq'
  | ok fl =>
    cases fl with
    | ret u =>
      obtain ⟨v, H', I3, rv, ev, q3⟩ := I2.after hq'
      subst ev
      exact ⟨rv, ⟨V.ref (s.heap.objs.size + 1), H', I3, rfl, q3⟩⟩
    | next => exact False.elim hq'
    | brk => exact False.elim hq'
    | cont => exact False.elim hq'
def tMakeS (C : Addr) (sp : Sp) (E : L2.St → XK) (t : TA) : TE := fun σ H Q => t σ H fun vs H1 => ∀ x dx, H1 x = none → H1 dx = none → dx ≠ x → sp (.ref x :: vs) (upd (upd H1 dx (.own x)) x (.ins C dx [])) (fun v H2 => v = .non ∧ Q (.ref x) H2) (E σ)
theorem pe_makeS (M : Mk X.K C f) (F : FnOk X.prog X.w X.K X.mg X.base CX k f fd ps sp) (hr : Room (k + 1) X.A) (hg : Gl X x) (hm : X.mg x = some (.ref C)) (hb : Binds X.K fd ps []) (hx : ∀ σ, PassesAt CX X σ (E σ))
    (ha : PA X (e :: es) t) (hdb : (x == ("__debug__" : Str)) = false) (he : starEach (e :: es) X.env = (false, eval e X.env) :: starEach es X.env) (hpl : (backTo pos (starEach es X.env)).any (·.1) = false) :
    PE X (.Call (.Name x p) (e :: es) [] pos) (tMakeS C sp E t) := by
  refine ⟨fun pins s σ H Q I h => ?_⟩
  refine wpAny_Call_Name_kw (ld_glob I hg hm ?_ hdb)
  refine PySem.W.callWith_K (h₀ := X.base) I.ok.mod.kin M.kp (thn (ha.run pos pins s σ H _ I h) fun us s1 ⟨vs, H1, I1, r, q⟩ => ⟨I1.kIn, ?_⟩) he hpl
  exact run_makeS M F hr hb (hx σ) I1 r q
end

/-! ### a new instance in the heap -/
section
variable {c : Cn} {F F' H H' : Hp} {T : Tm} {e : Env} {g g' : Rng} {σ : L2.St} {x dx : Addr} {v' : V} {d' : D}
theorem Base.alloc {p : Addr} {o : HO} (B : Base c F g H) (hp : H p = none) : Base c F g (upd H p o) :=
  ⟨B.sub.trans (Sub.new hp), by rw [upd_ne (Ne.symm (B.unL hp).1)]; exact B.hL, by rw [upd_ne (Ne.symm (B.unL hp).2)]; exact B.hC, B.ne, B.FL, B.FC⟩
theorem ExtF.alloc2 {p q : Addr} {o u : HO} (hp : H p = none) (hq : H q = none) (x : ExtF c F (upd (upd H q u) p o) F' H') : ExtF c F H F' H' where
  f := x.f
  h := fun a w n1 n2 h => x.h a w n1 n2 (by
    rw [upd_ne (ne_of_none h hp), upd_ne (ne_of_none h hq)]; exact h)
  n := fun a h => by
    have h2 := x.n a h
    by_cases z : a = p
    · subst z; exact hp
    · rw [upd_ne z] at h2
      by_cases z2 : a = q
      · subst z2; exact hq
      · rw [upd_ne z2] at h2; exact h2
  g := fun a w h => by
    rcases x.g a w h with h2 | h2
    · exact .inl h2
    · by_cases z : a = p
      · subst z; exact .inr hp
      · rw [upd_ne z] at h2
        by_cases z2 : a = q
        · subst z2; exact .inr hq
        · rw [upd_ne z2] at h2; exact .inr h2
/-- the finished model is fixed -/
theorem Rel.made (R : Rel c F T e g σ H) (hx : H x = none) (b : Base c F' g' H') (X : ExtF c F H F' H') (hF : F' x = none) (r : Rep c F' v' d') :
    Rel c (upd F' x (.ins c.Md dx [("rows", v')])) T e g' σ (upd H' x (.ins c.Md dx [("rows", v')])) ∧ Ext c F T H (upd F' x (.ins c.Md dx [("rows", v')])) T (upd H' x (.ins c.Md dx [("rows", v')])) ∧ Rep c (upd F' x (.ins c.Md dx [("rows", v')])) (.ref x) (.mdl d') := by
  have hT : T x = none := R.tfree hx
  obtain ⟨n1, n2⟩ := R.base.unL hx
  have R' := R.after b X
  have sF : Sub F' (upd F' x (.ins c.Md dx [("rows", v')])) := Sub.new hF
  refine ⟨⟨⟨fun a o h => ?_, ?_, ?_, b.ne, ?_, ?_⟩, R.TL, R.TC, fun a i h => ?_, R.len, fun i sv h => ?_⟩, ⟨X.f.trans sF, fun a o h1 h2 h => ?_, fun a h => ?_, fun a o h => ?_, fun _ _ h => h⟩, .mdl upd_same (r.mono sF)⟩
  · by_cases z : a = x
    · subst z; rw [upd_same] at h ⊢; exact h
    · rw [upd_ne z] at h ⊢; exact b.sub a o h
  · rw [upd_ne (Ne.symm n1)]; exact b.hL
  · rw [upd_ne (Ne.symm n2)]; exact b.hC
  · rw [upd_ne (Ne.symm n1)]; exact b.FL
  · rw [upd_ne (Ne.symm n2)]; exact b.FC
  · have z : a ≠ x := by rintro rfl; rw [hT] at h; cases h
    rw [upd_ne z, upd_ne z]
    exact R'.dom a i h
  · obtain ⟨v, h1, h2⟩ := R'.slot i sv h
    refine ⟨v, h1, h2.mono sF (fun _ q => q) fun a o t q => ?_⟩
    have z : a ≠ x := by rintro rfl; rw [hT] at t; cases t
    rw [upd_ne z]; exact q
  · have z : a ≠ x := by rintro rfl; rw [hx] at h; cases h
    rw [upd_ne z]; exact X.h a o h1 h2 h
  · by_cases z : a = x
    · subst z; exact hx
    · rw [upd_ne z] at h; exact X.n a h
  · by_cases z : a = x
    · subst z; exact .inr (.inl hx)
    · rw [upd_ne z] at h
      exact (X.g a o h).elim .inl fun q => .inr (.inl q)
end
section
variable {X : Cx} {c : Cn} {W : WX} {a : Expr} {m : M D} {pos p : Pos} {x : Str} {f : SemF} {k : Nat} {fa : Addr} {fd : FuncData} {ps : List Str}
theorem se_make (tk : Takes X W) (M : Mk X.K c.Md fa) (G : FnOk X.prog X.w X.K X.mg X.base (L2.CX X.prog X.w) k fa fd ps (spMk c f)) (hr : Room (k + 1) X.A) (hg : Gl X x) (hm : X.mg x = some (.ref c.Md)) (hb : Binds X.K fd ps [])
    (ha : PA X [a] (tA c W (mAll [m]))) (hdb : (x == ("__debug__" : Str)) = false) (he : starEach [a] X.env = (false, eval a X.env) :: starEach [] X.env) (hpl : (backTo pos (starEach [] X.env)).any (·.1) = false) :
    PE X (.Call (.Name x p) [a] [] pos) (tO c W (mMake f m)) :=
  peImp (pe_makeS (E := fun σ cls d H' => W cls d σ H') M G hr hg hm hb (fun σ => passAt tk σ) ha hdb he hpl) fun σ H Q ⟨F, T, e, g, R, pp⟩ => by
    have pp' : Post c W σ F T H (mBind (mAll [m]) (fun ds => fun e g => match ds with
        | [d] => (if d.pl then match f [d] g with
          | .ok (.dat d') g' => if d'.pl then .ok (.dat (.mdl d')) e g' else .stuck
          | .exc x g' => if x.pl then .exc x e g' else .stuck
          | _ => .stuck
        else .stuck : Res SV)
        | _ => .stuck) e g) (fun sv F' T' H' _ _ => ∀ v, ORes c H F' T' H' v sv → Q v H') := by
      have e1 : mMake f m e g = mBind (mAll [m]) (fun ds => fun e g => match ds with
        | [d] => (if d.pl then match f [d] g with
          | .ok (.dat d') g' => if d'.pl then .ok (.dat (.mdl d')) e g' else .stuck
          | .exc x g' => if x.pl then .exc x e g' else .stuck
          | _ => .stuck
        else .stuck : Res SV)
        | _ => .stuck) e g := by
        unfold mMake mAll mAll mBind mRet
        cases m e g <;> rfl
      rw [← e1]; exact pp
    refine goA R pp' fun ds vs F1 T1 H1 e1 g1 R1 x1 r1 q1 => ?_
    intro y dx hy hdx hne
    cases r1 with
    | nil => exact q1.elim
    | cons r1 r2 =>
      cases r2 with
      | cons _ _ => exact q1.elim
      | nil =>
        rename_i v d
        dsimp only at q1
        split at q1
        · rename_i hp
          have hdx2 : H1 dx = none := hdx
          have hy2 : upd H1 dx (.own y) y = none := by rw [upd_ne (Ne.symm hne)]; exact hy
          have B2 : Base c F1 g1 (upd (upd H1 dx (.own y)) y (.ins c.Md dx [])) := (R1.base.alloc hdx).alloc hy2
          refine ⟨y, dx, v, F1, d, g1, rfl, upd_same, R1.base.free hy, (R1.base.unL hy).1, (R1.base.unL hy).2, B2, r1, hp, ?_⟩
          split
          · rename_i d' g' e2
            rw [e2] at q1
            dsimp only at q1
            split at q1
            · rename_i hp2
              refine ⟨hp2, fun v' F' H' b' x' hF hH r' => ⟨rfl, ?_⟩⟩
              obtain ⟨R3, x3, r3⟩ := R1.made (dx := dx) hy b' (x'.alloc2 hy hdx) hF r'
              exact q1 _ _ _ R3 x3 _ r3
            · exact q1.elim
          · rename_i ex g' e2
            rw [e2] at q1
            dsimp only at q1
            split at q1
            · rename_i hp2
              refine ⟨hp2, fun cls dd F' H' b' x' xr => ?_⟩
              have x'' := x'.alloc2 hy hdx
              exact q1 cls dd F' T1 H' (R1.after b' x'') x''.ext xr
            · exact q1.elim
          · rename_i h1 h2
            split at q1
            · rename_i d' g' e2; exact (h1 d' g' e2).elim
            · rename_i ex g' e2; exact (h2 ex g' e2).elim
            · exact q1.elim
        · exact q1.elim
end
end PV
set_option Elab.async false
set_option linter.all false
set_option maxRecDepth 100000
set_option maxHeartbeats 4000000
/-! PV17R: tuple(range(..)). -/
namespace PV
open PySem L2 PySem.Spec PyProof.Rows

def rangeArg : Expr → Option Expr
  | .Call (.Name "range" _) [b] [] _ => some b
  | _ => none
theorem rangeArg_at {e b : Expr} (h : rangeArg e = some b) : ∃ p pos, e = .Call (.Name "range" p) [b] [] pos := by
  unfold rangeArg at h
  split at h
  · cases h; exact ⟨_, _, rfl⟩
  · cases h
def isTupRange (x : Str) (es : List Expr) (a : Expr) : Option Expr := if x == ("tuple" : Str) && es.isEmpty then rangeArg a else none
theorem isTupRange_at {x : Str} {es : List Expr} {a d : Expr} (h : isTupRange x es a = some d) : x = "tuple" ∧ es = [] ∧ ∃ p pos, a = .Call (.Name "range" p) [d] [] pos := by
  unfold isTupRange at h
  split at h
  · rename_i hc
    rw [Bool.and_eq_true] at hc
    exact ⟨eq_of_beq hc.1, List.isEmpty_iff.mp hc.2, rangeArg_at h⟩
  · cases h
/-- tuple(range(b)) -/
def mTupR (b : M SV) : M SV := mBind b fun y => mOpt ((opRange (.dat (.int 0)) y).map fun ds => .dat (.tup ds))
section
variable {X : Cx} {c : Cn} {W : WX} {a : Expr} {m : M SV} {p p2 pos pos2 : Pos}
theorem se_tupR (hc : X.calm = true) (hg : Gl X "tuple") (hm : X.mg "tuple" = none) (hg2 : Gl X "range") (hm2 : X.mg "range" = none) (ha : PE X a (tP c W m)) (he : starEach [a] X.env = (false, eval a X.env) :: starEach [] X.env) :
    PE X (.Call (.Name "tuple" p) [.Call (.Name "range" p2) [a] [] pos2] [] pos) (tO c W (mTupR m)) :=
  peImp (pe_tupRg hc hg hm (prg_1 hg2 hm2 ha he)) fun σ H Q ⟨F, T, e, g, R, q⟩ => by
    refine ⟨F, T, e, g, R, (Post.bind q).imp fun sv F1 T1 H1 e1 g1 R1 x1 q1 v rv => ?_⟩
    obtain ⟨sv2, h2, q2⟩ := Post.opt q1
    cases hr : opRange (.dat (.int 0)) sv with
    | none => rw [hr] at h2; cases h2
    | some ds =>
      rw [hr] at h2
      cases h2
      obtain ⟨i, j, h3, rfl, h4, rfl⟩ := range_ok hr
      cases h3
      have rv' : Rep c F1 v (.int j) := rv
      cases rv'
      refine ⟨j, rfl, ⟨by omega, by omega, by omega, by omega, by omega⟩, fun z hz => wishT R1 q2 ?_ hz⟩
      unfold rgV
      have h5 : ((List.range (j - 0).toNat).map fun i => V.int (0 + (i : Nat))) = ((List.range (j - 0).toNat).map fun i : Nat => (0 : Int) + (i : Int)).map V.int := by
        rw [List.map_map]; rfl
      have h6 : ((List.range (j - 0).toNat).map fun (k : Nat) => D.int (0 + (k : Int))) = ((List.range (j - 0).toNat).map fun i : Nat => (0 : Int) + (i : Int)).map D.int := by
        rw [List.map_map]; rfl
      rw [h5, h6]
      exact Reps.ints
end
end PV
set_option Elab.async false
set_option linter.all false
set_option maxRecDepth 100000
set_option maxHeartbeats 4000000
/-! PV17C: [.. for .. in .. for .. in ..]. -/
namespace PV
open PySem L2 PySem.Spec PyProof.Rows

section
variable {J : It} {n : Nat} {G : Hp → Prop} {Y : Nat → Hp → V → Hp → Prop}
/-- a loop in a comprehension, whatever its body is -/
theorem gen_it (w : Walk J n G Y) {g : TG} {R : L2.St → Hp → (Hp → Prop) → Prop} {vs : List Nat} {σ : L2.St} {H0 : Hp} {Qd : Hp → Prop} (Pv : Nat → Hp → Prop) (h0 : Pv 0 H0) (hG : ∀ i H, i ≤ n → Pv i H → G H)
    (hs : ∀ i x H H', i < n → Pv i H → Y i H x H' → g x (L2.wipe σ vs) H' fun σ2 H2 => L2.wipe σ2 vs = L2.wipe σ vs ∧ R σ2 H2 (Pv (i + 1))) (hd : ∀ H, Pv n H → Qd H) :
    ∃ W : Nat → Nat → Hp → Prop, (∃ m, W 0 m H0) ∧ ∀ i m H, W i m H →
      (J.stop i H ∧ Qd H) ∨ (J.go i H ∧ ∃ Nx : Hp → Prop, (∀ H', Nx H' → ∃ m', m' < m ∧ W (i + 1) m' H') ∧ ∀ x H', J.yld i H x H' → g x (L2.wipe σ vs) H' fun σ2 H2 => L2.wipe σ2 vs = L2.wipe σ vs ∧ R σ2 H2 Nx) := by
  refine ⟨fun i m H => m = n - i ∧ i ≤ n ∧ Pv i H, ⟨n, by simp, Nat.zero_le _, h0⟩, ?_⟩
  rintro i m H ⟨rfl, hi, p⟩
  have q := hG i H hi p
  by_cases hlt : i < n
  · refine .inr ⟨w.goes i H hlt q, Pv (i + 1), fun H' p' => ⟨n - (i + 1), by omega, rfl, hlt, p'⟩, fun x H' y => hs i x H H' hlt p (w.yields i H x H' hlt q y)⟩
  · have e : i = n := by omega
    subst e
    exact .inl ⟨w.stops H q, hd H p⟩
end
section
variable {c : Cn} {F F1 : Hp} {T T1 : Tm} {H H1 : Hp} {e : Env} {g : Rng} {σ : L2.St}
theorem tLc2_of {W : WX} {μ : Md} {own own1 : List Nat} {t t1 : Tgt} {src src1 : Src} {elt : M D} {Q : VK} (hs : ∀ i ∈ t.slots, i ∈ own) (hs1 : ∀ i ∈ t1.slots, i ∈ own1) (ho : ∀ i ∈ own1, i ∈ own)
    (h : tO c W (mComp2 own own1 t src t1 src1 elt) σ H Q) :
    tLc2 (tI μ c W src) (gT c t) (tT c noW (mRet true)) (tI .f c noW src1) (gT c t1) (tT c noW (mRet true)) (tV c noW elt) own own1 σ H Q := by
  obtain ⟨F, T, e, g, R, p⟩ := h
  refine ⟨F, T, e, g, R, (Post.bind p).imp fun ds F1 T1 H1 e1 g1 R1 x1 p1 J w D hD => ?_⟩
  by_cases hst : still e1 own = true
  · have p1 : Post c W σ F1 T1 H1 (match compLoop2 own own1 t t1 src1 elt ds [] (wipe e1 own) g1 with
      | .ok ys e' g' => .ok (.own ys) (unwipe e1 e' own) g'
      | _ => .stuck) (fun sv F' T' H' _ _ => ∀ v, ORes c H F' T' H' v sv → Q v H') := by
      have := p1
      simp only [hst, if_true] at this
      exact this
    cases hcl : compLoop2 own own1 t t1 src1 elt ds [] (wipe e1 own) g1 with
    | exc _ _ _ => rw [hcl] at p1; exact p1.elim
    | stuck => rw [hcl] at p1; exact p1.elim
    | ok zs eN gN =>
      rw [hcl] at p1
      have p1 : Post c W σ F1 T1 H1 (.ok (.own zs) (unwipe e1 eN own) gN) (fun sv F' T' H' _ _ => ∀ v, ORes c H F' T' H' v sv → Q v H') := p1
      have DL := (R1.base.unL hD).1
      have DC := (R1.base.unL hD).2
      refine gen_it (Walk.ofD w) (fun i Hc => ∃ F2 T2 e2 g2 acc ys, Rel c F2 T2 e2 g2 (L2.wipe σ own) Hc ∧ Ext c F1 T1 H1 F2 T2 Hc ∧ Hc D = some (.lst ys) ∧ Reps c F2 ys acc ∧ F2 D = none ∧ T2 D = none ∧
        compLoop2 own own1 t t1 src1 elt (ds.drop i) acc e2 g2 = .ok zs eN gN) ?_ ?_ ?_ ?_
      · exact ⟨F1, T1, wipe e1 own, g1, [], [], (R1.wipe own).alloc hD, .alloc hD, upd_same, .nil, R1.base.free hD, R1.tfree hD, by simpa using hcl⟩
      · rintro i Hc _ ⟨F2, T2, e2, g2, acc, ys, R2, x2, _⟩
        exact μ.G_of x2 R2.base
      · rintro i x Hc H' hi ⟨F2, T2, e2, g2, acc, ys, R2, x2, kD, ra, fD, tD, hc⟩ y
        have hd : ds[i]? = some ds[i] := List.getElem?_eq_getElem hi
        rw [List.drop_eq_getElem_cons hi] at hc
        obtain ⟨F3, R3, x3, r3, s3⟩ := w.turn hd (μ.G_of x2 R2.base) y R2 x2.f
        have fD3 : F3 D = none := by rw [s3 D (by rw [kD]; simp)]; exact fD
        have kD3 : H' D = some (.lst ys) := x3.h D _ DL DC kD
        unfold compLoop2 at hc
        cases hb : t.bind ds[i] e2 with
        | none => rw [hb] at hc; cases hc
        | some e3 =>
          rw [hb] at hc
          refine ⟨F3, T2, e2, g2, ds[i], e3, R3, r3, hb, fun σ' off R' => ⟨?_, F3, T2, e3, g2, R', ?_⟩⟩
          · rw [(off.mono hs).wipe]
            exact (Off.wipe ⟨L2.wipe_length σ own, fun j hj => swipe_get σ hj⟩)
          have wσ : L2.wipe σ' own = L2.wipe σ own := by
            rw [(off.mono hs).wipe]
            exact (Off.wipe ⟨L2.wipe_length σ own, fun j hj => swipe_get σ hj⟩)
          intro F4 T4 H4 R4 x4
          have k4 := keepsNew x4 kD3 fD3 tD
          have kD4 := x4.h D _ DL DC kD3
          refine ⟨F4, T4, e3, g2, R4, ?_⟩
          cases hit : src1.items e3 g2 with
          | exc _ _ _ => simp only [hit] at hc; cases hc
          | stuck => simp only [hit] at hc; cases hc
          | ok items e5 g5 =>
            simp only [hit] at hc
            cases hin : compLoopIn own1 t1 elt items acc (wipe e5 own1) g5 with
            | exc _ _ _ => simp only [hin] at hc; cases hc
            | stuck => simp only [hin] at hc; cases hc
            | ok accN e6 g6 =>
              simp only [hin] at hc
              have hc : compLoop2 own own1 t t1 src1 elt (ds.drop (i + 1)) accN (wipe e6 own) g6 = .ok zs eN gN := hc
              intro F5 T5 H5 R5 x5 J1 w1
              have k5 := keepsNew x5 kD4 k4.1 k4.2
              have kD5 := x5.h D _ DL DC kD4
              refine gen_it (Walk.ofD w1) (fun j Hc => ∃ F2 T2 e2 g2 acc ys, Rel c F2 T2 e2 g2 (L2.wipe σ' own1) Hc ∧ Ext c F1 T1 H1 F2 T2 Hc ∧ Sub F5 F2 ∧ Hc D = some (.lst ys) ∧ Reps c F2 ys acc ∧ F2 D = none ∧ T2 D = none ∧
                compLoopIn own1 t1 elt (items.drop j) acc e2 g2 = .ok accN e6 g6) ?_ ?_ ?_ ?_
              · exact ⟨F5, T5, wipe e5 own1, g5, acc, ys, R5.wipe own1, ((x2.trans x3).trans x4).trans x5, Sub.refl _, kD5, ra.mono (x3.f.trans (x4.f.trans x5.f)), k5.1, k5.2, by simpa using hin⟩
              · rintro j Hc2 _ ⟨F6, T6, e7, g7, acc2, ys2, R6, x6, s6, _⟩
                exact s6.trans R6.base.sub
              · rintro j z Hc2 H2 hj ⟨F6, T6, e7, g7, acc2, ys2, R6, x6, s6, kD6, ra6, fD6, tD6, hin2⟩ y2
                have hd2 : items[j]? = some items[j] := List.getElem?_eq_getElem hj
                rw [List.drop_eq_getElem_cons hj] at hin2
                obtain ⟨F7, R7, x7, r7, s7⟩ := w1.turn hd2 (s6.trans R6.base.sub) y2 R6 s6
                have fD7 : F7 D = none := by rw [s7 D (by rw [kD6]; simp)]; exact fD6
                have kD7 : H2 D = some (.lst ys2) := x7.h D _ DL DC kD6
                unfold compLoopIn at hin2
                cases hb2 : t1.bind items[j] e7 with
                | none => rw [hb2] at hin2; cases hin2
                | some e8 =>
                  rw [hb2] at hin2
                  refine ⟨F7, T6, e7, g7, items[j], e8, R7, r7, hb2, fun σ2 off2 R2' => ⟨?_, F7, T6, e8, g7, R2', ?_⟩⟩
                  · rw [(off2.mono hs1).wipe]
                    exact (Off.wipe ⟨L2.wipe_length σ' own1, fun j hj => swipe_get σ' hj⟩)
                  have wσ2 : L2.wipe σ2 own1 = L2.wipe σ' own1 := by
                    rw [(off2.mono hs1).wipe]
                    exact (Off.wipe ⟨L2.wipe_length σ' own1, fun j hj => swipe_get σ' hj⟩)
                  intro F8 T8 H8 R8 x8
                  have k8 := keepsNew x8 kD7 fD7 tD6
                  have kD8 := x8.h D _ DL DC kD7
                  refine ⟨F8, T8, e8, g7, R8, ?_⟩
                  cases hee : elt e8 g7 with
                  | exc _ _ _ => simp only [hee] at hin2; cases hin2
                  | stuck => simp only [hee] at hin2; cases hin2
                  | ok yd e9 g9 =>
                    simp only [hee] at hin2
                    split at hin2
                    · rename_i hlt
                      intro F9 T9 H9 R9 x9 yv ry
                      have k9 := keepsNew x9 kD8 k8.1 k8.2
                      have kD9 := x9.h D _ DL DC kD8
                      have ra9 := ra6.mono (x7.f.trans (x8.f.trans x9.f))
                      refine ⟨ys2, kD9, by have := ra9.length; exact line_size (n := ys2.length + 1) (by omega), F9, T9, wipe e9 own1, g9, acc2 ++ [yd], ys2 ++ [yv], ?_, ?_, s6.trans (x7.f.trans (x8.f.trans x9.f)), upd_same, ra9.append (.cons ry .nil), k9.1, k9.2, hin2⟩
                      · have := (R9.loose (o' := .lst (ys2 ++ [yv])) kD9 k9.1 k9.2 DL DC).wipe own1
                        rw [wσ2] at this
                        exact this
                      · have xx := ((x6.trans x7).trans x8).trans x9
                        exact ⟨xx.f, fun a o n1 n2 q => by rw [upd_ne (by rintro rfl; rw [hD] at q; cases q)]; exact xx.h a o n1 n2 q, fun a q => by
                          by_cases z : a = D
                          · subst z; exact hD
                          · rw [upd_ne z] at q; exact xx.n a q, xx.g, xx.t⟩
                    · cases hin2
              · rintro Hc2 ⟨F6, T6, e7, g7, acc2, ys2, R6, x6, s6, kD6, ra6, fD6, tD6, hin2⟩
                rw [List.drop_of_length_le (Nat.le_refl _)] at hin2
                have hin2 : (Res.ok acc2 e7 g7 : Res (List PV.D)) = .ok accN e6 g6 := hin2
                cases hin2
                refine ⟨F6, T6, wipe e6 own, g6, accN, ys2, ?_, x6, kD6, ra6, fD6, tD6, hc⟩
                have := R6.wipe own
                have e0 : L2.wipe (L2.wipe σ' own1) own = L2.wipe σ own := by
                  rw [← wσ]
                  have o1 : Off own1 σ' (L2.wipe σ' own1) := ⟨L2.wipe_length σ' own1, fun j hj => swipe_get σ' hj⟩
                  exact (o1.mono ho).wipe
                rw [e0] at this
                exact this
      · rintro Hc ⟨F2, T2, e2, g2, acc, ys, R2, x2, kD, ra, fD, tD, hc⟩
        rw [List.drop_of_length_le (Nat.le_refl _)] at hc
        have hc : (Res.ok acc e2 g2 : Res (List PV.D)) = .ok zs eN gN := hc
        cases hc
        exact p1 F2 T2 Hc (R1.unwipe R2 hst x2.f) x2 _ ⟨D, ys, rfl, x1.n D hD, fD, tD, kD, ra⟩
  · have p1 := p1
    simp only [hst, if_false] at p1
    exact (show False from p1).elim
end
section
variable {X : Cx} {c : Cn} {W : WX} {μ : Md} {elt tg iter tg1 iter1 : Expr} {scope : Scope} {own : List (Str × Nat)} {pos : Pos} {t t1 : Tgt} {src src1 : Src} {m : M D}
theorem se_comp2 (hc : X.calm = true) (hN : X.N.Nodup) (hi : PI X tg iter (tI μ c W src)) (ok : blkC X.N X.env.scope scope own = true) (hsl : ∀ i ∈ t.slots, i ∈ own.map (·.2)) (hsl1 : ∀ i ∈ t1.slots, i ∈ own.map (·.2))
    (hg : ∀ (s : Shared) (H : Hp) (C : Addr) (cl : List (Str × Addr)) (fp : List Addr), PG (X.blk s H scope (compEnvC scope cl C X.env) fp) tg (gT c t))
    (hi1 : ∀ (s : Shared) (H : Hp) (C : Addr) (cl : List (Str × Addr)) (fp : List Addr), PI (X.blk s H scope (compEnvC scope cl C X.env) fp) tg1 iter1 (tI .f c noW src1))
    (hg1 : ∀ (s : Shared) (H : Hp) (C : Addr) (cl : List (Str × Addr)) (fp : List Addr), PG (X.blk s H scope (compEnvC scope cl C X.env) fp) tg1 (gT c t1))
    (he : ∀ (s : Shared) (H : Hp) (C : Addr) (cl : List (Str × Addr)) (fp : List Addr), PE (X.blk s H scope (compEnvC scope cl C X.env) fp) elt (tV c noW m)) (hs : ∀ x, foldedSetIterable iter X.env x = pure x) (hs1 : ∀ env x, foldedSetIterable iter1 env x = pure x) :
    PE X (.ListComp elt [⟨tg, iter, [], 0⟩, ⟨tg1, iter1, [], 0⟩] scope pos) (tO c W (mComp2 (own.map (·.2)) t1.slots t src t1 src1 m)) :=
  peImp (pe_lc2 hc hN hi (blkOk_by ok) hsl1 hg (fun s H C cl fp => ⟨fun pins s σ H Q I ⟨F, T, e, g, R, p⟩ => pts_nil.run pins s σ H Q I (doneQ R p)⟩) hi1 hg1 (fun s H C cl fp => ⟨fun pins s σ H Q I ⟨F, T, e, g, R, p⟩ => pts_nil.run pins s σ H Q I (doneQ R p)⟩) he hs hs1) fun σ H Q h => tLc2_of hsl (fun _ z => z) hsl1 h
theorem ss_setComp2 {i : Nat} {x : Str} {pos' lpos : Pos} (hc : X.calm = true) (hN : X.N.Nodup) (hx : X.N[i]? = some x) (hxl : X.env.scope.names.lookup x = some .local)
    (hsw : swapsWith (.ListComp elt [⟨tg, iter, [], 0⟩, ⟨tg1, iter1, [], 0⟩] scope lpos) (some (.Name x pos')) pos.line X.env = pure true) (hi : PI X tg iter (tI μ c W src)) (ok : blkC X.N X.env.scope scope own = true) (hsl : ∀ i ∈ t.slots, i ∈ own.map (·.2)) (hsl1 : ∀ i ∈ t1.slots, i ∈ own.map (·.2))
    (hg : ∀ (s : Shared) (H : Hp) (C : Addr) (cl : List (Str × Addr)) (fp : List Addr), PG (X.blk s H scope (compEnvC scope cl C X.env) fp) tg (gT c t))
    (hi1 : ∀ (s : Shared) (H : Hp) (C : Addr) (cl : List (Str × Addr)) (fp : List Addr), PI (X.blk s H scope (compEnvC scope cl C X.env) fp) tg1 iter1 (tI .f c noW src1))
    (hg1 : ∀ (s : Shared) (H : Hp) (C : Addr) (cl : List (Str × Addr)) (fp : List Addr), PG (X.blk s H scope (compEnvC scope cl C X.env) fp) tg1 (gT c t1))
    (he : ∀ (s : Shared) (H : Hp) (C : Addr) (cl : List (Str × Addr)) (fp : List Addr), PE (X.blk s H scope (compEnvC scope cl C X.env) fp) elt (tV c noW m)) (hs : ∀ x, foldedSetIterable iter X.env x = pure x) (hs1 : ∀ env x, foldedSetIterable iter1 env x = pure x) :
    SS X c W (.Assign [.Name x pos'] (.ListComp elt [⟨tg, iter, [], 0⟩, ⟨tg1, iter1, [], 0⟩] scope lpos) pos) (sSet i (mComp2 (own.map (·.2)) t1.slots t src t1 src1 m)) := fun F0 H0 Fb =>
  psImp (ps_setLc2 hc hN hx hxl hsw hi (blkOk_by ok) hsl1 hg (fun s H C cl fp => ⟨fun pins s σ H Q I ⟨F, T, e, g, R, p⟩ => pts_nil.run pins s σ H Q I (doneQ R p)⟩) hi1 hg1 (fun s H C cl fp => ⟨fun pins s σ H Q I ⟨F, T, e, g, R, p⟩ => pts_nil.run pins s σ H Q I (doneQ R p)⟩) he hs hs1) fun D σ H h => tLc2_of hsl (fun _ z => z) hsl1 (tS_set h)
end
end PV
set_option Elab.async false
set_option linter.all false
set_option maxRecDepth 100000
set_option maxHeartbeats 4000000
/-! PV17Z: towards list(zip(a, b)): next of a zip whose tuple is held, for any two iterators. -/
namespace PV
open PySem L2 PySem.Spec PyProof.Rows

section
variable {prog : Program} {w : World} {A : Around} {E : Value → Shared → Prop} {s : Shared} {z TI TO T i1 i2 : Addr} {fp1 fp2 : List Addr} {n1 n2 i : Nat} {P1 P2 : Nat → Value → Prop} {St1 St2 : Nat → Heap → Prop} {f : Bool} {oT : Obj}
theorem zipD2_held {Q : Value → Shared → Prop} (S : ZipSep2 z TI TO i1 i2 fp1 fp2) (D1 : Draws prog w A i1 fp1 n1 P1 St1) (D2 : Draws prog w A i2 fp2 n2 P2 St2)
    (hz : IsZipHeld s.heap z TI TO T f) (hT : s.heap.get? T = some oT) (hTI : IsTupOf2 s.heap TI (.ref i1) (.ref i2)) (st1 : St1 i s.heap) (st2 : St2 i s.heap) (hlt1 : i < n1) (hlt2 : i < n2)
    (hQ : ∀ x1 x2 h' tk, P1 i x1 → P2 i x2 → IsZipHeld h' z TI TO T true → St1 (i + 1) h' → St2 (i + 1) h' → IsTupOf2 h' s.heap.objs.size x1 x2 → h'.objs.size = s.heap.objs.size + 1 →
      (∀ c o, c ≠ z → c ≠ i1 → c ≠ i2 → s.heap.get? c = some o → h'.get? c = some o) → Q (.ref s.heap.objs.size) { s with heap := h', toks := tk }) :
    wpAny (model prog w) A (Builtin.«zip.__next__» ⟨[.ref z], []⟩) (fun fin s' => ∃ v, fin = .done (.ret v) ∧ Q v s') E s := by
  obtain ⟨hp, g, d, tk0, os⟩ := s
  show wpAny _ _ (field (.ref z) 2 >>= _) _ _ _
  refine wpAny_bind (wpAny_field hz rfl (x := .bool false) rfl ?_)
  show wpAny _ _ (field (.ref z) 3 >>= _) _ _ _
  refine wpAny_bind (wpAny_field hz rfl (x := .ref TI) rfl ?_)
  refine wpAny_bind (wpAny_seqItems hTI rfl ?_)
  show wpAny _ _ (Builtin.SmallTypes.ownedTupleIsFree (.ref z) >>= _) _ _ _
  refine wpAny_bind (wpAny_tupleHeld_zip hz hT fun g0 hz0 hs0 => ?_)
  replace hs0 : Heap.SameBut z hp g0 := hs0
  simp only [Bool.false_eq_true, if_false]
  refine wpAny_bind ?_
  rw [← Array.forIn_toList]
  simp only [List.forIn_cons, List.forIn_nil]
  refine wpAny_bind (wpAny_bind (wpAny_holding ?_))
  show wpAny _ _ (Builtin.SmallTypes.nextOf (.ref i1) >>= _) _ _ ⟨g0, g, d, tk0, os⟩
  refine wpAny_bind (D1.item i _ _ _ hlt1 (D1.over st1 hs0 S.zf1) fun x1 p1 tk1 hx1 sn1 hp1 => wpAny_pure ?_)
  replace hp1 : Heap.SameBut i1 g0 p1 := hp1
  refine wpAny_pure ?_
  refine wpAny_bind (wpAny_bind (wpAny_holding ?_))
  show wpAny _ _ (Builtin.SmallTypes.nextOf (.ref i2) >>= _) _ _ ⟨p1, g, d, tk1, os⟩
  refine wpAny_bind (D2.item i _ _ _ hlt2 (D2.over (D2.over st2 hs0 S.zf2) hp1 S.sep1_2) fun x2 p2 tk2 hx2 sn2 hp2 => wpAny_pure ?_)
  replace hp2 : Heap.SameBut i2 p1 p2 := hp2
  refine wpAny_pure (wpAny_pure ?_)
  show wpAny _ _ (newTuple [x1, x2] >>= _) _ _ _
  refine wpAny_bind (wpAny_newTuple ?_)
  have hsz : p2.objs.size = hp.objs.size := by rw [hp2.1, hp1.1, hs0.1]
  have hzz : IsZipHeld p2 z TI TO T true := hp2.extBut _ _ S.zi2 (hp1.extBut _ _ S.zi1 hz0)
  have hk : ∀ c o, c ≠ z → c ≠ i1 → c ≠ i2 → hp.get? c = some o → p2.get? c = some o := fun c o cz c1 c2 e => hp2.extBut _ _ c2 (hp1.extBut _ _ c1 (hs0.extBut _ _ cz e))
  have hj1 : St1 (i + 1) p2 := D1.over sn1 hp2 S.sep2_1
  refine wpAny_pure ⟨_, rfl, ?_⟩
  show Q (.ref p2.objs.size) _
  have hp3 : IsTupOf2 (p2.push { cls := .type "tuple", data := .seq #[x1, x2] }) p2.objs.size x1 x2 := Heap.get?_push_size _ rfl
  have hz4 : (p2.push { cls := .type "tuple", data := .seq #[x1, x2] }).objs.size = p2.objs.size + 1 := Heap.size_push ..
  rw [hsz] at hp3 hz4 ⊢
  exact hQ x1 x2 _ tk2 hx1 hx2 (Heap.get?_push_of_some _ hzz) (D1.frame _ _ _ hj1 fun b hb o e => Heap.get?_push_of_some _ e) (D2.frame _ _ _ sn2 fun b hb o e => Heap.get?_push_of_some _ e) hp3 hz4 fun c o cz c1 c2 e => Heap.get?_push_of_some _ (hk c o cz c1 c2 e)
end
/-- a walk whose items speak of the heap, a list at S being filled -/
structure WalkH (prog : Program) (w : World) (A : Around) (I S : Addr) (wr : List Addr) (n : Nat) (P : Nat → Value → Heap → Prop) (St : Nat → Heap → Prop) : Prop where
  off : S ∉ wr
  keep : ∀ i v h h', P i v h → (∀ b o, b ∉ S :: wr → h.get? b = some o → h'.get? b = some o) → P i v h'
  there : ∀ i v h, P i v h → ∀ T : Addr, v = Value.ref T → ∃ o, h.get? T = some o
  frame : ∀ i h h', St i h → (∀ b o, b ≠ S → h.get? b = some o → h'.get? b = some o) → St i h'
  item : ∀ i (s : Shared) (Q : Option Value → Shared → Prop) (E : Value → Shared → Prop), i < n → St i s.heap → S < s.heap.objs.size →
    (∀ v h' tk, P i v h' → (∀ T : Addr, v = Value.ref T → s.heap.objs.size ≤ T) → St (i + 1) h' → (∀ b o, b ∉ wr → s.heap.get? b = some o → h'.get? b = some o) → Q (some v) { s with heap := h', toks := tk }) → wpAny (model prog w) A (pyNext (.ref I)) Q E s
  self : ∀ (s : Shared) (Q : Value → Shared → Prop) (E : Value → Shared → Prop), St 0 s.heap → Q (.ref I) s → wpAny (model prog w) A (pyIter (.ref I)) Q E s
  done : ∀ (s : Shared) (Q : Option Value → Shared → Prop) (E : Value → Shared → Prop), St n s.heap →
    (∀ h' tk, (∀ b o, b ∉ wr → s.heap.get? b = some o → h'.get? b = some o) → Q none { s with heap := h', toks := tk }) → wpAny (model prog w) A (pyNext (.ref I)) Q E s
def ItemsH (P : Nat → Value → Heap → Prop) (acc : Array Value) (i : Nat) (h : Heap) : Prop := acc.size = i ∧ (∀ j v, acc[j]? = some v → P j v h) ∧ ∀ (j j' : Nat) (T : Addr), acc[j]? = some (Value.ref T) → acc[j']? = some (Value.ref T) → j = j'
section
variable {prog : Program} {w : World} {A : Around} {R : Result → Shared → Prop} {I S : Addr} {wr : List Addr} {n : Nat} {P : Nat → Value → Heap → Prop} {St : Nat → Heap → Prop}
theorem ItemsH.push {acc : Array Value} {i : Nat} {h : Heap} {v : Value} (H : ItemsH P acc i h) (hv : P i v h) (hw : ∀ (j : Nat) (T : Addr), v = Value.ref T → acc[j]? ≠ some (Value.ref T)) : ItemsH P (acc.push v) (i + 1) h := by
  refine ⟨by rw [Array.size_push, H.1], fun j u hj => ?_, fun j j' T h1 h2 => ?_⟩
  · rw [Array.getElem?_push] at hj
    split at hj
    · rename_i e
      cases hj
      rw [e, H.1]
      exact hv
    · exact H.2.1 j u hj
  · rw [Array.getElem?_push] at h1 h2
    split at h1
    · rename_i e1
      split at h2
      · rename_i e2
        rw [e1, e2]
      · cases h1
        exact absurd h2 (hw j' T rfl)
    · split at h2
      · cases h2
        exact absurd h1 (hw j T rfl)
      · exact H.2.2 j j' T h1 h2
theorem extend_loopH (W : WalkH prog w A.in1 I S wr n P St) (hn : n ≤ sizeLine) (res : Value) :
    ∀ (k i : Nat) (s : Shared) (acc : Array Value) (c : Nat), n - i = k → i ≤ n → St i s.heap → s.heap.get? S = some { cls := .type "list", dict := none, data := .seq acc c, slots := #[] } → ItemsH P acc i s.heap →
    (∀ h' tk acc' c', (∀ b o, b ∉ S :: wr → s.heap.get? b = some o → h'.get? b = some o) → h'.get? S = some { cls := .type "list", dict := none, data := .seq acc' c', slots := #[] } → ItemsH P acc' n h' → R (.ok (.ret res)) { s with heap := h', toks := tk }) →
    codeAny (model prog w) A (.builtin "list.extend.loop" ⟨[.ref S, .ref I, res], []⟩) R s := by
  intro k
  induction k with
  | zero =>
    intro i s acc c hk hi hst hS hacc hR
    have hin : i = n := by omega
    subst hin
    refine codeAny_builtin F.entry_extend_loop ?_
    rw [Around.under_plainId F.plain_extend_loop _]
    show wpAny _ A.in1 (pyNext (.ref I) >>= _) _ _ s
    refine wpAny_bind (W.done s _ _ hst fun h' tk hm => ?_)
    have hm2 : ∀ b o, b ∉ S :: wr → s.heap.get? b = some o → h'.get? b = some o := fun b o hb e => hm b o (fun z => hb (List.mem_cons_of_mem _ z)) e
    exact wpAny_pure (hR h' tk acc c hm2 (hm S _ W.off hS) ⟨hacc.1, fun j v hj => W.keep _ _ _ _ (hacc.2.1 j v hj) hm2, hacc.2.2⟩)
  | succ k ih =>
    intro i s acc c hk hi hst hS hacc hR
    have hlt : i < n := by omega
    refine codeAny_builtin F.entry_extend_loop ?_
    rw [Around.under_plainId F.plain_extend_loop _]
    show wpAny _ A.in1 (pyNext (.ref I) >>= _) _ _ s
    refine wpAny_bind (W.item i s _ _ hlt hst (Heap.lt_size hS) fun v h' tk hP hw hst' hm => ?_)
    have hS' := hm S _ W.off hS
    have hm2 : ∀ b o, b ∉ S :: wr → s.heap.get? b = some o → h'.get? b = some o := fun b o hb e => hm b o (fun z => hb (List.mem_cons_of_mem _ z)) e
    show wpAny _ A.in1 (updateSeq S (·.push v) >>= _) _ _ _
    refine wpAny_bind ?_
    have up : ∀ b o, b ≠ S → h'.get? b = some o → (h'.update S (Obj.mapSeq (·.push v))).get? b = some o := fun b o hb e => (Heap.get?_update_other _ _ (Ne.symm hb)).trans e
    have up2 : ∀ b o, b ∉ S :: wr → h'.get? b = some o → (h'.update S (Obj.mapSeq (·.push v))).get? b = some o := fun b o hb e => up b o (fun z => hb (z ▸ List.mem_cons_self)) e
    refine wpAny_updateSeq (s := { s with heap := h', toks := tk }) hS' rfl (wpAny_pure ⟨plainId_quiet F.plain_extend_loop _, ih (i + 1) _ (acc.push v) _ (by omega) hlt (W.frame _ _ _ hst' up) (Heap.get?_update_self _ hS' rfl) ?_ fun h'' tk' acc' c' hm'' hS'' hacc' => ?_⟩)
      (by rw [hacc.1]; omega) (by show (acc.push v).size ≤ sizeLine + 1; rw [Array.size_push, hacc.1]; omega)
    · exact ItemsH.push ⟨hacc.1, fun j u hj => W.keep _ _ _ _ (hacc.2.1 j u hj) fun b o hb e => up2 b o hb (hm2 b o hb e), hacc.2.2⟩ (W.keep _ _ _ _ hP up2) (fun j T e hj => by
        obtain ⟨o, ho⟩ := W.there _ _ _ (hacc.2.1 j _ hj) T rfl
        exact absurd (Heap.lt_size ho) (Nat.not_lt.mpr (hw T e)))
    · exact hR h'' tk' acc' c' (fun b o hb e => hm'' b o hb (up2 b o hb (hm2 b o hb e))) hS'' hacc'
theorem zip_no_len : typeLookup (.type "zip") "__len__" = pure none := by rw [typeLookup_type, builtinLookup_eq_fast]; kernel_rfl
theorem zip_no_hint : typeLookup (.type "zip") "__length_hint__" = pure none := by rw [typeLookup_type, builtinLookup_eq_fast]; kernel_rfl
theorem extendH {s : Shared} (W : WalkH prog w A.in1 I S wr n P St) (hT : ∀ (i : Nat) (s : Shared), St i s.heap → s.TypeIs (.ref I) "zip") (hSI : S ≠ I) (res : Value) (c₀ : Nat) (hst : St 0 s.heap)
    (hS : s.heap.get? S = some { cls := .type "list", data := .seq #[] c₀ })
    (hR : ∀ h' tk acc' c', (∀ b o, b ∉ S :: wr → s.heap.get? b = some o → h'.get? b = some o) → h'.get? S = some { cls := .type "list", dict := none, data := .seq acc' c', slots := #[] } → ItemsH P acc' n h' → R (.ok (.ret res)) { s with heap := h', toks := tk }) (hn : n ≤ sizeLine) :
    wpAny (model prog w) A.in1 (Builtin.List.listExtendWith (.ref S) (.ref I) res)
      (fun fin s' => match fin with | .done f => R (.ok f) s' | .again c' => c'.quiet = true ∧ codeAny (model prog w) A c' R s') (fun e s' => R (.error e) s') s := by
  unfold Builtin.List.listExtendWith
  refine wpAny_bind (wpAny_typeOf (hT 0 _ hst) ?_)
  have h1 : Builtin.List.listSameRef (.ref S) (.ref I) = false := by simp [Builtin.List.listSameRef, hSI]
  have h2 : (Value.type "zip" == Value.type "list") = false := by decide
  have h3 : (Value.type "zip" == Value.type "tuple") = false := by decide
  simp only [h1, h2, h3, Bool.or_false, Bool.false_eq_true, if_false]
  refine wpAny_bind (W.self _ _ _ hst ?_)
  refine wpAny_bind (wpAny_holding ?_)
  unfold Builtin.List.listLengthHint
  refine wpAny_bind (wpAny_specialOf (hT 0 _ hst) zip_no_len ?_)
  show wpAny _ A.in1 (specialOf (Value.ref I) (Str.ofString "__length_hint__") >>= _) _ _ _
  refine wpAny_bind (wpAny_specialOf (hT 0 _ hst) zip_no_hint ?_)
  refine wpAny_pure ?_
  show wpAny _ A.in1 (rule "list.extend.makes-room" >>= fun _ => Builtin.List.listTouch (.ref S) >>= fun _ =>
    again (.builtin "list.extend.loop" ⟨[.ref S, .ref I, res], []⟩)) _ _ _
  refine wpAny_bind (wpAny_rule ?_)
  refine wpAny_bind ?_
  show wpAny _ A.in1 (updateSeq S (·.push .none) >>= fun _ => updateSeq S (·.pop)) _ _ _
  refine wpAny_bind (wpAny_updateSeq hS rfl ?_)
  have hS₂ := Heap.get?_update_self (Obj.mapSeq (·.push Value.none)) hS rfl
  refine wpAny_updateSeq (hz := by seq_fits) hS₂ rfl ?_
  have hS₃ := Heap.get?_update_self (Obj.mapSeq (·.pop)) hS₂ rfl
  have oth : ∀ b o, b ≠ S → s.heap.get? b = some o → ((s.heap.update S (Obj.mapSeq (·.push Value.none))).update S (Obj.mapSeq (·.pop))).get? b = some o :=
    fun b o hb e => (Heap.get?_update_other _ _ (Ne.symm hb)).trans ((Heap.get?_update_other _ _ (Ne.symm hb)).trans e)
  refine wpAny_pure ⟨plainId_quiet F.plain_extend_loop _, extend_loopH W hn _ n 0 _ _ _ rfl (Nat.zero_le _) (W.frame 0 _ _ hst oth) hS₃ ⟨rfl, fun j v hj => by simp at hj, fun j j' T hj => by simp at hj⟩ fun h' tk acc' c' hm hS' hacc => ?_⟩
  exact hR h' tk acc' c' (fun b o hb e => hm b o hb (oth b o (fun h => hb (h ▸ List.mem_cons_self)) e)) hS' hacc
theorem list_initH {s : Shared} (W : WalkH prog w A.in1 I S wr n P St) (hT : ∀ (i : Nat) (s : Shared), St i s.heap → s.TypeIs (.ref I) "zip") (hSI : S ≠ I) (hst : St 0 s.heap)
    (hS : s.heap.get? S = some { cls := .type "list", data := .seq #[] })
    (hR : ∀ h' tk acc' c', (∀ b o, b ∉ S :: wr → s.heap.get? b = some o → h'.get? b = some o) → h'.get? S = some { cls := .type "list", dict := none, data := .seq acc' c', slots := #[] } → ItemsH P acc' n h' → R (.ok (.ret .none)) { s with heap := h', toks := tk }) (hn : n ≤ sizeLine) :
    wpAny (model prog w) A.in1 (Builtin.«list.__init__» ⟨[.ref S, .ref I], []⟩)
      (fun fin s' => match fin with | .done f => R (.ok f) s' | .again c' => c'.quiet = true ∧ codeAny (model prog w) A c' R s') (fun e s' => R (.error e) s') s := by
  show wpAny _ A.in1 (do let old ← Builtin.List.listItems (.ref S); Builtin.List.listUpdate (.ref S) (fun _ => #[]); letGo old.toList.reverse; Builtin.List.listExtendWith (.ref S) (.ref I) .none) _ _ s
  refine wpAny_bind ?_
  unfold Builtin.List.listItems
  refine wpAny_bind (wpAny_seqItems hS rfl (wpAny_pure ?_))
  show wpAny _ A.in1 (updateSeq S (fun _ => #[]) >>= fun _ => letGo (#[] : Array Value).toList.reverse >>= fun _ => Builtin.List.listExtendWith (.ref S) (.ref I) .none) _ _ s
  refine wpAny_bind (wpAny_updateSeq hS rfl ?_)
  have hS₂ := Heap.get?_update_self (Obj.mapSeq (fun _ => (#[] : Array Value))) hS rfl
  have oth : ∀ b o, b ≠ S → s.heap.get? b = some o → (s.heap.update S (Obj.mapSeq (fun _ => (#[] : Array Value)))).get? b = some o :=
    fun b o hb e => (Heap.get?_update_other _ _ (Ne.symm hb)).trans e
  refine wpAny_bind (wpAny_letGo ?_)
  refine extendH W hT hSI .none _ (W.frame 0 _ _ hst oth) hS₂ (fun h' tk acc' c' hm hS' hacc => ?_) hn
  exact hR h' tk acc' c' (fun b o hb e => hm b o hb (oth b o (fun h => hb (h ▸ List.mem_cons_self)) e)) hS' hacc
end
section
variable {prog : Program} {w : World} {A : Around} {E : Value → Shared → Prop} {s : Shared} {I : Addr} {wr : List Addr} {n : Nat} {P : Nat → Value → Heap → Prop} {St : Nat → Heap → Prop}
theorem call_listH {Q : Value → Shared → Prop} (W : WalkH prog w A.in1.in1 I s.heap.objs.size wr n P St) (hT : ∀ (i : Nat) (s : Shared), St i s.heap → s.TypeIs (.ref I) "zip") (hI : I < s.heap.objs.size) (hst : St 0 (s.heap.push { cls := .type "list", data := .seq #[] }))
    (hQ : ∀ h' tk acc' c', (∀ b o, b ∉ wr → s.heap.get? b = some o → h'.get? b = some o) →
      h'.get? s.heap.objs.size = some { cls := .type "list", dict := none, data := .seq acc' c', slots := #[] } → ItemsH P acc' n h' → Q (.ref s.heap.objs.size) { s with heap := h', toks := tk }) (hn : n ≤ sizeLine) :
    wpAny (model prog w) A (call (.type "list") [.ref I]) Q E s := by
  refine callType_codes (Q₁ := fun obj s₁ => obj = .ref s.heap.objs.size ∧ s₁ = { s with heap := s.heap.push { cls := .type "list", data := .seq #[] } }) F.called_list (F.typeCall_list_1 _) F.entry_list_init
    (code_list_new _ ⟨rfl, rfl⟩) fun obj s₁ h₁ => ?_
  obtain ⟨rfl, rfl⟩ := h₁
  have hS : (s.heap.push { cls := .type "list", data := .seq #[] }).get? s.heap.objs.size = some { cls := .type "list", data := .seq #[] } := Heap.get?_push_size _ rfl
  refine ⟨⟨_, hS, rfl⟩, F.args_list_init_2 _ _, list_initH (A := A.in1) W hT (Nat.ne_of_gt hI) hst hS (fun h' tk acc' c' hm hS' hacc => ?_) hn⟩
  exact ⟨rfl, hQ h' tk acc' c' (fun b o hb e => hm b o (fun z => by
    rcases List.mem_cons.mp z with z | z
    · exact Nat.lt_irrefl _ (z ▸ Heap.lt_size e)
    · exact hb z) (Heap.get?_push_of_some _ e)) hS' hacc⟩
end
section
variable {prog : Program} {w : World} {A : Around} {E : Value → Shared → Prop} {s : Shared} {z TI TO T i1 i2 : Addr} {fp1 fp2 : List Addr} {n1 n2 i : Nat} {P1 P2 : Nat → Value → Prop} {St1 St2 : Nat → Heap → Prop} {f : Bool} {oT : Obj}
theorem zipD2_held_end {Q : Fin → Shared → Prop} (S : ZipSep2 z TI TO i1 i2 fp1 fp2) (D1 : Draws prog w A i1 fp1 n1 P1 St1)
    (hz : IsZipHeld s.heap z TI TO T f) (hT : s.heap.get? T = some oT) (hTI : IsTupOf2 s.heap TI (.ref i1) (.ref i2)) (st1 : St1 n1 s.heap)
    (hE : ∀ h' e, (∀ c o, c ≠ z → c ≠ i1 → c ≠ i2 → s.heap.get? c = some o → h'.get? c = some o) → (∃ o, h'.get? e = some o ∧ o.cls = .type "StopIteration") → E (.ref e) { s with heap := h' }) :
    wpAny (model prog w) A (Builtin.«zip.__next__» ⟨[.ref z], []⟩) Q E s := by
  obtain ⟨hp, g, d, tk0, os⟩ := s
  show wpAny _ _ (field (.ref z) 2 >>= _) _ _ _
  refine wpAny_bind (wpAny_field hz rfl (x := .bool false) rfl ?_)
  show wpAny _ _ (field (.ref z) 3 >>= _) _ _ _
  refine wpAny_bind (wpAny_field hz rfl (x := .ref TI) rfl ?_)
  refine wpAny_bind (wpAny_seqItems hTI rfl ?_)
  show wpAny _ _ (Builtin.SmallTypes.ownedTupleIsFree (.ref z) >>= _) _ _ _
  refine wpAny_bind (wpAny_tupleHeld_zip hz hT fun g0 hz0 hs0 => ?_)
  replace hs0 : Heap.SameBut z hp g0 := hs0
  simp only [Bool.false_eq_true, if_false]
  refine wpAny_bind ?_
  rw [← Array.forIn_toList]
  simp only [List.forIn_cons, List.forIn_nil]
  refine wpAny_bind (wpAny_bind (wpAny_holding ?_))
  show wpAny _ _ (Builtin.SmallTypes.nextOf (.ref i1) >>= _) _ _ ⟨g0, g, d, tk0, os⟩
  refine wpAny_bind (D1.done ⟨g0, g, d, tk0, os⟩ _ _ (D1.over st1 hs0 S.zf1) fun q e hq he => ?_)
  replace hq : Heap.ExtBut i1 g0 q := hq
  exact hE q e (fun c o cz c1 c2 x => hq _ _ c1 (hs0.extBut _ _ cz x)) he
theorem next_held {Q : Option Value → Shared → Prop} (S : ZipSep2 z TI TO i1 i2 fp1 fp2) (D1 : Draws prog w A.in1 i1 fp1 n1 P1 St1) (D2 : Draws prog w A.in1 i2 fp2 n2 P2 St2)
    (hz : IsZipHeld s.heap z TI TO T f) (hT : s.heap.get? T = some oT) (hTI : IsTupOf2 s.heap TI (.ref i1) (.ref i2)) (st1 : St1 i s.heap) (st2 : St2 i s.heap) (hlt1 : i < n1) (hlt2 : i < n2)
    (hQ : ∀ x1 x2 h' tk, P1 i x1 → P2 i x2 → IsZipHeld h' z TI TO T true → St1 (i + 1) h' → St2 (i + 1) h' → IsTupOf2 h' s.heap.objs.size x1 x2 → h'.objs.size = s.heap.objs.size + 1 →
      (∀ c o, c ≠ z → c ≠ i1 → c ≠ i2 → s.heap.get? c = some o → h'.get? c = some o) → Q (some (.ref s.heap.objs.size)) { s with heap := h', toks := tk }) :
    wpAny (model prog w) A (pyNext (.ref z)) Q E s := by
  have hTy : s.TypeIs (.ref z) "zip" := ⟨_, hz, rfl⟩
  unfold pyNext
  exact wpAny_bind (wpAny_attempt (wpAny_callSpecial?_slot (name := Str.ofString "__next__") hTy F.slot_zip_next
    (wpAny_call_entry F.slot_zip_next hTy F.entry_zip_next
      (zipD2_held S D1 D2 hz hT hTI st1 st2 hlt1 hlt2 fun x1 x2 h' tk y1 y2 b1 d1 d2 b5 b6 b7 => wpAny_pure (hQ x1 x2 h' tk y1 y2 b1 d1 d2 b5 b6 b7)) (F.args_zip_next_1 _))))
theorem next_held_end {Q : Option Value → Shared → Prop} (S : ZipSep2 z TI TO i1 i2 fp1 fp2) (D1 : Draws prog w A.in1 i1 fp1 n1 P1 St1)
    (hz : IsZipHeld s.heap z TI TO T f) (hT : s.heap.get? T = some oT) (hTI : IsTupOf2 s.heap TI (.ref i1) (.ref i2)) (st1 : St1 n1 s.heap)
    (hQ : ∀ h', (∀ c o, c ≠ z → c ≠ i1 → c ≠ i2 → s.heap.get? c = some o → h'.get? c = some o) → Q none { s with heap := h' }) : wpAny (model prog w) A (pyNext (.ref z)) Q E s := by
  have hTy : s.TypeIs (.ref z) "zip" := ⟨_, hz, rfl⟩
  unfold pyNext
  refine wpAny_bind (wpAny_attempt (wpAny_callSpecial?_slot (name := Str.ofString "__next__") hTy F.slot_zip_next
    (wpAny_call_entry F.slot_zip_next hTy F.entry_zip_next (zipD2_held_end S D1 hz hT hTI st1 fun h' e hk he => ?_) (F.args_zip_next_1 _))))
  obtain ⟨o, ho, hc⟩ := he
  refine wpAny_bind (wpAny_isInstance (T := "StopIteration") (b := true) ⟨o, ho, hc⟩ isSubtype_stop ?_)
  exact wpAny_pure (hQ _ hk)
end
section
variable {prog : Program} {w : World} {A : Around} {z TI TO i1 i2 S : Addr} {fp1 fp2 : List Addr} {n : Nat} {P1 P2 : Nat → Value → Prop} {St1 St2 : Nat → Heap → Prop}
def ZipP (S : Addr) (wr : List Addr) (P1 P2 : Nat → Value → Prop) (i : Nat) (v : Value) (h : Heap) : Prop := ∃ T x1 x2, v = .ref T ∧ P1 i x1 ∧ P2 i x2 ∧ IsTupOf2 h T x1 x2 ∧ T ∉ S :: wr ∧ S < T
def ZipSt (z TI TO i1 i2 S : Addr) (St1 St2 : Nat → Heap → Prop) (i : Nat) (h : Heap) : Prop := IsTupOf2 h TI (.ref i1) (.ref i2) ∧ St1 i h ∧ St2 i h ∧ (∃ o, h.get? TO = some o) ∧
  ((IsZip h z TI TO .none ∧ ∃ a b, IsTupOf2 h TO a b) ∨ (0 < i ∧ ∃ T f oT, IsZipHeld h z TI TO T f ∧ h.get? T = some oT ∧ T ≠ S ∧ T ≠ z ∧ T ≠ TO ∧ T ≠ i1 ∧ T ≠ i2))
theorem WalkH.zip (hh : A.handled = none) (Sp : ZipSep2 z TI TO i1 i2 fp1 fp2) (D1 : Draws prog w A.in1 i1 fp1 n P1 St1) (D2 : Draws prog w A.in1 i2 fp2 n P2 St2) (hS : S ≠ z ∧ S ≠ TI ∧ S ≠ TO ∧ S ∉ fp1 ∧ S ∉ fp2) :
    WalkH prog w A z S [z, TO, i1, i2] n (ZipP S [z, TO, i1, i2] P1 P2) (ZipSt z TI TO i1 i2 S St1 St2) where
  off := fun hm => by
    simp only [List.mem_cons, List.not_mem_nil, or_false] at hm
    rcases hm with e | e | e | e
    · exact hS.1 e
    · exact hS.2.2.1 e
    · exact hS.2.2.2.1 (e ▸ Sp.mem1)
    · exact hS.2.2.2.2 (e ▸ Sp.mem2)
  keep := fun i v h h' ⟨T, x1, x2, e, p1, p2, t, f, l⟩ hk => ⟨T, x1, x2, e, p1, p2, hk T _ f t, f, l⟩
  there := fun i v h ⟨T, x1, x2, e, _, _, t, _⟩ T' e' => by rw [e] at e'; cases e'; exact ⟨_, t⟩
  frame := fun i h h' ⟨hTI, s1, s2, ⟨o, hTO⟩, q⟩ hk => by
    refine ⟨hk _ _ (Ne.symm hS.2.1) hTI, D1.frame _ _ _ s1 fun b hb o e => hk b o (fun z => hS.2.2.2.1 (z ▸ hb)) e, D2.frame _ _ _ s2 fun b hb o e => hk b o (fun z => hS.2.2.2.2 (z ▸ hb)) e, ⟨o, hk _ _ (Ne.symm hS.2.2.1) hTO⟩, ?_⟩
    rcases q with ⟨hz, a, b, q⟩ | ⟨h0, T, f, oT, hz, hT, t1, t2⟩
    · exact .inl ⟨hk _ _ (Ne.symm hS.1) hz, a, b, hk _ _ (Ne.symm hS.2.2.1) q⟩
    · exact .inr ⟨h0, T, f, oT, hk _ _ (Ne.symm hS.1) hz, hk _ _ t1 hT, t1, t2⟩
  item := fun i s Q E hi ⟨hTI, s1, s2, ⟨oO, hTO⟩, q⟩ hSl hQ => by
    have lt : ∀ {c o}, s.heap.get? c = some o → s.heap.objs.size ≠ c := fun e => Nat.ne_of_gt (Heap.lt_size e)
    have nS : s.heap.objs.size ≠ S := Nat.ne_of_gt hSl
    have n1 : s.heap.objs.size ≠ i1 := let ⟨_, e⟩ := D1.live _ _ s1; lt e
    have n2 : s.heap.objs.size ≠ i2 := let ⟨_, e⟩ := D2.live _ _ s2; lt e
    have nO : s.heap.objs.size ≠ TO := lt hTO
    rcases q with ⟨hz, a, b, q⟩ | ⟨h0, T, f, oT, hz, hT, t1, t2, t3, t4, t5⟩
    · have nz : s.heap.objs.size ≠ z := lt hz
      refine wpAny_pyNext_zipD2_item Sp D1 D2 hz hTI q s1 s2 hi hi fun x1 x2 h' tk y1 y2 b1 b2 d1 d2 b5 b6 hk => ?_
      refine hQ _ h' tk ⟨_, x1, x2, rfl, y1, y2, b5, by simp [nS, nz, nO, n1, n2], hSl⟩ (fun T e => by cases e; exact Nat.le_refl _) ⟨hk _ _ Sp.TIz Sp.TITO Sp.TIi1 Sp.TIi2 hTI, d1, d2, ⟨_, b2⟩, .inr ⟨Nat.succ_pos _, _, false, _, b1, b5, nS, nz, nO, n1, n2⟩⟩ fun b o hb e => ?_
      simp only [List.mem_cons, List.not_mem_nil, or_false, not_or] at hb
      exact hk b o hb.1 hb.2.1 hb.2.2.1 hb.2.2.2 e
    · have nz : s.heap.objs.size ≠ z := lt hz
      refine next_held Sp D1 D2 hz hT hTI s1 s2 hi hi fun x1 x2 h' tk y1 y2 b1 d1 d2 b5 b6 hk => ?_
      refine hQ _ h' tk ⟨_, x1, x2, rfl, y1, y2, b5, by simp [nS, nz, nO, n1, n2], hSl⟩ (fun T e => by cases e; exact Nat.le_refl _) ⟨hk _ _ Sp.TIz Sp.TIi1 Sp.TIi2 hTI, d1, d2, ⟨oO, hk _ _ Sp.TOz Sp.Ti1 Sp.Ti2 hTO⟩, .inr ⟨Nat.succ_pos _, T, true, oT, b1, hk _ _ t2 t4 t5 hT, t1, t2, t3, t4, t5⟩⟩ fun b o hb e => ?_
      simp only [List.mem_cons, List.not_mem_nil, or_false, not_or] at hb
      exact hk b o hb.1 hb.2.2.1 hb.2.2.2 e
  self := fun s Q E ⟨_, _, _, _, q⟩ hQ => by
    rcases q with ⟨hz, _⟩ | ⟨h0, _⟩
    · exact wpAny_pyIter_zip hz hQ
    · exact absurd h0 (Nat.lt_irrefl _)
  done := fun s Q E ⟨hTI, s1, s2, ⟨oO, hTO⟩, q⟩ hQ => by
    rcases q with ⟨hz, a, b, q⟩ | ⟨h0, T, f, oT, hz, hT, t1, t2, t3, t4, t5⟩
    · refine wpAny_pyNext_zipD2_end Sp D1 D2 hz hTI q s1 s2 (Nat.le_refl _) (Nat.le_refl _) (.inl rfl) fun h' tk hk => hQ h' tk fun b o hb e => ?_
      simp only [List.mem_cons, List.not_mem_nil, or_false, not_or] at hb
      exact hk b o hb.1 hb.2.1 hb.2.2.1 hb.2.2.2 e
    · refine next_held_end Sp D1 hz hT hTI s1 fun h' hk => hQ h' s.toks fun b o hb e => ?_
      simp only [List.mem_cons, List.not_mem_nil, or_false, not_or] at hb
      exact hk b o hb.1 hb.2.2.1 hb.2.2.2 e
end
section
variable {prog : Program} {w : World} {A : Around} {E : Value → Shared → Prop} {s : Shared}
/-- list(zip(a, b)) of two sequences of one length -/
theorem call_listzip {a b : Addr} {xs ys : Array Value} {b1 b2 : Bool} {Q : Value → Shared → Prop} (hh : A.handled = none) (h1 : IsSq b1 s.heap a xs) (h2 : IsSq b2 s.heap b ys) (hl : xs.size = ys.size) (hn : xs.size ≤ sizeLine)
    (hQ : ∀ h' tk acc c' L, L = s.heap.objs.size + 5 → (∀ c o, s.heap.get? c = some o → h'.get? c = some o) → h'.get? L = some { cls := .type "list", dict := none, data := .seq acc c', slots := #[] } → acc.size = xs.size →
      (∀ (j : Nat) (v : Value), acc[j]? = some v → ∃ (T : Addr) (x y : Value), v = Value.ref T ∧ xs[j]? = some x ∧ ys[j]? = some y ∧ IsTupOf2 h' T x y ∧ L < T) → (∀ (j j' : Nat) (T : Addr), acc[j]? = some (Value.ref T) → acc[j']? = some (Value.ref T) → j = j') → Q (Value.ref L) { s with heap := h', toks := tk }) :
    wpAny (model prog w) A (call (.type "zip") [.ref a, .ref b]) (fun v s1 => wpAny (model prog w) A (call (.type "list") [v]) Q E s1) E s := by
  have la := isSq_lt h1
  have lb := isSq_lt h2
  refine zip_begins2 (begins_sq a xs b1) (begins_sq b ys b2) h1 h2 fun h' hz hTI hTO ho1 ho2 hsz hk => ?_
  have hL : h'.objs.size = s.heap.objs.size + 5 := hsz
  have Sp := zip_sep2 (N := s.heap.objs.size) (fp1 := [a]) (fp2 := [b]) (fun c hc => by rw [List.mem_singleton] at hc; exact hc ▸ la) (fun c hc => by rw [List.mem_singleton] at hc; exact hc ▸ lb)
  have gt : ∀ {c o}, h'.get? c = some o → h'.objs.size ≠ c := fun e => Nat.ne_of_gt (Heap.lt_size e)
  have old : ∀ {c : Addr}, c < s.heap.objs.size → h'.objs.size ≠ c := fun {c} h => Nat.ne_of_gt (Nat.lt_trans h (Heap.lt_size ho1))
  have W := WalkH.zip (prog := prog) (w := w) (A := A.in1.in1) (S := h'.objs.size) (n := xs.size) hh Sp (draws_sqI (A := A.in1.in1) hh s.heap.objs.size a (Nat.ne_of_lt la) xs b1)
    (by have := draws_sqI (prog := prog) (w := w) (A := A.in1.in1) hh (s.heap.objs.size + 1) b (Nat.ne_of_lt (Nat.lt_succ_of_lt lb)) ys b2; rw [← hl] at this; exact this)
    ⟨gt hz, gt hTI, gt hTO, by simp only [List.mem_cons, List.not_mem_nil, or_false, not_or]; exact ⟨gt ho1, old la⟩, by simp only [List.mem_cons, List.not_mem_nil, or_false, not_or]; exact ⟨gt ho2, old lb⟩⟩
  have up : ∀ c o, h'.get? c = some o → (h'.push { cls := .type "list", data := .seq #[] }).get? c = some o := fun c o e => Heap.get?_push_of_some _ e
  refine call_listH (s := { s with heap := h' }) W ?_ (Heap.lt_size hz) ?_ ?_ hn
  · rintro i s1 ⟨_, _, _, _, q⟩
    rcases q with ⟨hz, _⟩ | ⟨_, T, f, oT, hz, _⟩
    · exact ⟨_, hz, rfl⟩
    · exact ⟨_, hz, rfl⟩
  · exact ⟨up _ _ hTI, ⟨isIt_new (up _ _ ho1), isSq_at h1 fun o e => up _ _ (hk _ _ e)⟩, ⟨isIt_new (up _ _ ho2), isSq_at h2 fun o e => up _ _ (hk _ _ e)⟩, ⟨_, up _ _ hTO⟩, .inl ⟨up _ _ hz, _, _, up _ _ hTO⟩⟩
  · intro h'' tk acc c' hm hS hacc
    refine hQ h'' tk acc c' _ hL (fun c o e => hm c o (fun hc => ?_) (hk c o e)) hS hacc.1 (fun j v hj => ?_) hacc.2.2
    · have lc := Heap.lt_size e
      simp only [List.mem_cons, List.not_mem_nil, or_false] at hc
      rcases hc with rfl | rfl | rfl | rfl
      · exact absurd lc (Nat.not_lt.mpr (Nat.le_add_right _ _))
      · exact absurd lc (Nat.not_lt.mpr (Nat.le_add_right _ _))
      · exact absurd lc (Nat.lt_irrefl _)
      · exact absurd lc (Nat.not_lt.mpr (Nat.le_add_right _ _))
    · obtain ⟨T, x, y, e, p1, p2, t, _, l⟩ := hacc.2.1 j v hj
      exact ⟨T, x, y, e, p1, p2, t, l⟩
end
section
variable {X : Cx} {pins : List (Addr × Obj)} {σ : L2.St} {H H' : Hp} {s : Shared}
/-- many new objects laid and tracked at once -/
theorem inv_laidAll {h' : Heap} {t' : Nat} (I : Inv X pins σ H s) (k : ∀ b u, s.heap.get? b = some u → h'.get? b = some u) (hx : ∀ b o, H b = some o → H' b = some o) (hf : ∀ b u, s.heap.get? b = some u → H b = none → H' b = none)
    (hn : ∀ b o, H' b = some o → H b = some o ∨ ObjOk X.prog X.w H' h' b o) : Inv X pins σ H' { s with heap := h', toks := t' } :=
  I.un { keep := fun b u q _ _ _ => k b u q
         slot := fun b u q _ _ _ => ⟨u.slots, k b u q⟩
         free := fun b u q n _ => hf b u q n
         there := fun b u q _ => ⟨u, k b u q⟩
         tups := fun b xs q => hx _ _ q
         frzs := fun b u xs q => hx _ _ q
         tbls := fun b ps q => ⟨#[], by rw [hx _ _ q]; simp⟩ } (fun b u e => by
    rcases hn b u e with q | q
    · exact (I.hok b u q).stay (fun c v _ q => k c v q) (fun c q => hx _ _ q) fun c xs q => hx _ _ q
    · exact q)
end
end PV
set_option Elab.async false
set_option linter.all false
set_option maxRecDepth 100000
set_option maxHeartbeats 4000000
/-! PV17Y: list(zip(a, b)) as a rule of the layer. -/
namespace PV
open PySem L2 PySem.Spec PyProof.Rows

def listZipArg : Expr → Option (Expr × Expr)
  | .Call (.Name "zip" _) [a, b] [] _ => some (a, b)
  | _ => none
theorem listZipArg_at {e a b : Expr} (h : listZipArg e = some (a, b)) : ∃ p pos, e = .Call (.Name "zip" p) [a, b] [] pos := by
  unfold listZipArg at h
  split at h
  · cases h; exact ⟨_, _, rfl⟩
  · cases h
def isListZip (x : Str) (es : List Expr) (a : Expr) : Option (Expr × Expr) := if x == ("list" : Str) && es.isEmpty then listZipArg a else none
theorem isListZip_at {x : Str} {es : List Expr} {a u v : Expr} (h : isListZip x es a = some (u, v)) : x = "list" ∧ es = [] ∧ ∃ p pos, a = .Call (.Name "zip" p) [u, v] [] pos := by
  unfold isListZip at h
  split at h
  · rename_i hc
    rw [Bool.and_eq_true] at hc
    exact ⟨eq_of_beq hc.1, List.isEmpty_iff.mp hc.2, listZipArg_at h⟩
  · cases h
/-- tuples of two laid at addresses -/
def layZ : Hp → List Addr → List V → List V → Hp
  | H, T :: Ts, x :: xs, y :: ys => layZ (upd H T (.tup [x, y])) Ts xs ys
  | H, _, _, _ => H
theorem layZ_other : ∀ {Ts : List Addr} {H : Hp} {xs ys : List V} {b : Addr}, b ∉ Ts → layZ H Ts xs ys b = H b
  | [], _, _, _, _, _ => by simp [layZ]
  | _ :: _, _, [], _, _, _ => by simp [layZ]
  | _ :: _, _, _ :: _, [], _, _ => by simp [layZ]
  | T :: Ts, H, x :: xs, y :: ys, b, h => by
    have h1 : b ≠ T := fun e => h (e ▸ List.mem_cons_self)
    have h2 : b ∉ Ts := fun e => h (List.mem_cons_of_mem _ e)
    show layZ (upd H T (.tup [x, y])) Ts xs ys b = H b
    rw [layZ_other h2, upd_ne h1]
theorem layZ_some : ∀ {Ts : List Addr} {H : Hp} {xs ys : List V} {b : Addr} {o : HO}, layZ H Ts xs ys b = some o → H b = some o ∨ ∃ (j : Nat) (x y : V), Ts[j]? = some b ∧ xs[j]? = some x ∧ ys[j]? = some y ∧ o = .tup [x, y]
  | [], _, _, _, _, _, h => .inl (by simpa [layZ] using h)
  | _ :: _, _, [], _, _, _, h => .inl (by simpa [layZ] using h)
  | _ :: _, _, _ :: _, [], _, _, h => .inl (by simpa [layZ] using h)
  | T :: Ts, H, x :: xs, y :: ys, b, o, h => by
    have h' : layZ (upd H T (.tup [x, y])) Ts xs ys b = some o := h
    rcases layZ_some h' with q | ⟨j, u, v, q1, q2, q3, q4⟩
    · by_cases e : b = T
      · subst e
        rw [upd_same] at q
        cases q
        exact .inr ⟨0, x, y, rfl, rfl, rfl, rfl⟩
      · rw [upd_ne e] at q
        exact .inl q
    · exact .inr ⟨j + 1, u, v, by simpa using q1, by simpa using q2, by simpa using q3, q4⟩
/-- list(zip(a, b)): what it asks -/
def tLZ (K : PySem.W.Frag) (t : TA) : TE := fun σ H Q => t σ H fun vs H1 => ∃ (a b : Addr) (b1 b2 : Bool) (xs ys : List V), vs = [V.ref a, V.ref b] ∧ Sq K b1 H1 a xs ∧ Sq K b2 H1 b ys ∧ xs.length = ys.length ∧ xs.length ≤ sizeLine ∧
  ∀ (L : Addr) (Ts : List Addr), H1 L = none → (∀ T ∈ Ts, H1 T = none) → L ∉ Ts → Ts.Nodup → Ts.length = xs.length → Q (.ref L) (upd (layZ H1 Ts xs ys) L (.lst (Ts.map V.ref)))
def refsOf : List Value → List Addr
  | [] => []
  | .ref a :: vs => a :: refsOf vs
  | _ :: vs => refsOf vs
theorem refsOf_eq : ∀ (vs : List Value), (∀ v ∈ vs, ∃ T, v = Value.ref T) → vs = (refsOf vs).map Value.ref
  | [], _ => rfl
  | v :: vs, h => by
    obtain ⟨T, rfl⟩ := h v List.mem_cons_self
    show Value.ref T :: vs = Value.ref T :: (refsOf vs).map Value.ref
    rw [← refsOf_eq vs fun u hu => h u (List.mem_cons_of_mem _ hu)]
theorem vals_refs : ∀ (Ts : List Addr), Vals (Ts.map V.ref) (Ts.map Value.ref)
  | [] => .nil
  | T :: Ts => .cons rfl (vals_refs Ts)
section
variable {X : Cx} {t : TA} {a b : Expr} {p p2 pos pos2 : Pos}
theorem pe_lzip (hc : X.calm = true) (hg : Gl X "list") (hm : X.mg "list" = none) (hg2 : Gl X "zip") (hm2 : X.mg "zip" = none) (ha : PA X [a, b] t) (he : starEach [a, b] X.env = (false, eval a X.env) :: starEach [b] X.env)
    (hpl : (backTo pos2 (starEach [b] X.env)).any (·.1) = false) : PE X (.Call (.Name "list" p) [.Call (.Name "zip" p2) [a, b] [] pos2] [] pos) (tLZ X.K t) := by
  refine ⟨fun pins s σ H Q I h => ?_⟩
  refine Call_ (ld_blt I hg hm boot_list (PyProof.Rows.callWith_type1 (args_cons ?_ rfl) rfl))
  refine Call_ (ld_blt I hg2 hm2 (show bootBuiltins ("zip" : Str) = some (.type "zip") by decide +kernel) (PyProof.Rows.callWith_type1 (thn (ha.run pos2 pins s σ H _ I h) fun us s1 ⟨vs, H1, I1, r1, a, b, b1, b2, xs, ys, ev, hq1, hq2, hl, hn, q⟩ => ?_) he hpl))
  subst ev
  obtain ⟨ua, ub, rfl, ra, rb⟩ : ∃ ua ub, us = [ua, ub] ∧ RelV (V.ref a) ua ∧ RelV (V.ref b) ub := by
    cases r1 with | cons ra r1 =>
    cases r1 with | cons rb r1 =>
    cases r1
    exact ⟨_, _, rfl, ra, rb⟩
  obtain rfl : ua = .ref a := ra
  obtain rfl : ub = .ref b := rb
  obtain ⟨its, rv, q1⟩ := inv_sq I1 hq1
  obtain ⟨its2, rv2, q2⟩ := inv_sq I1 hq2
  have l1 := rv.length
  have l2 := rv2.length
  refine thn (call_listzip (I1.ok.hd hc) q1 q2 (by simp; omega) (by simp; omega) (fun h' tk acc c' L hL hk hLo hsz hit hdis => ?_) : wpAny (model X.prog X.w) X.A _ (fun v s1 => wpAny (model X.prog X.w) X.A (call (.type "list") [v]) (EP X pins σ Q) X.xe s1) X.xe s1) fun v s2 h2 => args_nil h2
  have all : ∀ v ∈ acc.toList, ∃ T, v = Value.ref T := fun v hv => by
    obtain ⟨j, hj⟩ := List.getElem?_of_mem hv
    obtain ⟨T, x, y, e, _⟩ := hit j v (by rw [← hj, Array.getElem?_toList])
    exact ⟨T, e⟩
  have eacc := refsOf_eq acc.toList all
  obtain ⟨Ts, hTs⟩ : ∃ Ts, refsOf acc.toList = Ts := ⟨_, rfl⟩
  rw [hTs] at eacc
  have at' : ∀ (j : Nat) (T : Addr), Ts[j]? = some T → acc[j]? = some (Value.ref T) := fun j T hj => by
    rw [← Array.getElem?_toList, eacc, List.getElem?_map, hj]; rfl
  have info : ∀ (j : Nat) (T : Addr), Ts[j]? = some T → ∃ x y, its[j]? = some x ∧ its2[j]? = some y ∧ IsTupOf2 h' T x y ∧ L < T := fun j T hj => by
    obtain ⟨T', x, y, e, h1, h2, h3, h4⟩ := hit j _ (at' j T hj)
    cases e
    exact ⟨x, y, by simpa using h1, by simpa using h2, h3, h4⟩
  have big : ∀ T ∈ Ts, L < T := fun T hT => by
    obtain ⟨j, hj⟩ := List.getElem?_of_mem hT
    obtain ⟨_, _, _, _, _, h4⟩ := info j T hj
    exact h4
  have lenT : Ts.length = xs.length := by
    have e1 : acc.toList.length = Ts.length := by rw [eacc, List.length_map]
    rw [← e1, Array.length_toList, hsz]
    simp
    omega
  have hLs : s1.heap.objs.size ≤ L := by rw [hL]; exact Nat.le_add_right _ _
  have newL : H1 L = none := I1.hok.fresh hLs
  have newT : ∀ T ∈ Ts, H1 T = none := fun T hT => I1.hok.fresh (Nat.le_trans hLs (Nat.le_of_lt (big T hT)))
  have nLT : L ∉ Ts := fun hm => Nat.lt_irrefl _ (big L hm)
  have nd : Ts.Nodup := List.pairwise_iff_getElem.mpr fun i j hi hj hij e => by
    have hjT : Ts[j]? = some Ts[j] := List.getElem?_eq_getElem hj
    have hiT : Ts[i]? = some Ts[j] := by rw [List.getElem?_eq_getElem hi, e]
    exact absurd (hdis i j _ (at' i _ hiT) (at' j _ hjT)) (Nat.ne_of_lt hij)
  refine ⟨.ref L, _, inv_laidAll (t' := tk) (h' := h') (H' := upd (layZ H1 Ts xs ys) L (.lst (Ts.map V.ref))) I1 hk (fun c o e => ?_) (fun c u e n => ?_) (fun c o e => ?_), rfl, q L Ts newL newT nLT nd lenT⟩
  · have n1 : c ≠ L := fun z => by rw [z, newL] at e; cases e
    have n2 : c ∉ Ts := fun z => by rw [newT c z] at e; cases e
    rw [upd_ne n1, layZ_other n2]
    exact e
  · have lc := Heap.lt_size e
    have n1 : c ≠ L := Nat.ne_of_lt (Nat.lt_of_lt_of_le lc hLs)
    have n2 : c ∉ Ts := fun z => absurd (Nat.lt_of_lt_of_le lc (Nat.le_trans hLs (Nat.le_of_lt (big c z)))) (Nat.lt_irrefl _)
    rw [upd_ne n1, layZ_other n2]
    exact n
  · by_cases e1 : c = L
    · subst e1
      rw [upd_same] at e
      cases e
      refine .inr (show ObjOk X.prog X.w _ _ _ (.lst (Ts.map V.ref)) from ⟨by rw [List.length_map, lenT]; exact hn, acc.toList, c', by rw [eacc]; exact vals_refs Ts, by rw [Array.toArray_toList]; exact hLo⟩)
    · rw [upd_ne e1] at e
      rcases layZ_some e with z | ⟨j, x, y, h1, h2, h3, rfl⟩
      · exact .inl z
      · obtain ⟨u, v, k1, k2, k3, _⟩ := info j c h1
        obtain ⟨u', k1', ru⟩ := rv.get h2
        obtain ⟨v', k2', rv'⟩ := rv2.get h3
        rw [k1] at k1'
        rw [k2] at k2'
        cases k1'
        cases k2'
        exact .inr (show ObjOk X.prog X.w _ _ _ (.tup [x, y]) from ⟨by show 2 ≤ sizeLine; decide, [u, v], .cons ru (.cons rv' .nil), ⟨_, k3, rfl, _, rfl⟩⟩)
end
/-! ### the combinator -/
def opLZip : List D → Option SV
  | [x, y] => match (SV.dat x).seq, (SV.dat y).seq with
    | some xs, some ys => if xs.length = ys.length ∧ xs.length ≤ line then some (.own (zipD2 xs ys)) else none
    | _, _ => none
  | _ => none
/-- list(zip(x, y)) of two of one length -/
def mLZip (a b : M D) : M SV := mBind (mAll [a, b]) fun ds => mOpt (opLZip ds)
section
variable {c : Cn} {g : Rng} {T : Tm} {e : Env} {σ : L2.St}
theorem run_layZ : ∀ {Ts : List Addr} {F H : Hp} {xs ys : List V} {dx dy : List D}, Rel c F T e g σ H → (∀ t ∈ Ts, H t = none) → Ts.Nodup → Ts.length = xs.length → xs.length = ys.length → Reps c F xs dx → Reps c F ys dy →
    ∃ F', Rel c F' T e g σ (layZ H Ts xs ys) ∧ Ext c F T H F' T (layZ H Ts xs ys) ∧ Reps c F' (Ts.map V.ref) (zipD2 dx dy)
  | [], F, H, xs, ys, dx, dy, R, _, _, h1, h2, rx, ry => by
    have e1 : xs = [] := List.eq_nil_of_length_eq_zero h1.symm
    subst e1
    cases rx
    refine ⟨F, by simpa [layZ] using R, by simpa [layZ] using Ext.refl, ?_⟩
    simp only [List.map_nil, zipD2]
    exact .nil
  | t :: Ts, F, H, [], _, _, _, R, _, _, h1, _, _, _ => by simp at h1
  | t :: Ts, F, H, _ :: _, [], _, _, R, _, _, _, h2, _, _ => by simp at h2
  | t :: Ts, F, H, x :: xs, y :: ys, _, _, R, hf, nd, h1, h2, .cons (d := d) (ds := dx) rx rxs, .cons (d := d2) (ds := dy) ry rys => by
    have ht : H t = none := hf t List.mem_cons_self
    have nd' := List.nodup_cons.mp nd
    have hFt := R.base.free ht
    have R1 := R.put (o := .tup [x, y]) ht
    have s1 : Sub F (upd F t (.tup [x, y])) := Sub.new hFt
    obtain ⟨F', R2, x2, r2⟩ := run_layZ (Ts := Ts) R1 (fun u hu => by rw [upd_ne (show u ≠ t from fun z => nd'.1 (by rw [← z]; exact hu))]; exact hf u (List.mem_cons_of_mem _ hu)) nd'.2 (by simpa using h1) (by simpa using h2) (rxs.mono s1) (rys.mono s1)
    refine ⟨F', R2, (Ext.put hFt ht).trans x2, ?_⟩
    show Reps c F' (V.ref t :: Ts.map V.ref) (.tup [d, d2] :: zipD2 dx dy)
    exact .cons (.tup (x2.f _ _ upd_same) (.cons ((rx.mono s1).mono x2.f) (.cons ((ry.mono s1).mono x2.f) .nil))) r2
end
section
variable {X : Cx} {c : Cn} {W : WX} {a b : Expr} {ma mb : M D} {p p2 pos pos2 : Pos}
theorem seq_sq {K : PySem.W.Frag} {F H : Hp} {g : Rng} {v : V} {d : D} {ds : List D} (bs : Base c F g H) (r : Rep c F v d) (h : (SV.dat d).seq = some ds) : ∃ (a : Addr) (b : Bool) (xs : List V), v = .ref a ∧ Sq K b H a xs ∧ Reps c F xs ds := by
  cases d with
  | tup es => cases h; cases r with | tup k r => exact ⟨_, true, _, rfl, .inl (.of (bs.sub _ _ k)), r⟩
  | lst es => cases h; cases r with | lst k r => exact ⟨_, false, _, rfl, .inl (.of (bs.sub _ _ k)), r⟩
  | _ => cases h
theorem se_lzip (hc : X.calm = true) (hg : Gl X "list") (hm : X.mg "list" = none) (hg2 : Gl X "zip") (hm2 : X.mg "zip" = none) (ha : PA X [a, b] (tA c W (mAll [ma, mb]))) (he : starEach [a, b] X.env = (false, eval a X.env) :: starEach [b] X.env)
    (hpl : (backTo pos2 (starEach [b] X.env)).any (·.1) = false) : PE X (.Call (.Name "list" p) [.Call (.Name "zip" p2) [a, b] [] pos2] [] pos) (tO c W (mLZip ma mb)) :=
  peImp (pe_lzip hc hg hm hg2 hm2 ha he hpl) fun σ H Q ⟨F, T, e, g, R, q⟩ => goA R q fun ds vs F1 T1 H1 e1 g1 R1 x1 r1 q1 => by
    obtain ⟨sv, hs, q2⟩ := Post.opt q1
    unfold opLZip at hs
    split at hs
    · rename_i x y
      split at hs
      · rename_i dx dy ex ey
        split at hs
        · rename_i hl
          cases hs
          cases r1 with | cons rx r1 =>
          cases r1 with | cons ry r1 =>
          cases r1
          obtain ⟨u, b1, xs, rfl, s1, rxs⟩ := seq_sq (K := X.K) R1.base rx ex
          obtain ⟨v, b2, ys, rfl, s2, rys⟩ := seq_sq (K := X.K) R1.base ry ey
          have l1 := rxs.length
          have l2 := rys.length
          refine ⟨u, v, b1, b2, xs, ys, rfl, s1, s2, by omega, by rw [l1, sizeLine_eq]; have := hl.2; unfold line at this; omega, fun L Ts hL hT hn nd hlen => ?_⟩
          obtain ⟨F', R2, x2, r2⟩ := run_layZ R1 hT nd hlen (by omega) rxs rys
          have hL' : layZ H1 Ts xs ys L = none := by rw [layZ_other hn]; exact hL
          have := q2 F' T1 _ R2 x2
          exact wishL (W := W) R2 (fun p hp => x1.n p (x2.n p hp)) (fun F' T' H' R x => q2 F' T' H' R (x2.trans x)) r2 hL'
        · cases hs
      · cases hs
    · cases hs
end
end PV
set_option Elab.async false
set_option linter.all false
set_option maxRecDepth 100000
set_option maxHeartbeats 4000000
/-! PV17D: len(model), model == x, by the class's own defs. -/
namespace PV
open PySem L2 PySem.Spec PyProof.Rows

/-- the class's own def of a name -/
structure DunOf (K : PySem.W.Frag) (C : Addr) (f : Str) (g : Addr) : Prop where
  at_ : PySem.W.findIn K (.ref C) f = some (some (.ref g))
  fn : PySem.W.isFn K (.ref g) = true
  tup : PySem.W.notFirst K C (.type "tuple") = true
section
variable {X : Cx} {C g : Addr} {k : Nat} {fd : FuncData} {ps : List Str} {sp : Sp}
theorem fnr_of (F : FnOk X.prog X.w X.K X.mg X.base (L2.CX X.prog X.w) k g fd ps sp) (hb : Binds X.K fd ps []) {A : Around} {outer : List PySem.Env} {s : Shared} {H : Hp} {us : List Value} {vs : List V} {Q : VK} {E : XK} (hr : Room k A) (e0 : Env0 X.prog X.w X.K X.mg X.base A outer s H) (kin : X.K.In s.heap) (r : Vals vs us) (h : sp vs H Q E) :
    codeAny (model X.prog X.w) A (.call (.ref g) ⟨us, []⟩) (L2.CR (L2.CX X.prog X.w) outer X.prog X.w H s Q E) s := by
  have hl : us.length = ps.length := by rw [← F.len _ _ _ _ h, r.length]
  have hb2 := hb s us kin (by rw [List.append_nil]; exact hl)
  rw [List.append_nil] at hb2
  exact F.run A outer s H ⟨us, []⟩ us vs Q E hr e0 hb2 r h
/-- x == y of an instance, by the class's own def -/
theorem op_eqM (hs : DunOf X.K C "__eq__" g) (F : FnOk X.prog X.w X.K X.mg X.base (L2.CX X.prog X.w) k g fd ps sp) (hr : Room k X.A) (hb : Binds X.K fd ps []) :
    OpR X (compareOp .Eq) (fun x y H Q => ∃ a dx fs, x = V.ref a ∧ H a = some (.ins C dx fs) ∧ ((∃ b dy gs, y = V.ref b ∧ H b = some (.ins C dy gs)) ∨ ∃ b ys, y = V.ref b ∧ H b = some (.tup ys)) ∧ sp [x, y] H Q E0) := by
  intro pins s σ H x y v u Q I rx ry h
  obtain ⟨a, dx, fs, rfl, ea, hy, q⟩ := h
  cases (show v = Value.ref a from rx)
  obtain ⟨mA, O, _, _, _, _⟩ := ins_get I.hok ea
  obtain ⟨od, J, _⟩ := O.look
  obtain ⟨m, hF⟩ := I.fr
  obtain ⟨b, tb, rfl, hlook, hn⟩ : ∃ b tb, y = V.ref b ∧ PySem.W.Looks (model X.prog X.w) s.heap (typeOf (.ref b)) tb ∧ PySem.W.notFirst X.K C tb = true := by
    rcases hy with ⟨b, dy, gs, rfl, eb⟩ | ⟨b, ys, rfl, eb⟩
    · obtain ⟨mB, O', _, _, _, _⟩ := ins_get I.hok eb
      obtain ⟨od', J', _⟩ := O'.look
      exact ⟨b, _, rfl, J'.type, by unfold PySem.W.notFirst; simp⟩
    · obtain ⟨_, its, _, ob, eo, ec, _⟩ := (show ObjOk X.prog X.w H s.heap b (.tup ys) from I.hok b _ eb)
      exact ⟨b, .type "tuple", rfl, (PySem.W.Looks.ld eo).andThen (by rw [ec]; exact .now), hs.tup⟩
  cases (show u = Value.ref b from ry)
  show wpAny (model X.prog X.w) X.A (richCompare .Eq (.ref a) (.ref b)) _ _ s
  refine PySem.W.cmp_K (op := .Eq) (tb := tb) hr.units0 hF I.ok.mod.kin J hlook hn hs.at_ hs.fn ?_
  refine wpAny_call (codeAny_mono (fnr_of F hb (us := [.ref a, .ref b]) (vs := [V.ref a, V.ref b]) hr I.env0 I.kIn (.cons rfl (.cons rfl .nil)) q) fun r s' hq => ?_)
  cases r with
  | error e => exact passL pins σ H s e s' I hq
  | ok fl =>
    cases fl with
    | ret u =>
      obtain ⟨v, H', I3, rv, q3⟩ := I.after hq
      exact SlX.cmpback rv ⟨v, H', I3, rv, q3⟩
    | next => exact False.elim hq
    | brk => exact False.elim hq
    | cont => exact False.elim hq
/-- len(x) of an instance, by the class's own def -/
theorem call_lenM (hs : DunOf X.K C "__len__" g) (F : FnOk X.prog X.w X.K X.mg X.base (L2.CX X.prog X.w) k g fd ps sp) (hr : Room (k + 1) X.A) (hb : Binds X.K fd ps []) :
    CallR X (.builtin "len") (fun xs H Q => ∃ a dx fs, xs = [V.ref a] ∧ H a = some (.ins C dx fs) ∧ sp xs H (fun v H' => ∃ n : Nat, v = .int n ∧ n < 2 ^ 62 ∧ Q v H') E0) := by
  intro pins s σ H xs us Q I r h
  obtain ⟨a, dx, fs, rfl, ea, q⟩ := h
  obtain ⟨u, rfl, ru⟩ := vals1 r
  obtain rfl : u = Value.ref a := ru
  obtain ⟨mA, O, _, _, _, _⟩ := ins_get I.hok ea
  obtain ⟨od, J, _⟩ := O.look
  refine Calls.call_function_entry kind_len plain_len entry_len (args_len1 _) ?_
  unfold Builtin.«len»
  refine wpAny_bind (m := oneArg "len" _) (wpAny_pure ?_)
  refine wpAny_bind (m := callSpecial? (.ref a) (PySem.Str.ofString "__len__")) (PySem.W.special_fn I.kIn J hs.at_ (beq_iff_eq.mp hs.fn) (wpAny_call (codeAny_mono (fnr_of F hb (us := [.ref a]) (vs := [V.ref a]) (A := X.A.in1) hr.in1 I.env0.in1 I.kIn (.cons rfl .nil) q) fun r s' hq => ?_)))
  cases r with
  | error e => exact passL pins σ H s e s' I hq
  | ok fl =>
    cases fl with
    | ret u =>
      obtain ⟨v, H', I3, rv, n, ev, hn, q3⟩ := I.after hq
      subst ev
      obtain ⟨t, rfl⟩ := rv
      refine wpAny_bind (wpAny_holding (wpAny_pure ?_))
      refine wpAny_bind (wpAny_letGo ?_)
      show wpAny _ _ (if ((n : Nat) : Int) < 0 then _ else _) _ _ _
      rw [if_neg (by omega)]
      show wpAny _ _ (if ((n : Nat) : Int) ≥ 2 ^ 63 then _ else _) _ _ _
      rw [if_neg (by omega)]
      exact wpAny_bind (wpAny_mkInt (wpAny_pure ⟨_, rfl, .int n, H', I3.tok _, ⟨_, rfl⟩, q3⟩))
    | next => exact False.elim hq
    | brk => exact False.elim hq
    | cont => exact False.elim hq
end
/-! ### the combinators -/
def dun (x : Str) : Bool := x == ("__len__" : Str) || x == ("__eq__" : Str)
/-- a property of the class Model, or one of its own defs for len and == -/
def PrIs (K : PySem.W.Frag) (C : Addr) (x : Str) (pa fa : Addr) : Prop := if dun x = true then DunOf K C x fa else PropOf K C x pa fa
def prN (x : Str) : Nat := if x = ("__eq__" : Str) then 2 else 1
theorem PrIs.ofProp {K : PySem.W.Frag} {C pa fa : Addr} {x : Str} (h : PropOf K C x pa fa) (hd : dun x = false) : PrIs K C x pa fa := by
  unfold PrIs
  rw [if_neg (by simp [hd])]
  exact h
theorem PrIs.ofDun {K : PySem.W.Frag} {C pa fa : Addr} {x : Str} (h : DunOf K C x fa) (hd : dun x = true) : PrIs K C x pa fa := by
  unfold PrIs
  rw [if_pos hd]
  exact h
theorem PrIs.isProp {K : PySem.W.Frag} {C pa fa : Addr} {x : Str} (h : PrIs K C x pa fa) (hd : dun x = false) : PropOf K C x pa fa := by
  unfold PrIs at h
  rw [if_neg (by simp [hd])] at h
  exact h
theorem PrIs.isDun {K : PySem.W.Frag} {C pa fa : Addr} {x : Str} (h : PrIs K C x pa fa) (hd : dun x = true) : DunOf K C x fa := by
  unfold PrIs at h
  rw [if_pos hd] at h
  exact h
theorem prN_prop {x : Str} (hd : dun x = false) : prN x = 1 := by
  unfold prN
  rw [if_neg]
  rintro rfl
  revert hd
  decide
/-- len(x), x a model or another thing -/
def mLen (f : SemF) (m : M SV) : M SV := mBind m fun v => fun e g => match v with
  | .dat (.mdl t) => (match f [.mdl t] g with
    | .ok (.dat (.int n)) g' => if 0 ≤ n ∧ n < 2 ^ 62 then .ok (.dat (.int n)) e g' else .stuck
    | _ => .stuck)
  | v => mOpt (opBn .len [v]) e g
def D.mt : D → Bool
  | .mdl _ => true
  | .tup _ => true
  | _ => false
/-- x == y, x a model or another thing -/
def mEqM (f : SemF) (a b : M SV) : M Bool := mBind a fun x => mBind b fun y => fun e g => match x with
  | .dat (.mdl t) => (match y with
    | .dat d => if d.mt = true then (match f [.mdl t, d] g with
      | .ok (.dat (.bl r)) g' => .ok r e g'
      | _ => .stuck) else .stuck
    | _ => .stuck)
  | x => mOpt (opCmp .eq x y) e g
section
variable {X : Cx} {c : Cn} {W : WX} {a b : Expr} {ma mb : M SV} {p pos : Pos} {f : SemF} {k : Nat} {fa : Addr} {fd : FuncData} {ps : List Str}
theorem se_len (hs : DunOf X.K c.Md "__len__" fa) (G : FnOk X.prog X.w X.K X.mg X.base (L2.CX X.prog X.w) k fa fd ps (spOf c 1 f)) (hr : Room (k + 1) X.A) (hb : Binds X.K fd ps [])
    (hg : Gl X "len") (hm : X.mg "len" = none) (ha : PE X a (tP c W ma)) (he : starEach [a] X.env = (false, eval a X.env) :: starEach [] X.env) : PE X (.Call (.Name "len" p) [a] [] pos) (tO c W (mLen f ma)) :=
  peImp (pe_callB ((call_lenM hs G hr hb).or call_len) hg hm (by decide +kernel) (pa_cons ha pa_nil he) (by decide) (by decide) he (by rfl)) fun σ H Q ⟨F, T, e, g, R, p⟩ => goP R p fun sv v F1 T1 H1 e1 g1 R1 x1 p1 q1 => by
    have other : ∀ {sv2 : SV}, opBn .len [sv] = some sv2 → Post c W σ F1 T1 H1 (.ok sv2 e1 g1) (Wish c H Q) → (∃ a dx fs, [v] = [V.ref a] ∧ H1 a = some (.ins c.Md dx fs) ∧ spOf c 1 f [v] H1 (fun v H' => ∃ n : Nat, v = .int n ∧ n < 2 ^ 62 ∧ Q v H') E0) ∨ ∃ x n, [v] = [x] ∧ LenV X.K x H1 n ∧ Q (.int n) H1 := fun h1 h2 =>
      .inr (br_len (K := X.K) (W := W) R1 x1.n (.cons p1 .nil) h1 h2)
    have viaOpt : Post c W σ F1 T1 H1 (mOpt (opBn .len [sv]) e1 g1) (Wish c H Q) → (∃ a dx fs, [v] = [V.ref a] ∧ H1 a = some (.ins c.Md dx fs) ∧ spOf c 1 f [v] H1 (fun v H' => ∃ n : Nat, v = .int n ∧ n < 2 ^ 62 ∧ Q v H') E0) ∨ ∃ x n, [v] = [x] ∧ LenV X.K x H1 n ∧ Q (.int n) H1 := fun h => by
      obtain ⟨sv2, h1, h2⟩ := Post.opt h
      exact other h1 h2
    cases sv with
    | dat d =>
      cases d with
      | mdl t =>
        have p' : Rep c F1 v (.mdl t) := p1
        cases p' with | mdl kk r =>
        refine .inl ⟨_, _, _, rfl, R1.base.sub _ _ kk, rfl, F1, [.mdl t], g1, R1.base, .cons (.mdl kk r) .nil, ?_⟩
        dsimp only at q1
        split at q1
        · rename_i n g' e1'
          rw [e1']
          split at q1
          · rename_i hn
            intro v F' H' bs x o
            have o' : Rep c F' v (.int n) := o
            cases o'
            exact ⟨n.toNat, by rw [Int.toNat_of_nonneg hn.1], by have := hn.2; omega, q1 F' T1 H' (R1.after bs x) x.ext _ (.int n)⟩
          · exact (show False from q1).elim
        · exact (show False from q1).elim
      | _ => exact viaOpt q1
    | _ => exact viaOpt q1
theorem eqMGo (hs : DunOf X.K c.Md "__eq__" fa) {σ : L2.St} {H : Hp} {Q : Bool → Hp → Prop} {K0 : VK} (hK : ∀ k H', Q k H' → K0 (.bl k) H') (h : tT c W (mEqM f ma mb) σ H Q) :
    tOp (fun x y H Q => (∃ a dx fs, x = V.ref a ∧ H a = some (.ins c.Md dx fs) ∧ ((∃ b dy gs, y = V.ref b ∧ H b = some (.ins c.Md dy gs)) ∨ ∃ b ys, y = V.ref b ∧ H b = some (.tup ys)) ∧ spOf c 2 f [x, y] H Q E0) ∨ rEqD X.K x y H Q) (tP c W ma) (tP c W mb) σ H K0 := by
  obtain ⟨F, T, e, g, R, p⟩ := h
  exact goP R p fun sa x F1 T1 H1 e1 g1 R1 x1 p1 q1 => goP R1 q1 fun sb y F2 T2 H2 e2 g2 R2 x2 p2 q2 => by
    have viaOpt : Post c W σ F2 T2 H2 (mOpt (opCmp .eq sa sb) e2 g2) (fun b F' T' H' _ _ => Q b H') → rEqD X.K x y H2 K0 := fun h => by
      obtain ⟨k, hs, q⟩ := Post.opt h
      exact cr_eq R2 (p1.ext x2) p2 hs (hK _ _ (doneQ R2 q))
    have p1' := p1.ext x2
    cases sa with
    | dat d =>
      cases d with
      | mdl t =>
        have r1 : Rep c F2 x (.mdl t) := p1'
        cases sb with
        | dat d2 =>
          dsimp only at q2
          split at q2
          · rename_i hmt
            have r2 : Rep c F2 y d2 := p2
            have r1' := r1
            cases r1' with | mdl kk r =>
            refine .inl ⟨_, _, _, rfl, R2.base.sub _ _ kk, ?_, rfl, F2, [.mdl t, d2], g2, R2.base, .cons r1 (.cons r2 .nil), ?_⟩
            · cases d2 with
              | mdl t2 => cases r2 with | mdl k2 _ => exact .inl ⟨_, _, _, rfl, R2.base.sub _ _ k2⟩
              | tup es => cases r2 with | tup k2 _ => exact .inr ⟨_, _, rfl, R2.base.sub _ _ k2⟩
              | _ => cases hmt
            · split at q2
              · rename_i rr g' e1'
                rw [e1']
                intro v F' H' bs x o
                have o' : Rep c F' v (.bl rr) := o
                cases o'
                exact hK _ _ (q2 F' T2 H' (R2.after bs x) x.ext)
              · exact (show False from q2).elim
          · exact (show False from q2).elim
        | _ => exact (show False from q2).elim
      | _ => exact .inr (viaOpt q2)
    | _ => exact .inr (viaOpt q2)
theorem st_eqM (hu : X.A.units + 65 < cLine) (hs : DunOf X.K c.Md "__eq__" fa) (G : FnOk X.prog X.w X.K X.mg X.base (L2.CX X.prog X.w) k fa fd ps (spOf c 2 f)) (hr : Room k X.A) (hb : Binds X.K fd ps [])
    (ha : PE X a (tP c W ma)) (hb2 : PE X b (tP c W mb)) (hm : behindInMarks .Eq b = false) : PT X (.Compare a [.Eq] [b] pos) (tT c W (mEqM f ma mb)) :=
  ptImp (pt_cmpR ((op_eqM hs G hr hb).or (op_eqD (by omega))) ha hb2 hm) fun σ H Q h => eqMGo hs (fun k H' q => ⟨k, rfl, q⟩) h
theorem se_eqM (hu : X.A.units + 65 < cLine) (hs : DunOf X.K c.Md "__eq__" fa) (G : FnOk X.prog X.w X.K X.mg X.base (L2.CX X.prog X.w) k fa fd ps (spOf c 2 f)) (hr : Room k X.A) (hb : Binds X.K fd ps [])
    (ha : PE X a (tP c W ma)) (hb2 : PE X b (tP c W mb)) (hm : behindInMarks .Eq b = false) : PE X (.Compare a [.Eq] [b] pos) (tO c W (mB (mEqM f ma mb))) :=
  peImp (pe_cmpR ((op_eqM hs G hr hb).or (op_eqD (by omega))) ha hb2 hm) fun σ H Q h => eqMGo hs (fun k H' q => q) (tB_of h)
end
end PV
set_option Elab.async false
set_option linter.all false
set_option maxRecDepth 100000
set_option maxHeartbeats 4000000
/-! PV17T: a dict whose keys are pairs of ints: {}, x[(a, b)] = v, (a, b) in x, x[(a, b)]. -/
namespace PV
open PySem L2 PySem.Spec PyProof.Rows

def D.pair : D → Option (Int × Int)
  | .tup [.int x, .int y] => some (x, y)
  | _ => none
def dtGet (kvs : List ((Int × Int) × D)) (k : Int × Int) : Option D := (kvs.find? fun kv => decide (kv.1 = k)).map (·.2)
def dtPut (kvs : List ((Int × Int) × D)) (k : Int × Int) (d : D) : List ((Int × Int) × D) :=
  if (kvs.any fun kv => decide (kv.1 = k)) = true then kvs.map (fun kv => if kv.1 = k then (kv.1, d) else kv) else kvs ++ [(k, d)]
def dtAt (i : Nat) (k : D) : M (List ((Int × Int) × D) × (Int × Int)) := fun e g => match e[i]? with
  | some (some (.dt kvs)) => match k.pair with
    | some p => .ok (kvs, p) e g
    | none => .stuck
  | _ => .stuck
def mDNew : M SV := mRet (.dt [])
/-- x[(a, b)] -/
def mDGet (i : Nat) (m : M D) : M SV := mBind (mVarP i) fun _ => mBind m fun k => mBind (dtAt i k) fun q => mOpt ((dtGet q.1 q.2).map .dat)
/-- (a, b) in x -/
def mDIn (m : M D) (i : Nat) : M Bool := mBind m fun k => mBind (dtAt i k) fun q => mRet (dtGet q.1 q.2).isSome
def setDt (i : Nat) (kvs : List ((Int × Int) × D)) : S := fun e g => .ok none (e.set i (some (.dt kvs))) g
/-- x[(a, b)] = v -/
def sDPut (i : Nat) (mk m : M D) : S := mBind m fun d => mBind (mVarP i) fun _ => mBind mk fun k => mBind (dtAt i k) fun q => mBind (mMust (decide (q.1.length < line))) fun _ => setDt i (dtPut q.1 q.2 d)

def keyP (p : Int × Int) : List L2.Key := [Sum.inl p.1, Sum.inl p.2]
theorem keyP_inj {p q : Int × Int} (h : keyP p = keyP q) : p = q := by
  unfold keyP at h
  simp only [List.cons.injEq, Sum.inl.injEq, and_true] at h
  exact Prod.ext h.1 h.2
/-- a dict in the heap and its pairs -/
inductive DtR (c : Cn) (F : Hp) : List (List L2.Key × V) → List ((Int × Int) × D) → Prop
  | nil : DtR c F [] []
  | cons {p : Int × Int} {v : V} {d : D} {ws : List (List L2.Key × V)} {kvs : List ((Int × Int) × D)} : Rep c F v d → DtR c F ws kvs → DtR c F ((keyP p, v) :: ws) ((p, d) :: kvs)
section
variable {c : Cn} {F : Hp}
theorem DtR.of : ∀ {ws : List (List L2.Key × V)} {kvs : List ((Int × Int) × D)}, ws.length = kvs.length → (∀ (j : Nat) kv w, kvs[j]? = some kv → ws[j]? = some w → w.1 = [Sum.inl kv.1.1, Sum.inl kv.1.2] ∧ Rep c F w.2 kv.2) → DtR c F ws kvs
  | [], [], _, _ => .nil
  | [], _ :: _, h, _ => by simp at h
  | _ :: _, [], h, _ => by simp at h
  | (k, v) :: ws, (p, d) :: kvs, h, q => by
    have h0 := q 0 _ _ rfl rfl
    have e : k = keyP p := h0.1
    subst e
    exact .cons h0.2 (DtR.of (by simpa using h) fun j kv w h1 h2 => q (j + 1) kv w (by simpa using h1) (by simpa using h2))
theorem DtR.to {ws : List (List L2.Key × V)} {kvs : List ((Int × Int) × D)} (r : DtR c F ws kvs) : ws.length = kvs.length ∧ (∀ (j : Nat) kv w, kvs[j]? = some kv → ws[j]? = some w → w.1 = [Sum.inl kv.1.1, Sum.inl kv.1.2] ∧ Rep c F w.2 kv.2) := by
  induction r with
  | nil => exact ⟨rfl, fun j kv w h => by simp at h⟩
  | cons r rs ih =>
    refine ⟨by simp [ih.1], fun j kv w h1 h2 => ?_⟩
    cases j with
    | zero =>
      simp only [List.getElem?_cons_zero, Option.some.injEq] at h1 h2
      subst h1; subst h2
      exact ⟨rfl, r⟩
    | succ j => exact ih.2 j kv w (by simpa using h1) (by simpa using h2)
theorem DtR.get {ws : List (List L2.Key × V)} {kvs : List ((Int × Int) × D)} (r : DtR c F ws kvs) (p : Int × Int) : (dtGet kvs p = none ∧ valV ws (keyP p) = none) ∨ ∃ d v, dtGet kvs p = some d ∧ valV ws (keyP p) = some v ∧ Rep c F v d := by
  induction r with
  | nil => exact .inl ⟨rfl, rfl⟩
  | @cons q v d ws kvs r rs ih =>
    by_cases e : q = p
    · subst e
      exact .inr ⟨d, v, by simp [dtGet, List.find?_cons], by simp [valV, List.find?_cons], r⟩
    · have e2 : ¬ keyP q = keyP p := fun z => e (keyP_inj z)
      have h1 : dtGet ((q, d) :: kvs) p = dtGet kvs p := by simp [dtGet, List.find?_cons, e]
      have h2 : valV ((keyP q, v) :: ws) (keyP p) = valV ws (keyP p) := by simp [valV, List.find?_cons, e2]
      rw [h1, h2]
      exact ih
theorem DtR.any {ws : List (List L2.Key × V)} {kvs : List ((Int × Int) × D)} (r : DtR c F ws kvs) (p : Int × Int) : (ws.any fun kv => decide (kv.1 = keyP p)) = (kvs.any fun kv => decide (kv.1 = p)) := by
  induction r with
  | nil => rfl
  | @cons q v d ws kvs r rs ih =>
    rw [List.any_cons, List.any_cons, ih]
    congr 1
    exact decide_eq_decide.mpr ⟨keyP_inj, fun z => by show keyP q = keyP p; rw [show q = p from z]⟩
theorem DtR.snoc {p : Int × Int} {v : V} {d : D} (hr : Rep c F v d) {ws : List (List L2.Key × V)} {kvs : List ((Int × Int) × D)} (r : DtR c F ws kvs) : DtR c F (ws ++ [(keyP p, v)]) (kvs ++ [(p, d)]) := by
  induction r with
  | nil => exact .cons hr .nil
  | cons r rs ih => exact .cons r ih
theorem DtR.repl {p : Int × Int} {v : V} {d : D} (hr : Rep c F v d) {ws : List (List L2.Key × V)} {kvs : List ((Int × Int) × D)} (r : DtR c F ws kvs) : DtR c F (ws.map fun kv => if kv.1 = keyP p then (kv.1, v) else kv) (kvs.map fun kv => if kv.1 = p then (kv.1, d) else kv) := by
  induction r with
  | nil => exact .nil
  | @cons q v0 d0 ws kvs r rs ih =>
    rw [List.map_cons, List.map_cons]
    by_cases e : q = p
    · have e2 : keyP q = keyP p := by rw [e]
      rw [if_pos e, if_pos e2]
      exact .cons hr ih
    · rw [if_neg e, if_neg fun z => e (keyP_inj z)]
      exact .cons r ih
theorem DtR.put {p : Int × Int} {v : V} {d : D} (hr : Rep c F v d) {ws : List (List L2.Key × V)} {kvs : List ((Int × Int) × D)} (r : DtR c F ws kvs) : DtR c F (putK ws (keyP p) v) (dtPut kvs p d) := by
  unfold putK dtPut
  rw [r.any p]
  by_cases h : (kvs.any fun kv => decide (kv.1 = p)) = true
  · rw [if_pos h, if_pos h]; exact r.repl hr
  · rw [if_neg h, if_neg h]; exact r.snoc hr
theorem Rep.pairAt {v : V} {k : D} {p : Int × Int} (r : Rep c F v k) (h : k.pair = some p) : ∃ b, v = .ref b ∧ F b = some (.tup ((keyP p).map kV)) := by
  unfold D.pair at h
  split at h
  · rename_i x y
    cases h
    cases r with
    | tup k r =>
      cases r with
      | cons r1 r2 =>
        cases r1
        cases r2 with
        | cons r3 r4 =>
          cases r3
          cases r4
          exact ⟨_, rfl, k⟩
  · cases h
end
section
variable {c : Cn} {W : WX} {F H H0 F0 Fb : Hp} {T : Tm} {e : Env} {g : Rng} {σ : L2.St}
theorem Rel.mutD (R : Rel c F T e g σ H) {i : Nat} {kvs : List ((Int × Int) × D)} (q : e[i]? = some (some (.dt kvs))) : ∃ a ws, σ[i]? = some (some (.ref a)) ∧ T a = some i ∧ H a = some (.dT ws) ∧ DtR c F ws kvs ∧
    ∀ ws' kvs', DtR c F ws' kvs' → Rel c F T (e.set i (some (.dt kvs'))) g σ (upd H a (.dT ws')) := by
  obtain ⟨v, h1, a, ws, rfl, t, k, rl, r⟩ := R.slot i _ q
  obtain ⟨nL, nC⟩ := R.tneL t
  have fa := (R.dom a i t).2
  have hi : i < e.length := (List.getElem?_eq_some_iff.mp q).1
  refine ⟨a, ws, h1, t, k, .of rl r, fun xs' ds' r' => ⟨⟨fun b o z => by rw [upd_ne (by rintro rfl; rw [fa] at z; cases z)]; exact R.base.sub b o z, by rw [upd_ne (Ne.symm nL)]; exact R.base.hL, by rw [upd_ne (Ne.symm nC)]; exact R.base.hC, R.base.ne, R.base.FL, R.base.FC⟩, R.TL, R.TC, fun b j z => ⟨?_, (R.dom b j z).2⟩, by simp [R.len], fun j sv z => ?_⟩⟩
  · by_cases n : b = a
    · subst n; rw [upd_same]; simp
    · rw [upd_ne n]; exact (R.dom b j z).1
  · by_cases hj : j = i
    · subst hj
      rw [List.getElem?_set_self hi] at z
      cases z
      exact ⟨.ref a, h1, a, xs', rfl, t, upd_same, r'.to.1, r'.to.2⟩
    · rw [List.getElem?_set_ne (Ne.symm hj)] at z
      obtain ⟨w, k1, k2⟩ := R.slot j sv z
      exact ⟨w, k1, k2.mono (Sub.refl _) (fun _ y => y) fun b o tb y => by
        rw [upd_ne (by rintro rfl; rw [t] at tb; exact hj (Option.some.inj tb).symm)]; exact y⟩
theorem Post.dtAt {α : Type} {i : Nat} {k : D} {f : List ((Int × Int) × D) × (Int × Int) → M α} {K : α → Hp → Tm → Hp → Env → Rng → Prop} (h : Post c W σ F T H (mBind (dtAt i k) f e g) K) :
    ∃ kvs p, e[i]? = some (some (.dt kvs)) ∧ k.pair = some p ∧ Post c W σ F T H (f (kvs, p) e g) K := by
  unfold mBind PV.dtAt at h
  split at h
  · rename_i kvs q
    split at h
    · rename_i p hp
      exact ⟨kvs, p, q, hp, h⟩
    · exact h.elim
  · exact h.elim
theorem PostS.dtAt {E : Ends} {i : Nat} {k : D} {f : List ((Int × Int) × D) × (Int × Int) → S} (h : PostS c W F0 H0 Fb E (mBind (dtAt i k) f e g)) :
    ∃ kvs p, e[i]? = some (some (.dt kvs)) ∧ k.pair = some p ∧ PostS c W F0 H0 Fb E (f (kvs, p) e g) := by
  unfold mBind PV.dtAt at h
  split at h
  · rename_i kvs q
    split at h
    · rename_i p hp
      exact ⟨kvs, p, q, hp, h⟩
    · exact h.elim
  · exact h.elim
theorem mVarP_bind {α : Type} {i : Nat} {f : SV → M α} {K : α → Hp → Tm → Hp → Env → Rng → Prop} (h : Post c W σ F T H (mBind (mVarP i) f e g) K) : ∃ sv, e[i]? = some (some sv) ∧ Post c W σ F T H (f sv e g) K := by
  unfold mBind mVarP at h
  split at h
  · rename_i sv q; exact ⟨sv, q, h⟩
  · exact h.elim
theorem mVarP_bindS {E : Ends} {i : Nat} {f : SV → S} (h : PostS c W F0 H0 Fb E (mBind (mVarP i) f e g)) : ∃ sv, e[i]? = some (some sv) ∧ PostS c W F0 H0 Fb E (f sv e g) := by
  unfold mBind mVarP at h
  split at h
  · rename_i sv q; exact ⟨sv, q, h⟩
  · exact h.elim
end
section
variable {X : Cx} {c : Cn} {W : WX} {x : Str} {i : Nat} {b a : Expr} {mk md : M D} {vpos pos spos : Pos}
theorem se_dnew : PE X (.Dict [] [] pos) (tO c W mDNew) := peImp pe_dnewT fun σ H Q ⟨F, T, e, g, R, p⟩ q hq => by
  exact doneN R hq p _ ⟨rfl, q, rfl, hq, R.base.free hq, R.tfree hq, upd_same⟩
theorem se_dget (hu : X.A.units + 65 < cLine) (n : Nm X i x) (hb : PE X b (tV c W mk)) (hs : PlainIx b) : PE X (.Subscript (.Name x vpos) b pos) (tO c W (mDGet i mk)) :=
  peImp (pe_dget (by omega) (pe_var n.hN n.hv n.hd n.hcd) hb hs) fun σ H Q ⟨F, T, e, g, R, p⟩ => by
    unfold mDGet at p
    obtain ⟨sv, hsv, p⟩ := mVarP_bind p
    obtain ⟨v, h1, h2⟩ := R.slot i sv hsv
    refine ⟨v, h1, goV R p fun k y F1 T1 H1 e1 g1 R1 x1 ry p1 => ?_⟩
    obtain ⟨kvs, pr, q1, hp, p1⟩ := Post.dtAt p1
    obtain ⟨l, ws, k1, t, hl, dr, _⟩ := R1.mutD q1
    rw [h1] at k1
    cases k1
    obtain ⟨bb, rfl, hb2⟩ := ry.pairAt hp
    obtain ⟨sv2, hd, p1⟩ := Post.opt p1
    rcases dr.get pr with ⟨z1, z2⟩ | ⟨d, w, z1, z2, z3⟩
    · rw [z1] at hd; cases hd
    · rw [z1] at hd
      cases hd
      exact ⟨l, w, rfl, by rw [← z2]; exact DGet.t hl (R1.base.sub _ _ hb2), doneQ R1 p1 w z3⟩
theorem dinGo (n : Nm X i x) {σ : L2.St} {H : Hp} {Q : VK} (h : tT c W (mDIn mk i) σ H fun k H' => Q (.bl k) H') : tDIn (tV c W mk) (tVar i) σ H Q := by
  obtain ⟨F, T, e, g, R, p⟩ := h
  unfold mDIn at p
  refine goV R p fun k y F1 T1 H1 e1 g1 R1 x1 ry p1 => ?_
  obtain ⟨kvs, pr, q1, hp, p1⟩ := Post.dtAt p1
  obtain ⟨l, ws, k1, t, hl, dr, _⟩ := R1.mutD q1
  obtain ⟨bb, rfl, hb2⟩ := ry.pairAt hp
  refine ⟨.ref l, k1, l, valV ws (keyP pr), rfl, DGet.t hl (R1.base.sub _ _ hb2), ?_⟩
  have p2 := doneQ R1 p1
  have e : (dtGet kvs pr).isSome = (valV ws (keyP pr)).isSome := by
    rcases dr.get pr with ⟨z1, z2⟩ | ⟨d, w, z1, z2, _⟩ <;> rw [z1, z2] <;> rfl
  rw [← e]
  exact p2
theorem st_din (hu : X.A.units + 65 < cLine) (n : Nm X i x) (ha : PE X a (tV c W mk)) (hm : behindInMarks .In (.Name x vpos) = false) : PT X (.Compare a [.In] [.Name x vpos] pos) (tT c W (mDIn mk i)) :=
  ptImp (pt_cmp (pc_din (by omega) ha (pe_var n.hN n.hv n.hd n.hcd)) hm) fun σ H Q h => dinGo n (by
    obtain ⟨F, T, e, g, R, p⟩ := h
    exact ⟨F, T, e, g, R, p.imp fun k F' T' H' _ _ _ _ q => ⟨k, rfl, q⟩⟩)
theorem se_din (hu : X.A.units + 65 < cLine) (n : Nm X i x) (ha : PE X a (tV c W mk)) (hm : behindInMarks .In (.Name x vpos) = false) : PE X (.Compare a [.In] [.Name x vpos] pos) (tO c W (mB (mDIn mk i))) :=
  peImp (pe_cmp (pc_din (by omega) ha (pe_var n.hN n.hv n.hd n.hcd)) hm) fun σ H Q ⟨F, T, e, g, R, p⟩ => dinGo n ⟨F, T, e, g, R, (Post.bind p).imp fun k F' T' H' _ _ R' _ q => doneQ R' q _ (.bl k)⟩
theorem ss_dput (hu : X.A.units + 65 < cLine) (n : Nm X i x) (hb : PE X b (tV c W mk)) (ha : PE X a (tV c W md)) (hs : swapsWith a (some (.Subscript (.Name x vpos) b spos)) pos.line X.env = pure false) :
    SS X c W (.Assign [.Subscript (.Name x vpos) b spos] a pos) (sDPut i mk md) := fun F0 H0 Fb =>
  psImp (ps_dput (by omega) (pe_var n.hN n.hv n.hd n.hcd) hb ha hs) fun D σ H ⟨F, T, e, g, R, O, p⟩ => by
    refine ⟨F, T, e, g, R, (PostS.bind p O).imp fun d F1 T1 H1 e1 g1 R1 x1 ⟨O1, p1⟩ v rv => ?_⟩
    obtain ⟨sv, hsv, p1⟩ := mVarP_bindS p1
    obtain ⟨w, h1, h2⟩ := R1.slot i sv hsv
    refine ⟨w, h1, F1, T1, e1, g1, R1, (PostS.bind p1 O1).imp fun k F2 T2 H2 e2 g2 R2 x2 ⟨O2, p2⟩ y ry => ?_⟩
    obtain ⟨kvs, pr, q1, hp, p2⟩ := PostS.dtAt p2
    obtain ⟨l, ws, k1, t, hl, dr, mt⟩ := R2.mutD q1
    rw [h1] at k1
    cases k1
    obtain ⟨bb, rfl, hb2⟩ := ry.pairAt hp
    by_cases hlt : kvs.length < line
    · have p2 : PostS c W F0 H0 Fb D (setDt i (dtPut kvs pr d) e2 g2) := by
        unfold mBind mMust mRet at p2
        rw [if_pos (decide_eq_true hlt)] at p2
        exact p2
      have hz : ws.length < sizeLine := by
        rw [dr.to.1, sizeLine_eq]
        unfold line at hlt
        omega
      exact ⟨l, _, rfl, DPut.t hl (R2.base.sub _ _ hb2) hz, p2 σ F2 T2 _ (mt _ _ (dr.put (rv.mono x2.f))) (O2.mut t)⟩
    · have p2 : PostS c W F0 H0 Fb D (.stuck) := by
        unfold mBind mMust mOpt at p2
        rw [if_neg (by rw [decide_eq_false hlt]; simp)] at p2
        exact p2
      exact p2.elim
end
end PV
set_option Elab.async false
set_option linter.all false
set_option maxRecDepth 100000
set_option maxHeartbeats 4000000
/-! PV17S: texts: sep.join(list), text.split(sep), text * n. -/
namespace PV
open PySem L2 PySem.Spec PyProof.Rows

def SV.txt : SV → Option Str
  | .dat (.str x) => some x
  | _ => none
def opJoin (s : Str) (y : SV) : Option SV := (y.list.bind D.strs).bind fun ys => if (ys.map (·.length)).sum + ys.length * s.length ≤ line then some (.dat (.str (Txt.join s ys))) else none
def opSplit (s : Str) (y : SV) : Option SV := y.txt.bind fun t => if (t.length == 0) = false ∧ s.length + 2 ≤ line then some (.own ((Txt.split s t).map .str)) else none
def opRepS (x y : SV) : Option SV := x.txt.bind fun s => match y with
  | .dat (.int k) => if s.length ≤ 1000 ∧ k ≤ 1000 ∧ -1000 ≤ k then some (.dat (.str (Txt.mul s k))) else none
  | _ => none
/-- a.join(b) -/
def mJoin (a b : M SV) : M SV := mBind a fun x => mBind (mOpt x.txt) fun s => mBind b fun y => mOpt (opJoin s y)
/-- a.split(b) -/
def mSplit (a b : M SV) : M SV := mBind a fun x => mBind (mOpt x.txt) fun s => mBind b fun y => mOpt (opSplit s y)
/-- a * b, a text -/
def mRepS (a b : M SV) : M SV := mBind a fun x => mBind b fun y => mOpt (opRepS x y)

section
variable {X : Cx} {c : Cn} {W : WX} {lo a b : Expr} {ma mb : M SV} {apos pos : Pos}
theorem PRes.txtAt {F H : Hp} {v : V} {sv : SV} {s : Str} (h : PRes c F H v sv) (e : sv.txt = some s) : v = .str s := by
  unfold SV.txt at e
  split at e
  · cases e
    have h : Rep c F v (.str s) := h
    cases h
    rfl
  · cases e
theorem se_join (hl : PE X lo (tP c W ma)) (ha : PE X a (tP c W mb)) (he : starEach [a] X.env = (false, eval a X.env) :: starEach [] X.env) (hab : attributeBase lo "join" X.env (eval lo X.env) = eval lo X.env) (hline : (apos.endLine == pos.line) = true) :
    PE X (.Call (.Attribute lo "join" apos) [a] [] pos) (tO c W (mJoin ma mb)) := by
  refine peImp (pe_join hl ha he hab hline) fun σ H Q ⟨F, T, e, g, R, p⟩ => goP R p fun sl v F1 T1 H1 e1 g1 R1 x1 p1 q1 => ?_
  obtain ⟨s, es, q1⟩ := Post.optBind q1
  refine ⟨⟨s, p1.txtAt es⟩, goP R1 q1 fun dx y F2 T2 H2 e2 g2 R2 x2 r2 q2 => ?_⟩
  obtain ⟨sv, hs, q⟩ := Post.opt q2
  unfold opJoin at hs
  obtain ⟨ys, h1, hs⟩ := Option.bind_eq_some_iff.mp hs
  obtain ⟨ds, h2, h3⟩ := Option.bind_eq_some_iff.mp h1
  split at hs
  · rename_i hz
    cases hs
    obtain ⟨bb, xs, rfl, k, r⟩ := r2.listAt R2.base h2
    have := r.strs_of h3
    subst this
    exact ⟨s, bb, ys, p1.txtAt es, rfl, .inl (.of k), Nat.le_trans hz (by decide), wishD R2 q (.str _)⟩
  · cases hs
theorem strsReps {F : Hp} : ∀ {ys : List Str}, Reps c F (ys.map V.str) (ys.map D.str)
  | [] => .nil
  | y :: ys => .cons (.str y) strsReps
theorem se_split (hl : PE X lo (tP c W ma)) (ha : PE X a (tP c W mb)) (he : starEach [a] X.env = (false, eval a X.env) :: starEach [] X.env) (hab : attributeBase lo "split" X.env (eval lo X.env) = eval lo X.env) (hline : (apos.endLine == pos.line) = true) :
    PE X (.Call (.Attribute lo "split" apos) [a] [] pos) (tO c W (mSplit ma mb)) := by
  refine peImp (pe_split hl ha he hab hline) fun σ H Q ⟨F, T, e, g, R, p⟩ => goP R p fun sl v F1 T1 H1 e1 g1 R1 x1 p1 q1 => ?_
  obtain ⟨s, es, q1⟩ := Post.optBind q1
  refine ⟨⟨s, p1.txtAt es⟩, goP R1 q1 fun dx y F2 T2 H2 e2 g2 R2 x2 r2 q2 => ?_⟩
  obtain ⟨sv, hs, q⟩ := Post.opt q2
  unfold opSplit at hs
  obtain ⟨t, h1, hs⟩ := Option.bind_eq_some_iff.mp hs
  split at hs
  · rename_i hz
    cases hs
    exact ⟨s, t, p1.txtAt es, by rw [r2.txtAt h1], hz.1, Nat.le_trans hz.2 (by decide), fun p hp => wishL R2 (fun p hp => x1.n p (x2.n p hp)) q strsReps hp⟩
  · cases hs
theorem op_repS : OpR X (binaryOp .Mult) (fun x y H Q => ∃ s k, x = .str s ∧ y = .int k ∧ PySem.MulOk s k ∧ Q (.str (Txt.mul s k)) H) := by
  intro pins s σ H x y v u Q I rx ry h
  obtain ⟨z, k, rfl, rfl, hc, q⟩ := h
  obtain ⟨t, rfl⟩ := rx
  obtain ⟨t', rfl⟩ := ry
  exact PySem.SB.mul hc fun t2 k2 => ⟨.str (Txt.mul z k), H, I.tok k2, ⟨_, rfl⟩, q⟩
theorem mulOk_small {s : Str} {k : Int} (h1 : s.length ≤ 1000) (h2 : k ≤ 1000) (h3 : -1000 ≤ k) : PySem.MulOk s k := by
  refine ⟨?_, fun hk _ => ?_, fun hk _ => ?_⟩
  · simp only [Bool.or_eq_false_iff, decide_eq_false_iff_not]
    omega
  · have : (1000 : Int) ≤ (2 ^ 63 - 1) / k := by
      rw [Int.le_ediv_iff_mul_le (by omega)]
      have : 1000 * k ≤ 1000 * 1000 := Int.mul_le_mul_of_nonneg_left h2 (by omega)
      omega
    omega
  · unfold PySem.Builtin.Str.tooLong sizeLine
    have : s.length * k.toNat ≤ 1000 * 1000 := Nat.mul_le_mul h1 (by omega)
    exact decide_eq_false (by omega)
theorem se_repS (ha : PE X a (tP c W ma)) (hb : PE X b (tP c W mb)) : PE X (.BinOp a .Mult b pos) (tO c W (mRepS ma mb)) :=
  peImp (pe_op op_repS ha hb) (two (f := fun _ _ => pure .none) ha hb fun R _ pa pb hs h => by
    unfold opRepS at hs
    obtain ⟨s, h1, hs⟩ := Option.bind_eq_some_iff.mp hs
    split at hs
    · split at hs
      · rename_i hc
        cases hs
        obtain ⟨⟩ := pb
        exact ⟨s, _, pa.txtAt h1, rfl, mulOk_small hc.1 hc.2.1 hc.2.2, wishD R h (.str _)⟩
      · cases hs
    · cases hs)
end
end PV
set_option Elab.async false
set_option linter.all false
set_option maxRecDepth 100000
set_option maxHeartbeats 4000000
/-! PVX1: errors of own classes: what is known of them, raise C(), except C as n. -/
namespace PV
open PySem L2 PySem.Spec PyProof.Rows

/-- one class of errors stands below the other one -/
def subX (y z : Str) : Bool := decide (y = z) || decide (z = ("LossError" : Str))
abbrev veMro : List Value := [.type "ValueError", .type "Exception", .type "BaseException", .type "object"]
/-- the fields of the errors of a class -/
def fldOf (y : Str) : List Str := if y = ("InvalidTables" : Str) ∨ y = ("InvalidOutcome" : Str) then ["index"] else if y = ("InvalidText" : Str) then ["line", "word"] else []
def flds : List Str := ["index", "line", "word"]
/-- an own class of errors -/
structure XC (K : PySem.W.Frag) (y : Str) (C : Addr) : Prop where
  ex : fldOf y = [] → PySem.W.excIn K C veMro "ValueError.__new__" = true
  nf : ∀ f, flds.elem f = true → PySem.W.findIn K (.ref C) f = some none
  kp : PySem.W.keepIn K (.ref C) = true
  sb : PySem.W.subIn K (.ref C) (.type "BaseException") = some true
  ty : PySem.W.typeIn K (.ref C) = some (.type "type")
  is : ExcC K C
/-- the classes of errors that a text knows -/
structure XCs (K : PySem.W.Frag) (mg : Str → Option Value) (c : Cn) (cls : List Str) : Prop where
  at_ : ∀ y, cls.elem y = true → y ≠ "Model" → y ≠ "self" ∧ ∃ C, mg y = some (.ref C) ∧ c.fa y = some C ∧ XC K y C
  two : ∀ y z C D, cls.elem y = true → y ≠ "Model" → cls.elem z = true → z ≠ "Model" → c.fa y = some C → c.fa z = some D → PySem.W.subIn K (.ref C) (.ref D) = some (subX y z) ∧ PySem.W.kitOne K (.ref C) (.ref D) = some (subX y z)
theorem XCs.exm {K : PySem.W.Frag} {mg : Str → Option Value} {c : Cn} {cls : List Str} (h : XCs K mg c cls) {y z : Str} {C D : Addr} (hy : cls.elem y = true) (ny : y ≠ "Model") (hz : cls.elem z = true) (nz : z ≠ "Model") (e1 : c.fa y = some C) (e2 : c.fa z = some D) :
    PySem.W.exmOne K (.ref C) (.ref D) = some (subX y z) := by
  obtain ⟨_, D', _, f2, x⟩ := h.at_ z hz nz
  rw [e2] at f2
  cases f2
  exact PySem.W.exm_ref x.sb x.is.hd x.ty (h.two y z C D hy ny hz nz e1 e2).1
theorem XCs.self {K : PySem.W.Frag} {mg : Str → Option Value} {c : Cn} {cls : List Str} (h : XCs K mg c cls) (x : Addr) : XCs K mg (c.self x) cls := by
  have e : ∀ y, cls.elem y = true → y ≠ "Model" → (c.self x).fa y = c.fa y := fun y hy ny => by
    show (if y = ("self" : Str) then some x else c.fa y) = c.fa y
    rw [if_neg (h.at_ y hy ny).1]
  refine ⟨fun y hy ny => ?_, fun y z C D hy ny hz nz e1 e2 => h.two y z C D hy ny hz nz (by rw [← e y hy ny]; exact e1) (by rw [← e z hz nz]; exact e2)⟩
  rw [e y hy ny]
  exact h.at_ y hy ny
theorem XCs.none {K : PySem.W.Frag} {mg : Str → Option Value} {c : Cn} : XCs K mg c ["Model"] := by
  have e : ∀ y, (["Model"] : List Str).elem y = true → y = "Model" := fun y hy => by
    have := List.elem_iff.mp hy
    simpa using this
  exact ⟨fun y hy ny => absurd (e y hy) ny, fun y z C D hy ny => absurd (e y hy) ny⟩
section
variable {X : Cx} {C : Addr} {bmB : List Value} {B newId initId : String}
/-- C() -/
theorem pmk_zero {x : Str} {p pos : Pos} (F : ExcBaseFacts B newId initId bmB) (q : PySem.W.excIn X.K C bmB newId = true) (gC : X.mg x = some (.ref C)) (kC : PySem.W.keepIn X.K (.ref C) = true) (r : Raises X (.ref C)) (hg : Gl X x)
    (hdb : (x == ("__debug__" : Str)) = false) : PMk X (.Call (.Name x p) [] [] pos) (fun _ H Q => Q (.ref C) none H) := fun pins s σ H Q I h =>
  wpAny_Call_Name_kw (ld_glob I hg gC (PySem.W.callWith_K0 I.kIn kC (by
    have ⟨_, _, _, _, _, _, _, _, _, _, _, _, _, _, _, _, _, a1, a2, a3, a4⟩ := exc_obj I.kIn q
    exact wpAny_call_exc_subT F a4 a1 a2 a3 (fun _ _ hm => mk_of I hm r h (I.hok.gone hm.new)) (Nat.zero_le _))) hdb)
end
/-- raise C() -/
def sThrow (c : Str) : S := fun e g => .exc ⟨c, []⟩ e g
section
variable {X : Cx} {c : Cn} {W : WX} {C : Addr}
theorem ss_throw {x : Str} {p pos pos' : Pos} (hc : X.calm = true) (tk : Takes X W) (h : XC X.K x C) (hfl : fldOf x = []) (gC : X.mg x = some (.ref C)) (hf : c.fa x = some C) (hg : Gl X x) (hdb : (x == ("__debug__" : Str)) = false) :
    SS X c W (.Raise (some (.Call (.Name x p) [] [] pos)) none pos') (sThrow x) := fun F0 H0 Fb =>
  psImp (ps_raise hc tk (pmk_zero PySem.F.excBase_ValueError (h.ex hfl) gC h.kp (raises_own h.sb h.ty) hg hdb)) fun D σ H ⟨F, T, e, g, R, O, q⟩ =>
    q (.ref C) none σ F T H R O ⟨C, hf, rfl, .inl ⟨rfl, rfl⟩⟩
end
end PV
set_option Elab.async false
set_option linter.all false
set_option maxRecDepth 100000
set_option maxHeartbeats 4000000
/-! PVE1: errors with fields: an __init__ that says super().__init__(text) and keeps its argument. -/
namespace PV
open PySem L2 PySem.Spec PyProof.Rows NdefX

/-- what must be known of a class of errors whose __init__ says super().__init__(..) -/
structure SupC (K : PySem.W.Frag) (C cc cda : Addr) (file : Str) : Prop where
  ox : OexC K C
  xi : PySem.W.excInitIn K C veMro "ValueError.__new__" = true
  su : PySem.W.ks_superIn K C C "__init__" = some (some (.builtin "ValueError.__init__"))
  ve : PySem.W.subIn K (.ref C) (.type "ValueError") = some true
  me : PySem.W.mroIn K C (.ref C) = some true
  cell : ∃ ccl cld csl, K.lookup cc = some ⟨ccl, cld, .cell (some (.ref C)), csl⟩
  code : ∃ ccl cdd vs csl tf, K.lookup cda = some ⟨ccl, cdd, .fields vs, csl⟩ ∧ vs[2]? = some (.str file tf)
  any : PySem.W.nsIn K cStatics "thirdparty.any" = some none
theorem boot_super : bootBuiltins ("super" : Str) = some (.type "super") := by kernel_rfl
section
variable {X : Cx} {pins : List (Addr × Obj)} {σ : L2.St} {H : Hp} {s : Shared} {C cc cda a : Addr} {file : Str} {E : Value → Shared → Prop}
/-- the method-wrapper is called: the error stays as it is -/
theorem sup_call {u : Addr} {rest : List Value} {Q : Value → Shared → Prop} {A : Around} (S : SupC X.K C cc cda file) (I : Inv X pins σ H s) (ha : H a = some (exo a C none)) (hu : s.heap.get? u = some (PySem.W.kxs_mw "ValueError.__init__" a)) (hz : rest.length ≤ sizeLine)
    (h : ∀ s', Inv X pins σ H s' → Q .none s') : wpAny (model X.prog X.w) A (call (.ref u) rest) Q E s := by
  obtain ⟨nm, N', qn, bs, bm, hdct, sn, sub, ab, col, dd, k0, k1, k2, k3, k5, hC, hT⟩ := PySem.W.excInit_of I.kIn S.xi
  obtain ⟨t1, ho⟩ := exo_at I.hok ha
  obtain ⟨hh, g, d, tk, os⟩ := s
  refine wpAny_call (codeAny_of_tree ?_)
  show wpAny _ A.in1 (callAny (.ref u) ⟨rest, []⟩) _ _ _
  simp only [callAny]
  refine wpAny_bind (wpAny_load hu ?_)
  simp only [PySem.W.kxs_mw, show ((Value.type "method-wrapper" == Value.type "method") || (Value.type "method-wrapper" == Value.type "builtin_function_or_method") || (Value.type "method-wrapper" == Value.type "method-wrapper")) = true from by decide, if_true]
  refine PySem.W.KFB.if_so (by decide) ?_
  refine wpAny_bind (PySem.W.check_bound_init PySem.F.excBase_ValueError.toExcCallFacts hC ho rfl ?_)
  refine wpAny_bind (wpAny_pure (wpAny_pure ?_))
  refine ⟨plainId_quiet PySem.F.excBase_ValueError.init.plain _, codeAny_builtin PySem.F.excBase_ValueError.initEntry ?_⟩
  refine PySem.W.exc_init_tree (cls := .ref C) (t0 := t1) (dv := none) (c2 := .none) (c3 := .none) (b4 := .bool false) ho hz fun h' k e' t' => ?_
  have J := I.write (h' := h') (t' := tk) (x := a) (e := a) (o := exo a C none) (by rw [ha]; exact True.intro) (.inl rfl) k ⟨_, e'⟩ (exo_ok e')
  have eu : upd H a (exo a C none) = H := by
    funext b
    by_cases hb : b = a
    · subst hb; rw [upd_same, ha]
    · rw [upd_ne hb]
  rw [eu] at J
  exact h _ J
/-- super().__init__ is looked up: a method-wrapper of the error's -/
theorem sup_get {so : Addr} {pl : Sem Bool} {Q : Value × List Value → Shared → Prop} {A : Around} (S : SupC X.K C cc cda file) (I : Inv X pins σ H s) (ha : H a = some (exo a C none)) (hso : s.heap.get? so = some (PySem.W.ks_superObj C a C))
    (h : ∀ u s', Inv X ((u, PySem.W.kxs_mw "ValueError.__init__" a) :: pins) σ H s' → Q (.ref u, []) s') : wpAny (model X.prog X.w) A (getMethod (.ref so) "__init__" pl) Q E s := by
  obtain ⟨t1, ho⟩ := exo_at I.hok ha
  have J : PySem.W.InstAt s.heap a { cls := .ref C, dict := none, data := .fields #[.ref t1, .none, .none, .none, .bool false, .none] } C none := ⟨ho, rfl, rfl, trivial⟩
  have hI : PySem.W.Looks (model X.prog X.w) s.heap (isInstance (.ref a) (.type "ValueError")) true := J.type.andThen (PySem.W.looks_subIn I.kIn S.ve)
  have hm := S.su
  obtain ⟨hh, g, d, t, os⟩ := s
  cases hc : PySem.W.clsIn X.K C with
  | none => unfold PySem.W.ks_superIn at hm; rw [hc] at hm; cases hm
  | some cd =>
    unfold PySem.W.ks_superIn at hm
    rw [hc] at hm
    refine PySem.W.kxs_getMethod PySem.W.kxs_ValueError hso (PySem.W.looks_opaque I.kIn S.any) (l₀ := cd.mro) ((PySem.W.looks_clsIn I.kIn hc).andThen .now) rfl I.kIn hm hI (PySem.W.ks_ne I.kIn J hc) (by decide) ?_
    refine h _ _ (ClX.pin_new (t' := t + 1) I (fun b o e => Heap.get?_push_of_some _ e) (Nat.le_refl _) (Heap.get?_push_size _ rfl) (fun v z => by cases z))
end
/-- self, an argument: the argument is kept as the field fl -/
def spSup (C : Addr) (fl : Str) : Sp := fun vs H Q _ => ∃ a v, vs = [.ref a, v] ∧ H a = some (exo a C none) ∧ ∀ dx, H dx = none → dx ≠ a → Q .non (upd (upd H dx (exd dx [(fl, v)])) a (exo a C (some dx)))
section
variable {P : Program} {w : World} {K : PySem.W.Frag} {mg : Str → Option Value} {base : Heap} {CX : CXT} {k : Nat} {f C cc cda : Addr} {file fl tx name qual : Str} {params : Arguments} {sc : Scope} {dV kV doc pm ct oc : Value} {an od : Option Addr} {osl : Array (Option Value)}
theorem sup_ok {p0 p1 p2 p3 p4 p5 q1 q2 q3 q4 : Pos} {kk : Nat} {ar : Arg} (S : SupC K C cc cda file) (lk : K.lookup f = some ⟨oc, od, .func (PySem.W.fnX name qual params [.Expr (.Call (.Attribute (.Call (.Name "super" p0) [] [] p1) "__init__" p2) [.Constant (.str tx) kk p3] [] p4) p5, .Assign [.Attribute (.Name "self" q1) fl q2] (.Name fl q3) q4] sc [("__class__", cc)] dV kV doc pm an (.ref cda) ct), osl⟩)
    (hln : (p2.endLine == p4.line) = true) (hcd : PySem.W.codeIn K (.ref cda) qual = true) (Sc : NScope ["self", fl, "__class__"] ["self", fl] ["__class__"] sc) (hks : sc.names.lookup ("super" : Str) = some .globalImplicit) (hms : mg ("super" : Str) = none) (hno : PySem.W.findIn K (.ref C) fl = some none)
    (hp : (params.posonlyargs ++ params.args).head? = some ar) (har : ar.arg = ("self" : Str)) (hfile : ((P.main.file : Str) == file) = true) (htop : (P.main.scope.names.lookup ("super" : Str)).isSome = false) (hf0 : (fl == ("__debug__" : Str)) = false) (hf1 : (fl == ("__classdict__" : Str)) = false) :
    FnOk P w K mg base CX (k + 1) f (PySem.W.fnX name qual params [.Expr (.Call (.Attribute (.Call (.Name "super" p0) [] [] p1) "__init__" p2) [.Constant (.str tx) kk p3] [] p4) p5, .Assign [.Attribute (.Name "self" q1) fl q2] (.Name fl q3) q4] sc [("__class__", cc)] dV kV doc pm an (.ref cda) ct) ["self", fl] (spSup C fl) := by
  refine ⟨fun vs H Q E h => by obtain ⟨a, v, rfl, _⟩ := h; rfl, fun A outer s H args us vs Q E hr e0 hb r hsp => ?_⟩
  obtain ⟨a, v, rfl, ha, q⟩ := hsp
  have KX : K.In s.heap := e0.mod.kin.keeps fun b o e => (e0.bs b o e).1
  have lim : s.heap.NoLimit := e0.mod.nolimit.keeps fun b o e => (e0.bs b o e).1
  have hl : ([V.ref a, v] : List V).length = (["self", fl] : List Str).length := rfl
  obtain ⟨ccl, cld, csl, hcell⟩ := S.cell
  obtain ⟨dcl, dcd, vs0, dsl, tf, hcode, hvs⟩ := S.code
  let F : NF := ⟨name, qual, params, [.Expr (.Call (.Attribute (.Call (.Name "super" p0) [] [] p1) "__init__" p2) [.Constant (.str tx) kk p3] [] p4) p5, .Assign [.Attribute (.Name "self" q1) fl q2] (.Name fl q3) q4], sc, [("__class__", cc)], cda⟩
  have CA : CellsAt F.cl ["__class__"] [some (.ref C)] s.heap H := by
    have h0 := e0.bs _ _ (e0.mod.kin _ _ hcell)
    refine ⟨rfl, fun y c e => ?_, fun x y c e1 e2 => ?_, fun i y e => ?_⟩
    · have h1 : y = "__class__" ∧ c = cc := by
        have e' : List.lookup y [("__class__", cc)] = some c := e
        rw [List.lookup_cons] at e'
        split at e'
        · rename_i hb; cases e'; exact ⟨eq_of_beq hb, rfl⟩
        · cases e'
      obtain ⟨rfl, rfl⟩ := h1
      exact ⟨h0.2, _, _, h0.1, rfl⟩
    · have h1 : ∀ {y : Str} {c : Addr}, F.cl.lookup y = some c → y = "__class__" := fun {y c} e => by
        have e' : List.lookup y [("__class__", cc)] = some c := e
        rw [List.lookup_cons] at e'
        split at e'
        · rename_i hb; exact eq_of_beq hb
        · cases e'
      rw [h1 e1, h1 e2]
    · have hy : y = "__class__" ∧ i = 0 := by
        cases i with
        | zero => cases e; exact ⟨rfl, rfl⟩
        | succ i => cases e
      obtain ⟨rfl, rfl⟩ := hy
      refine ⟨cc, by show List.lookup ("__class__" : Str) [("__class__", cc)] = _; simp, fun v hv => ?_⟩
      cases hv
      exact ⟨.ref C, rfl, _, h0.1, rfl⟩
  refine codeAny_call_function hr.depth (KX _ _ lk) rfl Sc.co Sc.gen rfl (PySem.W.codeRec_of KX hcd) (hb _ _ _ _ ?_)
  refine wpAny_newFunctionEnv Sc.nocell (fun ⟨n, _⟩ hy => Sc.par n (List.of_mem_zip hy).1) (fun h₁ hns hsb => ⟨lim.fresh _ hsb, ?_⟩) Sc.kind
  have kp : ∀ b o, s.heap.get? b = some o → h₁.get? b = some o := fun b o e => hsb.extBut b o (Nat.ne_of_lt (Heap.lt_size e)) (Heap.get?_push_of_some _ e)
  have I : Inv (ncx CX P w K mg base ["self", fl, "__class__"] F f A outer s H E) [] (startF ["self", fl, "__class__"] [V.ref a, v] [some (.ref C)]) H { s with heap := h₁, toks := s.toks + ((["self", fl] : List Str).zip us).length } := inv_startN Sc hr.hd e0 hl r CA hns kp
  have hkc : sc.names.lookup ("__class__" : Str) = some .free := Sc.frk _ (by simp)
  have hka : sc.names.lookup ("self" : Str) = some .local := Sc.par _ (by simp)
  have hne : fl ≠ ("self" : Str) := by
    have := Sc.nd
    simp only [List.nodup_cons, List.mem_cons, not_or] at this
    exact fun z => this.1.1 z.symm
  cases r with
  | @cons _ u0 _ ur ra rw' =>
    obtain rfl : u0 = Value.ref a := ra
    cases rw' with
    | @cons _ u1 _ ur2 rb rw2 =>
      cases rw2
      have hself : (((["self", fl] : List Str).zip [Value.ref a, u1]).reverse.lookup ("self" : Str)) = some (Value.ref a) := by
        show List.lookup ("self" : Str) [(fl, u1), ("self", Value.ref a)] = _
        rw [List.lookup_cons, show (("self" : Str) == fl) = false from beq_eq_false_iff_ne.mpr hne.symm]
        simp
      have KX1 : K.In h₁ := KX.keeps kp
      obtain ⟨nm, qq, NN, bs, bm, sn, sub, ab, col, dd, k0, k1, k2, k3, k5, hC, hbm⟩ := S.ox.cls
      show codeAny _ _ (.func F.body (envF F f s.heap.objs.size)) _ _
      refine ks_codeAny_funcAt (ks_wpAt_execs_cons ?_)
      have hint : interactive (envF F f s.heap.objs.size) = false := by
        unfold interactive
        rw [show (envF F f s.heap.objs.size).scope.kind = .function from Sc.kind]
        rfl
      refine ks_wpAt_Expr_any (ks_wpAt_MethodCall (pl := (do return (← importBound (.Call (.Name "super" p0) [] [] p1) (envF F f s.heap.objs.size)).getD true)) ?_ (by
        show (do
          let ov ← attributeBase (.Call (.Name "super" p0) [] [] p1) "__init__" (envF F f s.heap.objs.size) (eval (.Call (.Name "super" p0) [] [] p1) (envF F f s.heap.objs.size))
          standAt p2.atName
          methodCall (.Call (.Name "super" p0) [] [] p1) "__init__" p2 p4 (envF F f s.heap.objs.size) ov 1 (backTo p4 (starEach [Expr.Constant (Const.str tx) kk p3] (envF F f s.heap.objs.size))) []) = _
        unfold methodCall methodCallPos
        rw [hln]
        rfl)) hint
      refine ks_wpAt_super_base hks hkc (by decide) rfl (KX1 _ _ lk) rfl hp rfl (KX1 _ _ hcode) rfl hvs hfile htop ?_
      obtain ⟨mb, b1, b2⟩ := I.mod.blt
      refine PySem.W.ks_loadName_global Sc.kind hks (Calls.loadGlobal_builtin (I.mod.glob.keeps I.bk) hms (b1.keeps I.bk) ((b2 _ (by decide)).trans boot_super) ⟨rfl, ?_⟩)
      refine wpAny_loadName_free Sc.kind hkc rfl ⟨_, KX1 _ _ hcell, rfl⟩ ?_
      rw [har]
      refine wpAny_loadName_local Sc.kind hka hns hself ?_
      refine ks_wpAny_isType_cls (KX1 _ _ hC) rfl ⟨rfl, ?_⟩
      obtain ⟨t1, ho⟩ := exo_at I.hok ha
      refine ks_wpAny_call_super (KX1 _ _ hC) rfl ho rfl (fun c e => by cases e) (PySem.W.looks_mroIn KX1 S.me) (fun h' e kh => ?_)
      have I2 := I.kept (h' := h') (t' := s.toks + ((["self", fl] : List Str).zip [Value.ref a, u1]).length) kh
      refine sup_get (X := ncx CX P w K mg base ["self", fl, "__class__"] F f A outer s H E) S I2 ha e fun u s3 I3 => ?_
      refine PySem.W.kxs_callWith (i := "ValueError.__init__") (x := a) (by rfl) ?_
      refine Calls.evalArgs_plain ?_
      have hpa : PA (ncx CX P w K mg base ["self", fl, "__class__"] F f A outer s H E) [Expr.Constant (Const.str tx) kk p3] _ := pa_cons pe_str pa_nil rfl
      refine wpAny_mono (hpa.run p4 _ s3 (startF ["self", fl, "__class__"] [V.ref a, v] [some (.ref C)]) H (fun vs H1 => H1 = H ∧ vs.length = 1) I3 ⟨rfl, rfl⟩) (fun us4 s4 h4 => ?_) (fun _ _ z => z)
      obtain ⟨vs4, H4, I4, r4, rfl, l4⟩ := h4
      refine ⟨ClX.pin_at I4, ?_⟩
      refine sup_call (X := ncx CX P w K mg base ["self", fl, "__class__"] F f A outer s H4 E) S I4 ha (ClX.pin_at I4) (by rw [List.nil_append, ← Paired.length r4, l4, sizeLine_eq]; decide) fun s5 I5 => ?_
      have I6 := ClX.unpin I5
      have hkf : sc.names.lookup fl = some .local := Sc.par _ (by simp)
      have hps : PSs (ncx CX P w K mg base ["self", fl, "__class__"] F f A outer s H4 E) [.Assign [.Attribute (.Name "self" q1) fl q2] (.Name fl q3) q4] _ :=
        pss_one (ps_ost (pe_var (i := 0) rfl (.inl hka)) (pe_var (i := 1) rfl (.inl hkf) hf0 hf1) rfl)
      refine wpAt_of_wpAny (wpAny_mono (hps.run [] s5 _ H4 { nx := fun _ H' => Q .non H', rt := Q } I6 ?_) (fun fl' s' hs => ?_) (fun _ _ z => z))
      · refine ⟨v, rfl, .ref a, rfl, a, C, rfl, S.ox, hno, .inl ⟨ha, fun dx h1 h2 => q dx h1 h2⟩⟩
      · cases fl' with
        | ret u =>
          obtain ⟨v', σ', H', J, rv, q'⟩ := hs
          exact ⟨v', H', J.os, J.bare, J.base, J.hok, rv, q'⟩
        | next =>
          obtain ⟨σ', H', J, q'⟩ := hs
          exact ⟨V.non, H', J.os, J.bare, J.base, J.hok, rfl, q'⟩
        | brk =>
          obtain ⟨_, _, _, q'⟩ := hs
          exact False.elim q'
        | cont =>
          obtain ⟨_, _, _, q'⟩ := hs
          exact False.elim q'
end

/-- a class of errors with one field, as a def may raise it -/
structure XFd (X : Cx) (c : Cn) (x : Str) : Prop where
  at_ : ∃ k C fI fd fl, fldOf x = [fl] ∧ X.mg x = some (.ref C) ∧ c.fa x = some C ∧ OexC X.K C ∧ PySem.W.findIn X.K (.ref C) "__init__" = some (some (.ref fI)) ∧ PySem.W.typeIn X.K (.ref fI) = some (.type "function") ∧
    FnOk X.prog X.w X.K X.mg X.base (L2.CX X.prog X.w) k fI fd ["self", fl] (spSup C fl) ∧ Room (k + 1) X.A ∧ Binds X.K fd ["self", fl] []
/-- raise C(e), e kept as the field fl -/
def sThrowF (x fl : Str) (m : M D) : S := mBind m fun d => fun e g => .exc ⟨x, [(fl, d)]⟩ e g
section
variable {X : Cx} {c : Cn} {W : WX}
theorem ss_throwF {x fl : Str} {p pos pos' : Pos} {a : Expr} {m : M D} (hc : X.calm = true) (tk : Takes X W) (xf : XFd X c x) (hfl : fldOf x = [fl]) (hg : Gl X x) (hdb : (x == ("__debug__" : Str)) = false) (ha : PE X a (tV c W m))
    (he : starEach [a] X.env = (false, eval a X.env) :: starEach [] X.env) (hpl : (backTo pos (starEach [] X.env)).any (·.1) = false) :
    SS X c W (.Raise (some (.Call (.Name x p) [a] [] pos)) none pos') (sThrowF x fl m) := fun F0 H0 Fb => by
  obtain ⟨k, C, fI, fd, fl', e1, hm, hf, T, iC, tI, F1, hr, hb⟩ := xf.at_
  rw [hfl] at e1
  cases e1
  refine psImp (ps_raise hc tk (pmk_oex (dvs := []) T iC tI F1 hr hb .nil passL hg hm (pa_cons ha pa_nil he) hdb he hpl)) fun D σ H ⟨F, T, e, g, R, O, q⟩ => ?_
  refine ⟨F, T, e, g, R, (PostS.bind q O).imp fun d F1 T1 H1 e1 g1 R1 x1 ⟨O1, q1⟩ v rv => ⟨by show 1 ≤ 1000; decide, fun a0 ha0 => ⟨a0, v, rfl, upd_same, fun dx hdx hne => ⟨rfl, dx, [(fl, v)], upd_same, ?_, ?_, ?_⟩⟩⟩⟩
  · rw [upd_ne hne, upd_same]
  · rw [upd_ne hne] at hdx; exact hdx
  · have hdx1 : H1 dx = none := by rw [upd_ne hne] at hdx; exact hdx
    have eH : upd (del (upd (upd (upd H1 a0 (exo a0 C none)) dx (exd dx [(fl, v)])) a0 (exo a0 C (some dx))) a0) dx (.xd [(fl, v)]) = upd H1 dx (.xd [(fl, v)]) := by
      funext b
      by_cases hb1 : b = dx
      · subst hb1; rw [upd_same, upd_same]
      · rw [upd_ne hb1, upd_ne hb1]
        by_cases hb2 : b = a0
        · subst hb2; rw [del_same, ha0]
        · rw [del_ne hb2, upd_ne hb2, upd_ne hb1, upd_ne hb2]
    rw [eH]
    have R2 := R1.alloc (o := .xd [(fl, v)]) hdx1
    have x2 := Ext.alloc (c := c) (F := F1) (T := T1) (o := .xd [(fl, v)]) hdx1
    exact q1 (.ref C) (some dx) σ F1 T1 _ R2 (O1.ext x2) ⟨C, hf, rfl, .inr ⟨by simp, dx, [(fl, v)], rfl, upd_same, R1.base.free hdx1, rfl, .cons rv .nil⟩⟩
end
end PV
set_option Elab.async false
set_option linter.all false
set_option maxRecDepth 100000
set_option maxHeartbeats 4000000
/-! PVE2: several clauses except C as n. -/
namespace PV
open PySem L2 PySem.Spec PyProof.Rows

abbrev Clause := Value × Nat × (Addr → Value → Option Addr → TS)
/-- behind a suite its name is gone -/
def goneD (D : Ends) (i : Nat) : Ends := { nx := fun σ H => D.nx (σ.set i none) H, rt := D.rt, bk := fun σ H => D.bk (σ.set i none) H, ct := fun σ H => D.ct (σ.set i none) H }
def wAsN (K : PySem.W.Frag) (Wo : WX) (D : Ends) : List Clause → WX
  | [] => Wo
  | cl :: cls => fun k d σ H => ∃ b, PySem.W.exmOne K k cl.1 = some b ∧ (b = true → ∀ a, H a = none → cl.2.2 a k d (goneD D cl.2.1) (σ.set cl.2.1 (some (.ref a))) H) ∧ (b = false → wAsN K Wo D cls k d σ H)
inductive AsN (X : Cx) : List ExceptHandler → List Clause → Prop
  | nil : AsN X [] []
  | cons {x n : Str} {c : Value} {i : Nat} {ts : Addr → Value → Option Addr → TS} {st : Stmt} {sts : List Stmt} {np pos' : Pos} {hds : List ExceptHandler} {l : List Clause} (hc : Names X x c) (hi : X.N[i]? = some n) (hln : X.env.kindOf n = some .local)
      (hsu : ∀ (a : Addr) (oe : Obj) (cls : Value) (d : Option Addr) (pn : List (Addr × Obj)), Zc cls d oe → (∃ vs, oe.data = .fields vs) → PSs (X.suite a ((a, oe) :: pn)) (st :: sts) (ts a cls d)) (r : AsN X hds l) :
      AsN X (.ExceptHandler (some (.Name x np)) (some n) (st :: sts) pos' :: hds) ((c, i, ts) :: l)
section
variable {X : Cx} {body : List Stmt} {hd0 : ExceptHandler} {hds : List ExceptHandler} {l : List Clause} {pos : Pos} {tb : WX → TS} {Wo : WX}
theorem ps_try_asN (hst : X.stack = X.env :: X.outer) (hfm : X.env.frame = some X.env.locals) (hN : X.N.Nodup) (tk : Takes X Wo)
    (hb : ∀ (W : WX) (pn : List (Addr × Obj)) (xe : Value → Shared → Prop), Takes (X.tr pn xe) W → PassesOwn (model X.prog X.w) X.A X.env xe → PSs (X.tr pn xe) body (tb W)) (hh : AsN X (hd0 :: hds) l) :
    PS X (.Try body (hd0 :: hds) [] [] pos) (fun D σ H => tb (wAsN X.K Wo D l) D σ H) := by
  refine ⟨fun pins s σ H D I h => ?_⟩
  have okX := I.ok
  have frX : X.A.frames = some (X.env :: X.outer) := by rw [okX.frames, hst]
  refine wpAny_Try_except ?_
  have run := (hb (wAsN X.K Wo D l) (X.pn ++ pins) (fun e t1 => wpAny (model X.prog X.w) X.A (noteFrame e X.env) (fun _ t2 => wpAny (model X.prog X.w) X.A (setFlight e none) (fun _ t3 =>
    wpAny (model X.prog X.w) X.A (handleBy e X.env (hd0 :: hds)) (SP X pins D) X.xe t3) X.xe t2) X.xe t1) (fun u s' xx => ?_) PassesOwn.looking).run [] s σ H D (I.toTry _) h
  · refine wpAny_mono run (fun f t1 hsp => ?_) (fun e t1 he => he)
    cases f with
    | next =>
      obtain ⟨σ1, H1, J1, q1⟩ := hsp
      exact wpAny_execs_nil ⟨σ1, H1, J1.ofTry okX, q1⟩
    | brk =>
      obtain ⟨σ1, H1, J1, q1⟩ := hsp
      exact ⟨σ1, H1, J1.ofTry okX, q1⟩
    | cont =>
      obtain ⟨σ1, H1, J1, q1⟩ := hsp
      exact ⟨σ1, H1, J1.ofTry okX, q1⟩
    | ret u =>
      obtain ⟨v1, σ1, H1, J1, r1, q1⟩ := hsp
      exact ⟨v1, σ1, H1, J1.ofTry okX, r1, q1⟩
  · -- an error of the body
    obtain ⟨a, B, sI, pins', σ1, H1, cls, d, rfl, J1, nb, up, sky, na, os, ag, w⟩ := xx
    have J : Inv X pins σ1 H1 sI := J1.ofTry okX
    have skyX : Sky B (X.env :: X.outer) a (Zc cls d) X.env.locals s'.heap := by rw [← hst]; exact sky
    show wpAny (model X.prog X.w) X.A (noteFrame (.ref a) X.env) _ _ _
    refine Sky.land Zc.steady frX hfm skyX fun hp fly upA => ?_
    have JA : Inv X pins σ1 H1 { s' with heap := hp } := J.landed nb fly.1 (up.trans upA) os ag
    obtain ⟨oA, vA, eA, zA, dA⟩ := fly.there
    have noFrame : ∀ {g : Heap} {o : Obj} {vs : Array Value}, g.FunFrames B (X.env :: X.outer) → g.get? a = some o → o.data = .fields vs → a ∉ frs (X.env :: X.outer) := fun {g o vs} ff e dd hm => by
      obtain ⟨_, o2, e2, hnf⟩ := ff.mem hm
      rw [e] at e2
      cases e2
      exact hnf _ dd
    have nfA := noFrame fly.2.2.1 eA dA
    have neL : a ≠ X.env.locals := fun z => nfA (List.mem_filterMap.mpr ⟨X.env, List.mem_cons_self, by rw [hfm, z]⟩)
    have neF : a ∉ X.fs := fun hm => by
      obtain ⟨e, he, q⟩ := List.mem_filterMap.mp hm
      exact nfA (List.mem_filterMap.mpr ⟨e, List.mem_cons_of_mem _ he, q⟩)
    have SA := JA.suite eA dA na neL neF
    have go : ∀ {hs : List ExceptHandler} {ls : List Clause}, AsN X hs ls → wAsN X.K Wo D ls cls d σ1 H1 → wpAny (model X.prog X.w) X.A (handleBy (.ref a) X.env hs) (SP X pins D) X.xe { s' with heap := hp } := by
      intro hs ls hk
      induction hk with
      | nil =>
        intro w
        refine wpAny_handleBy_nil ?_
        obtain ⟨k1, k2, k3, oe, vs, T, oT, ts', he, hz, hdd, h1, hr⟩ := id fly
        unfold PySem.passOn
        refine wpAny_bind (wpAny_field he hdd h1 ?_)
        rw [if_neg (show ¬ ((Value.ref T == Value.none) = true) by simp)]
        have fin : wpAny (model X.prog X.w) X.A (setFlight (.ref a) X.env.frame) (fun _ t4 => wpAny (model X.prog X.w) X.A (throw (.ref a) : Sem Flow) (SP X pins D) X.xe t4) X.xe { s' with heap := hp } := by
          rw [hfm]
          refine HandSPX.setFlight_upZ fly fun hq hhq upq => wpAny_throw (tk _ _ ?_)
          exact ⟨a, B, sI, pins, σ1, H1, cls, d, rfl, J, nb, (up.trans upA).trans upq, .inr (.inr (by rw [hst]; exact hhq)), na, os, ag, w⟩
        first
          | exact wpAny_bind (wpAny_pure (wpAny_bind fin))
          | exact wpAny_bind fin
      | @cons x n c i ts st sts np pos' hds l hc hi hln hsu r ih =>
        rintro ⟨b, hb1, hyes, hno⟩
        refine wpAny_handleBy_cons (codeAny_handlers_test ?_) (by intro q; cases q)
        have lt : PySem.W.Looks (model X.prog X.w) hp (typeOf (.ref a)) cls := fun A Q E s k q => wpAny_typeOf_ref (k _ _ eA) (by rw [zA.1]; exact q)
        have lm := PySem.W.exm_one (M := model X.prog X.w) JA.kIn lt hb1
        have asks : ∀ {Q : Value → Shared → Prop} {E : Value → Shared → Prop}, Q c { s' with heap := hp } → wpAny (model X.prog X.w) (X.A.mark (some (.ref a))) (eval (.Name x np) X.env) Q E { s' with heap := hp } := fun {Q E} q => by
          obtain ⟨hg, hdbg, hm | ⟨hm, hv, hnn⟩⟩ := hc
          · exact ld_glob (X := X.suite a ((a, oA) :: (X.pn ++ pins))) SA hg hm q hdbg
          · exact ld_blt (X := X.suite a ((a, oA) :: (X.pn ++ pins))) SA hg hm hv q hnn hdbg
        refine asks (lm.here ?_)
        cases b with
        | false => exact ih (hno rfl)
        | true =>
          refine codeAny_handlers_suite_as ?_
          refine HandSPX.lands_againZ fly fun hq fl4 upq => ?_
          have JB : Inv X pins σ1 H1 { s' with heap := hq } := J.landed nb fl4.1 ((up.trans upA).trans upq) os ag
          obtain ⟨oB, vB, eB, zB, dB⟩ := fl4.there
          have SB := JB.suite eB dB na neL neF
          refine store_ok (X := X.suite a ((a, oB) :: (X.pn ++ pins))) (v := .ref a) SB hN hi (.inl hln) rfl (fun t5 S5 => ?_) (.inr hln)
          refine wpAny_mono ((hsu a oB cls d (X.pn ++ pins) zB ⟨_, dB⟩).run [] t5 _ H1 _ S5 (hyes rfl a na)) (fun f t6 hsp => ?_) (fun _ _ z => False.elim z)
          have endS : ∀ {σ6 : L2.St} {H6 : Hp} {Q : Shared → Prop}, Inv (X.suite a ((a, oB) :: (X.pn ++ pins))) [] σ6 H6 t6 → (∀ t7, Inv X pins (σ6.set i none) H6 t7 → Q t7) →
              wpAny (model X.prog X.w) X.A (do bindName X.env n .none; unbindBehindTheSuite X.env n pos') (fun _ t7 => Q t7) X.xe t6 := fun {σ6 H6 Q} S6 hq2 => gone_ok (S6.unsuite okX) hN hi hln hq2
          cases f with
          | next =>
            obtain ⟨σ6, H6, S6, q6⟩ := hsp
            exact endS S6 fun t7 J7 => ⟨_, _, J7, q6⟩
          | brk =>
            obtain ⟨σ6, H6, S6, q6⟩ := hsp
            exact endS S6 fun t7 J7 => ⟨_, _, J7, q6⟩
          | cont =>
            obtain ⟨σ6, H6, S6, q6⟩ := hsp
            exact endS S6 fun t7 J7 => ⟨_, _, J7, q6⟩
          | ret u =>
            obtain ⟨v6, σ6, H6, S6, r6, q6⟩ := hsp
            exact endS S6 fun t7 J7 => ⟨_, _, _, J7, r6, q6⟩
    exact go hh w
end
end PV
set_option Elab.async false
set_option linter.all false
set_option maxRecDepth 100000
set_option maxHeartbeats 4000000
/-! PV18: expressions are turned into combinators by a function; it is sound. -/
namespace PV
open PySem L2 PySem.Spec PyProof.Rows

structure Entry where
  n : Nat
  f : SemF
/-- what is known of a text's names -/
structure G where
  N : List Str
  sc : Scope
  tab : List (Str × Entry)
  nums : List (Str × Int)
  props : List (Str × SemF)
  cls : List Str
  nest : List Nat
  maker : Option SemF
  cells : Str → Bool
  xf : Bool := false
def biNames : List Str := ["range", "enumerate", "zip", "len", "sum", "max", "min", "abs", "all", "any", "tuple", "list", "str", "int", "bool", "isinstance", "sorted"]
def G.vis (g : G) (x : Str) : Bool := (match g.sc.names.lookup x with
  | some .local => true
  | some .cell => true
  | some .free => true
  | _ => false) && !(x == ("__debug__" : Str)) && !(x == ("__classdict__" : Str))
def G.slot (g : G) (x : Str) : Option Nat := if g.vis x then g.N.findIdx? (fun y => decide (y = x)) else none
def G.gl (g : G) (x : Str) : Bool := (match g.sc.names.lookup x with
  | some .globalImplicit => true
  | _ => false) && !(x == ("__debug__" : Str))
/-- a name that is stored to -/
def G.loc (g : G) (x : Str) : Bool := match g.sc.names.lookup x with
  | some .local => true
  | some .cell => g.cells x
  | _ => false
def G.bi (g : G) (x : Str) : Bool := g.gl x && biNames.elem x
structure GX (X : Cx) (c : Cn) (W : WX) (g : G) : Prop where
  hN : X.N = g.N
  nd : g.N.Nodup
  sc : X.env.scope = g.sc
  kind : g.sc.kind = .function
  calm : X.calm = true
  hu : X.A.units + 65 < cLine
  tk : Takes X W
  md : MdOk X.K c.Md
  bi : ∀ x, biNames.elem x = true → X.mg x = none
  nums : ∀ x n, g.nums.lookup x = some n → ∃ t, X.mg x = some (.int n t)
  tab : ∀ x en, g.tab.lookup x = some en → ∃ k fa fd ps, FnOk X.prog X.w X.K X.mg X.base (L2.CX X.prog X.w) k fa fd ps (spOf c en.n en.f) ∧ Room k X.A ∧ X.mg x = some (.ref fa) ∧ PySem.W.keepIn X.K (.ref fa) = true ∧ Binds X.K fd ps [] ∧ c.fa x = some fa
  props : ∀ x f, g.props.lookup x = some f → ∃ k fa fd ps pa, PrIs X.K c.Md x pa fa ∧ FnOk X.prog X.w X.K X.mg X.base (L2.CX X.prog X.w) k fa fd ps (spOf c (prN x) f) ∧ Room (k + 1) X.A ∧ Binds X.K fd ps []
  cls : g.cls.elem ("Model" : Str) = true → X.mg ("Model" : Str) = some (.ref c.Md)
  xcs : XCs X.K X.mg c g.cls
  maker : ∀ f, g.maker = some f → ∃ k fa fd ps, Mk X.K c.Md fa ∧ FnOk X.prog X.w X.K X.mg X.base (L2.CX X.prog X.w) k fa fd ps (spMk c f) ∧ Room (k + 1) X.A ∧ Binds X.K fd ps []
  cells : ∀ x, g.cells x = true → X.fn x = true
  xfd : g.xf = true → ∀ x fl, g.cls.elem x = true → x ≠ "Model" → fldOf x = [fl] → XFd X c x
section
variable {X : Cx} {c : Cn} {W : WX} {g : G} {x : Str} {i : Nat}
theorem GX.nm (h : GX X c W g) (e : g.slot x = some i) : Nm X i x := by
  unfold G.slot at e
  split at e
  · rename_i hv
    obtain ⟨hlt, h1, _⟩ := List.findIdx?_eq_some_iff_getElem.mp e
    have ex : g.N[i] = x := of_decide_eq_true h1
    unfold G.vis at hv
    simp only [Bool.and_eq_true, Bool.not_eq_true'] at hv
    refine ⟨by rw [h.hN, List.getElem?_eq_getElem hlt, ex], ?_, hv.1.2, hv.2⟩
    have h2 := hv.1.1
    unfold Vis
    rw [h.sc]
    split at h2 <;> first | exact .inl (by assumption) | exact .inr (.inl (by assumption)) | exact .inr (.inr (by assumption)) | cases h2
  · cases e
theorem GX.gl (h : GX X c W g) (e : g.gl x = true) : Gl X x ∧ (x == ("__debug__" : Str)) = false := by
  unfold G.gl at e
  simp only [Bool.and_eq_true, Bool.not_eq_true'] at e
  refine ⟨?_, e.2⟩
  show X.env.scope.names.lookup x = some .globalImplicit
  rw [h.sc]
  have e1 := e.1
  split at e1
  · assumption
  · cases e1
theorem GX.bl (h : GX X c W g) (e : g.bi x = true) : Gl X x ∧ X.mg x = none := by
  unfold G.bi at e
  rw [Bool.and_eq_true] at e
  exact ⟨(h.gl e.1).1, h.bi x e.2⟩
theorem GX.loc (h : GX X c W g) (e : g.loc x = true) : L2.Loc X.env.scope x ∧ (X.fn x = true ∨ X.env.scope.names.lookup x = some .local) := by
  unfold G.loc at e
  unfold L2.Loc
  rw [h.sc]
  split at e
  · rename_i q; exact ⟨.inl q, .inr q⟩
  · rename_i q; exact ⟨.inr q, .inl (h.cells x e)⟩
  · cases e
/-! ### a comprehension's own block -/
def relabelS (scope sc : Scope) : Scope := { scope with names := scope.names.map fun (n, k) => if (k == .free && sc.kind == .function && sc.names.lookup n == some .cell) then (n, .cell) else (n, k) }
def G.blk (g : G) (scope : Scope) : G := { g with sc := relabelS scope g.sc, cells := fun x => scope.names.lookup x == some .cell }
def isFn : ScopeKind → Bool
  | .function => true
  | _ => false
theorem GX.blk (h : GX X c W g) {scope : Scope} (hk : isFn scope.kind = true) (s : Shared) (H : Hp) (C : Addr) (cl : List (Str × Addr)) (fp : List Addr) : GX (X.blk s H scope (compEnvC scope cl C X.env) fp) c noW (g.blk scope) where
  hN := h.hN
  nd := h.nd
  sc := by
    show relabel scope X.env = relabelS scope g.sc
    rw [← h.sc]; rfl
  kind := by
    show scope.kind = .function
    unfold isFn at hk
    split at hk
    · assumption
    · cases hk
  calm := h.calm
  hu := h.hu
  tk := takes0
  md := h.md
  bi := h.bi
  nums := h.nums
  tab := h.tab
  props := h.props
  cls := h.cls
  xcs := h.xcs
  maker := h.maker
  cells := fun x q => q
  xfd := fun a x fl b d e => ⟨(h.xfd a x fl b d e).at_⟩
end

/-! ### the function -/
def opOf : Operator → Option Op
  | .Add => some .add
  | .Sub => some .sub
  | .Mult => some .mul
  | .FloorDiv => some .fdiv
  | .Mod => some .mod
  | .Pow => some .pow
  | _ => none
def cmpOf : CmpOp → Option Cmp
  | .Eq => some .eq
  | .NotEq => some .ne
  | .Lt => some .lt
  | .LtE => some .le
  | .Gt => some .gt
  | .GtE => some .ge
  | .In => some .isin
  | .NotIn => some .notin
  | .Is => some .is
  | .IsNot => some .isnot
def bnTab : List (Str × Nat × Bn) := [("len", 1, .len), ("sum", 1, .sum), ("max", 1, .max), ("max", 2, .max2), ("min", 1, .min), ("min", 2, .min2), ("abs", 1, .abs), ("all", 1, .all), ("any", 1, .any), ("tuple", 1, .tuple), ("list", 1, .list), ("str", 1, .str), ("int", 1, .int), ("sorted", 1, .sorted)]
def bnOf (x : Str) (n : Nat) : Option Bn := (bnTab.find? fun p => decide (p.1 = x) && p.2.1 == n).map (·.2.2)
theorem bnTab_ok : bnTab.all (fun p => decide (p.1 = p.2.2.name)) = true := by decide +kernel
theorem bnOf_name {x : Str} {n : Nat} {b : Bn} (h : bnOf x n = some b) : x = b.name := by
  unfold bnOf at h
  cases e : bnTab.find? fun p => decide (p.1 = x) && p.2.1 == n with
  | none => rw [e] at h; cases h
  | some p =>
    rw [e] at h
    cases h
    have h1 := List.find?_some e
    have h2 := of_decide_eq_true (List.all_eq_true.mp bnTab_ok p (List.mem_of_find?_eq_some e))
    rw [Bool.and_eq_true] at h1
    rw [← h2]
    exact (of_decide_eq_true h1.1).symm
/-- len of a model, == of a model: by the class's own defs, where they are known -/
def isLenM (g : G) (x : Str) (es : List Expr) : Option SemF := if x == ("len" : Str) && es.isEmpty then g.props.lookup ("__len__" : Str) else none
theorem isLenM_at {g : G} {x : Str} {es : List Expr} {f : SemF} (h : isLenM g x es = some f) : x = "len" ∧ es = [] ∧ g.props.lookup ("__len__" : Str) = some f := by
  unfold isLenM at h
  split at h
  · rename_i hc
    rw [Bool.and_eq_true] at hc
    exact ⟨eq_of_beq hc.1, List.isEmpty_iff.mp hc.2, h⟩
  · cases h
def isEqM (g : G) (o : CmpOp) : Option SemF := match o with
  | .Eq => g.props.lookup ("__eq__" : Str)
  | _ => none
theorem isEqM_at {g : G} {o : CmpOp} {f : SemF} (h : isEqM g o = some f) : o = .Eq ∧ g.props.lookup ("__eq__" : Str) = some f := by
  unfold isEqM at h
  split at h
  · exact ⟨rfl, h⟩
  · cases h
/-- a name that holds a dict of pairs: its place plus 1000 stands in nest -/
def dtSlot (g : G) : Expr → Option Nat
  | .Name x _ => match g.slot x with
    | some i => if g.nest.elem (i + 1000) then some i else none
    | none => none
  | _ => none
theorem dtSlot_at {g : G} {e : Expr} {i : Nat} (h : dtSlot g e = some i) : ∃ x p, e = .Name x p ∧ g.slot x = some i := by
  unfold dtSlot at h
  split at h
  · split at h
    · rename_i j hj
      split at h
      · cases h; exact ⟨_, _, rfl, hj⟩
      · cases h
    · cases h
  · cases h
def isDtIn (g : G) (o : CmpOp) (b : Expr) : Option Nat := match o with
  | .In => dtSlot g b
  | _ => none
theorem isDtIn_at {g : G} {o : CmpOp} {b : Expr} {i : Nat} (h : isDtIn g o b = some i) : o = .In ∧ dtSlot g b = some i := by
  unfold isDtIn at h
  split at h
  · exact ⟨rfl, h⟩
  · cases h
/-- isinstance's kinds -/
def tyOf (g : G) : Expr → Option Ty
  | .Name x _ => if x == ("Model" : Str) then (if g.gl x && g.cls.elem x then some .model else none)
    else if !g.bi x then none
    else if x == ("int" : Str) then some .int
    else if x == ("bool" : Str) then some .bool
    else if x == ("str" : Str) then some .str
    else if x == ("tuple" : Str) then some .tuple
    else if x == ("list" : Str) then some .list
    else none
  | _ => none
def ownOf (g : G) (scope : Scope) : List (Str × Nat) := scope.names.filterMap fun (y, k) => match k with
  | .local => (g.N.findIdx? fun z => decide (z = y)).map fun i => (y, i)
  | .cell => (g.N.findIdx? fun z => decide (z = y)).map fun i => (y, i)
  | _ => none
def cNs (g : G) : List Expr → Option (List Nat)
  | [] => some []
  | .Name x _ :: es => if g.loc x then (match g.slot x, cNs g es with
    | some i, some is => some (i :: is)
    | _, _ => none) else none
  | _ => none
def cTg (g : G) : Expr → Option Tgt
  | .Name x _ => if g.loc x then (g.slot x).map .name else none
  | .Tuple es _ _ => (cNs g es).map .names
  | _ => none
def isTup : Expr → Bool
  | .Tuple _ _ _ => true
  | _ => false
/-- a text times a number -/
def isRepS : Operator → Expr → Bool
  | .Mult, .Constant (.str _) _ _ => true
  | _, _ => false
theorem isRepS_at {op : Operator} {a : Expr} (h : isRepS op a = true) : op = .Mult := by
  unfold isRepS at h
  split at h
  · rfl
  · cases h
/-- sum([.. for .. in x]) of a name x that holds a list of lists: names are as before -/
def peeks (g : G) (x : Str) : Expr → Bool
  | .ListComp _ [⟨_, .Name y _, _, _⟩] _ _ => x == ("sum" : Str) && (match g.slot y with
    | some i => g.nest.elem i
    | none => false)
  | _ => false
mutual
def cO : Nat → G → Expr → Option (M SV)
  | 0, _, _ => none
  | n + 1, g, e => match e with
    | .Name x _ => match g.slot x with
      | some i => some (mVarF i)
      | none => if g.gl x then (match g.nums.lookup x with
        | some k => some (mC (.int k))
        | none => match g.tab.lookup x with
          | some _ => some (mC (.fn x))
          | none => none) else none
    | .Constant k _ _ => match k with
      | .int i => some (mC (.int i))
      | .bool b => some (mC (.bl b))
      | .none => some (mC .non)
      | .str x => some (mC (.str x))
      | _ => none
    | .BinOp a op b _ => if isRepS op a then (match cP n g a, cP n g b with
        | some x, some y => some (mRepS x y)
        | _, _ => none)
      else match opOf op, cP n g a, cP n g b with
      | some o, some x, some y => some (mBin o x y)
      | _, _, _ => none
    | .Compare a ops bs _ => (cC n g a ops bs).map mB
    | .UnaryOp .Not a _ => (cO n g a).map fun m => mB (mNot (mT m))
    | .UnaryOp .USub a _ => (cP n g a).map mNeg
    | .BoolOp op vs p => cB n g op vs p
    | .IfExp d a b _ => match cT n g d, cO n g a, cO n g b with
      | some t, some x, some y => some (mIf t x y)
      | _, _, _ => none
    | .Tuple es _ _ => (cVs n g es).map mTup
    | .List es _ => (cVs n g es).map mLst
    | .Subscript a s _ => match s with
      | .Slice lo hi none _ => match cP n g a, cPo n g lo, cPo n g hi with
        | some x, some l, some h => some (mSlice x l h)
        | _, _, _ => none
      | s => if plainIx s then (match dtSlot g a with
        | some i => (cO n g s).map fun m => mDGet i (mFrz m)
        | none => match cM n g .p a, cP n g s with
        | some x, some y => some (mIdx x y)
        | _, _ => none) else none
    | .Dict [] [] _ => some mDNew
    | .ListComp elt gens scope _ => match gens with
      | [⟨tg, iter, ifs, 0⟩] => if isFn scope.kind && blkC g.N g.sc scope (ownOf g scope) && noSet iter then
          (match cI n g .p (isTup tg) iter, cTg (g.blk scope) tg, cIf n (g.blk scope) ifs, cO n (g.blk scope) elt with
          | some src, some t, some cd, some m => if t.slots.all (fun i => ((ownOf g scope).map (·.2)).elem i) then some (mComp ((ownOf g scope).map (·.2)) t src cd (mFrz m)) else none
          | _, _, _, _ => none) else none
      | [⟨tg, iter, [], 0⟩, ⟨tg1, iter1, [], 0⟩] => if isFn scope.kind && blkC g.N g.sc scope (ownOf g scope) && noSet iter && noSet iter1 then
          (match cI n g .p (isTup tg) iter, cTg (g.blk scope) tg, cI n (g.blk scope) .f (isTup tg1) iter1, cTg (g.blk scope) tg1, cO n (g.blk scope) elt with
          | some src, some t, some src1, some t1, some m => if t.slots.all (fun i => ((ownOf g scope).map (·.2)).elem i) && t1.slots.all (fun i => ((ownOf g scope).map (·.2)).elem i) then some (mComp2 ((ownOf g scope).map (·.2)) t1.slots t src t1 src1 (mFrz m)) else none
          | _, _, _, _, _ => none) else none
      | _ => none
    | .Call (.Name x _) (a :: es) [] _ => if noStar a && es.all noStar then
        (if x == ("Model" : Str) then (match es, g.maker with
            | [], some f => if g.gl x && g.cls.elem x then (cO n g a).map fun m => mMake f (mFrz m) else none
            | _, _ => none)
        else if x == ("isinstance" : Str) then (if g.bi x then (match es with
          | [.Tuple [b, d] _ _] => match cP n g a, tyOf g b, tyOf g d with
            | some m, some t1, some t2 => some (mB (mIsa m [t1, t2]))
            | _, _, _ => none
          | [b] => match cP n g a, tyOf g b with
            | some m, some t => some (mB (mIsa m [t]))
            | _, _ => none
          | _ => none) else none)
        else match g.tab.lookup x with
          | some en => if g.gl x then (cVs n g (a :: es)).map fun ms => mCall en.n en.f ms else none
          | none => match isLenM g x es with
            | some f => if g.bi x then (cP n g a).map (mLen f) else none
            | none => match bnOf x (a :: es).length with
            | some b => if g.bi x then (match isTupRange x es a with
              | some d => if noStar d && g.bi "range" then (cP n g d).map mTupR else none
              | none => match isListZip x es a with
                | some (u, v) => if noStar u && noStar v && g.bi "zip" then (match cVs n g [u, v] with
                  | some [mu, mv] => some (mLZip mu mv)
                  | _ => none) else none
                | none => if peeks g x a then (cPs n g (a :: es)).map fun ms => mPeek (mBn b ms) else (cPs n g (a :: es)).map (mBn b)) else none
            | none => none) else none
    | .Call (.Attribute o "index" apos) [a] [] pos => if plainBase o && noStar a && (apos.endLine == pos.line) then (match cP n g o, cO n g a with
        | some l, some m => some (mIndex l (mFrz m))
        | _, _ => none) else none
    | .Call (.Attribute o "join" apos) [a] [] pos => if plainBase o && noStar a && (apos.endLine == pos.line) then (match cP n g o, cP n g a with
        | some l, some m => some (mJoin l m)
        | _, _ => none) else none
    | .Call (.Attribute o "split" apos) [a] [] pos => if plainBase o && noStar a && (apos.endLine == pos.line) then (match cP n g o, cP n g a with
        | some l, some m => some (mSplit l m)
        | _, _ => none) else none
    | .Attribute o x _ => if plainBase o then (if x == ("rows" : Str) then (cP n g o).map mTabs else if dun x then none else match g.props.lookup x with
        | some f => (cP n g o).map (mProp f)
        | none => none) else none
    | _ => none
/-- a look -/
def cP : Nat → G → Expr → Option (M SV)
  | 0, _, _ => none
  | n + 1, g, e => match e with
    | .Name x _ => match g.slot x with
      | some i => some (mVarP i)
      | none => cO n g e
    | .Subscript (.Name x _) s _ => match g.slot x with
      | some i => if g.nest.elem i && plainIx s then (cP n g s).map (mRowP i) else cO n g e
      | none => cO n g e
    | _ => cO n g e
/-- a test -/
def cT : Nat → G → Expr → Option (M Bool)
  | 0, _, _ => none
  | n + 1, g, e => match e with
    | .Compare a ops bs _ => cC n g a ops bs
    | .UnaryOp .Not a _ => (cT n g a).map mNot
    | .BoolOp op vs p => cW n g op vs p
    | .IfExp _ _ _ _ => none
    | e => (cO n g e).map mT
/-- a comparison -/
def cC : Nat → G → Expr → List CmpOp → List Expr → Option (M Bool)
  | 0, _, _, _, _ => none
  | n + 1, g, a, ops, bs => match ops, bs with
    | [o], [b] => if noSet b then (match isEqM g o with
      | some f => match cP n g a, cP n g b with
        | some x, some y => some (mEqM f x y)
        | _, _ => none
      | none => match isDtIn g o b with
      | some i => (cO n g a).map fun m => mDIn (mFrz m) i
      | none => match cmpOf o, cP n g a, cP n g b with
        | some o, some x, some y => some (mCmp o x y)
        | _, _, _ => none) else none
    | [o, o2], [b, d] => if noSet d then (match cmpOf o, cmpOf o2, cP n g a, cP n g b, cP n g d with
      | some o, some o2, some x, some y, some z => some (mChain o o2 x y z)
      | _, _, _, _, _ => none) else none
    | _, _ => none
/-- and, or as a test -/
def cW : Nat → G → BoolOp → List Expr → Pos → Option (M Bool)
  | 0, _, _, _, _ => none
  | n + 1, g, op, vs, p => match vs with
    | [a] => cT n g a
    | a :: b :: rest => match cT n g a, cW n g op (b :: rest) p with
      | some x, some y => some (match op with | .And => mAnd x y | .Or => mOr x y)
      | _, _ => none
    | [] => none
/-- and, or as a value -/
def cB : Nat → G → BoolOp → List Expr → Pos → Option (M SV)
  | 0, _, _, _, _ => none
  | n + 1, g, op, vs, p => match vs with
    | [a] => cO n g a
    | a :: b :: rest => match cO n g a, cB n g op (b :: rest) p with
      | some x, some y => some (match op with | .And => mIf (mT x) y (mC (.bl false)) | .Or => mIf (mT x) (mC (.bl true)) y)
      | _, _ => none
    | [] => none
def cVs : Nat → G → List Expr → Option (List (M D))
  | 0, _, _ => none
  | n + 1, g, es => match es with
    | [] => some []
    | e :: es => if noStar e then (match cO n g e, cVs n g es with
      | some m, some ms => some (mFrz m :: ms)
      | _, _ => none) else none
def cPs : Nat → G → List Expr → Option (List (M SV))
  | 0, _, _ => none
  | n + 1, g, es => match es with
    | [] => some []
    | e :: es => if noStar e then (match cP n g e, cPs n g es with
      | some m, some ms => some (m :: ms)
      | _, _ => none) else none
def cPo : Nat → G → Option Expr → Option (Option (M SV))
  | 0, _, _ => none
  | n + 1, g, o => match o with
    | none => some none
    | some e => (cP n g e).map some
def cIf : Nat → G → List Expr → Option (M Bool)
  | 0, _, _ => none
  | n + 1, g, ifs => match ifs with
    | [] => some (mRet true)
    | [c] => cT n g c
    | _ => none
/-- an operand of a walk -/
def cM : Nat → G → Md → Expr → Option (M SV)
  | 0, _, _, _ => none
  | n + 1, g, μ, e => match μ with
    | .f => cO n g e
    | .p => match e with
      | .Name x _ => match g.slot x with
        | some i => if g.nest.elem i then cO n g e else cP n g e
        | none => cP n g e
      | _ => cP n g e
def cI : Nat → G → Md → Bool → Expr → Option Src
  | 0, _, _, _, _ => none
  | n + 1, g, μ, tup, e => match e with
    | .Call (.Name "range" p) [a] [] pos => if noStar a && g.bi "range" then (cP n g a).map .rng1 else none
    | .Call (.Name "range" p) [a, b] [] pos => if noStar a && noStar b && g.bi "range" then (match cP n g a, cP n g b with
      | some x, some y => some (.rng2 x y)
      | _, _ => none) else none
    | .Call (.Name "enumerate" p) [a] [] pos => if noStar a && tup && g.bi "enumerate" then (cM n g μ a).map .enum else none
    | .Call (.Name "enumerate" p) [a, .Constant (.int k) k2 kp] [] pos => if noStar a && tup && g.bi "enumerate" && decide (-(2 ^ 63) ≤ k) && decide (k < 2 ^ 63) then (cM n g μ a).map fun m => .enumFrom m k else none
    | .Call (.Name "zip" p) [a, b] [] pos => if noStar a && noStar b && tup && g.bi "zip" then (match cM n g μ a, cM n g μ b with
      | some x, some y => some (.zip2 x y)
      | _, _ => none) else none
    | .Call (.Name "zip" p) [a, b, d] [] pos => if noStar a && noStar b && noStar d && tup && g.bi "zip" then (match cM n g μ a, cM n g μ b, cM n g μ d with
      | some x, some y, some z => some (.zip3 x y z)
      | _, _, _ => none) else none
    | e => (cM n g μ e).map .seq
end
end PV
set_option Elab.async false
set_option linter.all false
set_option maxRecDepth 100000
set_option maxHeartbeats 4000000
/-! PV19: the function of PV18 is sound. -/
namespace PV
open PySem L2 PySem.Spec PyProof.Rows

structure Sound (n : Nat) : Prop where
  o : ∀ {X : Cx} {c : Cn} {W : WX} {g : G} {e : Expr} {m : M SV}, GX X c W g → cO n g e = some m → PE X e (tO c W m)
  p : ∀ {X : Cx} {c : Cn} {W : WX} {g : G} {e : Expr} {m : M SV}, GX X c W g → cP n g e = some m → PE X e (tP c W m)
  t : ∀ {X : Cx} {c : Cn} {W : WX} {g : G} {e : Expr} {m : M Bool}, GX X c W g → cT n g e = some m → PT X e (tT c W m)
  cc : ∀ {X : Cx} {c : Cn} {W : WX} {g : G} {a : Expr} {ops : List CmpOp} {bs : List Expr} {p : Pos} {m : M Bool}, GX X c W g → cC n g a ops bs = some m → PT X (.Compare a ops bs p) (tT c W m) ∧ PE X (.Compare a ops bs p) (tO c W (mB m))
  w : ∀ {X : Cx} {c : Cn} {W : WX} {g : G} {op : BoolOp} {vs : List Expr} {p : Pos} {m : M Bool}, GX X c W g → cW n g op vs p = some m → PW X (.BoolOp op vs p) (tT c W m)
  b : ∀ {X : Cx} {c : Cn} {W : WX} {g : G} {op : BoolOp} {vs : List Expr} {p : Pos} {m : M SV}, GX X c W g → cB n g op vs p = some m → PE X (.BoolOp op vs p) (tO c W m)
  vs : ∀ {X : Cx} {c : Cn} {W : WX} {g : G} {es : List Expr} {ms : List (M D)}, GX X c W g → cVs n g es = some ms → PA X es (tA c W (mAll ms))
  ps : ∀ {X : Cx} {c : Cn} {W : WX} {g : G} {es : List Expr} {ms : List (M SV)}, GX X c W g → cPs n g es = some ms → PA X es (tAP c W (mAll ms))
  po : ∀ {X : Cx} {c : Cn} {W : WX} {g : G} {o : Option Expr} {mo : Option (M SV)}, GX X c W g → cPo n g o = some mo → PO X o (tPM c W (mPart mo))
  ifs : ∀ {X : Cx} {c : Cn} {W : WX} {g : G} {es : List Expr} {m : M Bool}, GX X c W g → cIf n g es = some m → PTs X es (tT c W m)
  m : ∀ {X : Cx} {c : Cn} {W : WX} {g : G} {μ : Md} {e : Expr} {m : M SV}, GX X c W g → cM n g μ e = some m → PE X e (tM μ c W m)
  i : ∀ {X : Cx} {c : Cn} {W : WX} {g : G} {μ : Md} {tg e : Expr} {s : Src}, GX X c W g → cI n g μ (isTup tg) e = some s → PI X tg e (tI μ c W s)

section
variable {X : Cx} {c : Cn} {W : WX} {g : G} {n : Nat} {e : Expr}
theorem sound_p (S : Sound n) {m : M SV} (h : GX X c W g) (k : cP (n + 1) g e = some m) : PE X e (tP c W m) := by
  unfold cP at k
  split at k
  · split at k
    · rename_i hs
      cases k
      have nm := h.nm hs
      exact se_varP nm.hN nm.hv nm.hd nm.hcd
    · exact se_look (S.o h k)
  · split at k
    · rename_i hs
      split at k
      · rename_i hc
        rw [Bool.and_eq_true] at hc
        have nm := h.nm hs
        cases e1 : cP n g _ with
        | none => rw [e1] at k; cases k
        | some ms =>
          rw [e1] at k
          cases k
          exact se_rowP nm.hN nm.hv nm.hd nm.hcd (S.p h e1) (plain_ix hc.2)
      · exact se_look (S.o h k)
    · exact se_look (S.o h k)
  · exact se_look (S.o h k)
theorem cmp_op {op : CmpOp} {o : Cmp} (h : cmpOf op = some o) : op = o.op := by
  cases op <;> cases h <;> rfl
theorem sound_c (S : Sound n) {a : Expr} {ops : List CmpOp} {bs : List Expr} {p : Pos} {m : M Bool} (h : GX X c W g) (k : cC (n + 1) g a ops bs = some m) : PT X (.Compare a ops bs p) (tT c W m) ∧ PE X (.Compare a ops bs p) (tO c W (mB m)) := by
  unfold cC at k
  split at k
  · split at k
    · rename_i hn
      split at k
      · rename_i f hf
        obtain ⟨rfl, hl⟩ := isEqM_at hf
        split at k
        · rename_i x y h2 h3
          cases k
          obtain ⟨kk, fa, fd, ps, pa, hp, G1, hr, hb⟩ := h.props _ f hl
          have hr' : Room kk X.A := hr.mono (Nat.le_succ kk)
          exact ⟨st_eqM h.hu (hp.isDun rfl) G1 hr' hb (S.p h h2) (S.p h h3) (no_marks hn), se_eqM h.hu (hp.isDun rfl) G1 hr' hb (S.p h h2) (S.p h h3) (no_marks hn)⟩
        · cases k
      · split at k
        · rename_i i hi
          obtain ⟨rfl, hi⟩ := isDtIn_at hi
          obtain ⟨x, px, rfl, hs⟩ := dtSlot_at hi
          cases e1 : cO n g a with
          | none => rw [e1] at k; cases k
          | some y =>
            rw [e1] at k
            cases k
            exact ⟨st_din h.hu (h.nm hs) (se_frz (S.o h e1)) (no_marks hn), se_din h.hu (h.nm hs) (se_frz (S.o h e1)) (no_marks hn)⟩
        split at k
        · rename_i o x y h1 h2 h3
          cases k
          rw [cmp_op h1]
          exact ⟨st_cmp h.hu (S.p h h2) (S.p h h3) (no_marks hn), se_cmp h.hu (S.p h h2) (S.p h h3) (no_marks hn)⟩
        · cases k
    · cases k
  · split at k
    · rename_i hn
      split at k
      · rename_i o o2 x y z h1 h2 h3 h4 h5
        cases k
        rw [cmp_op h1, cmp_op h2]
        exact ⟨st_chain h.hu (S.p h h3) (S.p h h4) (S.p h h5) (no_marks hn), se_chain h.hu (S.p h h3) (S.p h h4) (S.p h h5) (no_marks hn)⟩
      · cases k
    · cases k
  · cases k
theorem sound_t (S : Sound n) {m : M Bool} (h : GX X c W g) (k : cT (n + 1) g e = some m) : PT X e (tT c W m) := by
  unfold cT at k
  split at k
  · exact (S.cc h k).1
  · rename_i a _
    cases e1 : cT n g a with
    | none => rw [e1] at k; cases k
    | some x => rw [e1] at k; cases k; exact st_not (S.t h e1)
  · exact (S.w h k).pt
  · cases k
  · rename_i h3 h4 h5 h6
    cases e1 : cO n g e with
    | none => rw [e1] at k; cases k
    | some x =>
      rw [e1] at k
      cases k
      refine st_val (S.o h e1) (plain_test ?_)
      cases e with
      | UnaryOp op a p => cases op <;> first | rfl | exact absurd rfl (h4 _ _)
      | BoolOp _ _ _ => exact absurd rfl (h5 _ _ _)
      | IfExp _ _ _ _ => exact absurd rfl (h6 _ _ _ _)
      | Compare _ _ _ _ => exact absurd rfl (h3 _ _ _ _)
      | _ => rfl
theorem sound_w (S : Sound n) {op : BoolOp} {vs : List Expr} {p : Pos} {m : M Bool} (h : GX X c W g) (k : cW (n + 1) g op vs p = some m) : PW X (.BoolOp op vs p) (tT c W m) := by
  unfold cW at k
  split at k
  · cases op with
    | And => exact st_and1 (S.t h k)
    | Or => exact st_or1 (S.t h k)
  · split at k
    · rename_i x y h1 h2
      cases op with
      | And => cases k; exact st_and (S.t h h1) (S.w h h2)
      | Or => cases k; exact st_or (S.t h h1) (S.w h h2)
    · cases k
  · cases k
theorem sound_b (S : Sound n) {op : BoolOp} {vs : List Expr} {p : Pos} {m : M SV} (h : GX X c W g) (k : cB (n + 1) g op vs p = some m) : PE X (.BoolOp op vs p) (tO c W m) := by
  unfold cB at k
  split at k
  · exact se_one (S.o h k)
  · split at k
    · rename_i x y h1 h2
      cases op with
      | And => cases k; exact se_and (S.o h h1) (S.b h h2)
      | Or => cases k; exact se_or (S.o h h1) (S.b h h2)
    · cases k
  · cases k
theorem sound_vs (S : Sound n) {es : List Expr} {ms : List (M D)} (h : GX X c W g) (k : cVs (n + 1) g es = some ms) : PA X es (tA c W (mAll ms)) := by
  unfold cVs at k
  split at k
  · cases k; exact sa_nil
  · split at k
    · rename_i hn
      split at k
      · rename_i x y h1 h2
        cases k
        exact sa_cons (se_frz (S.o h h1)) (S.vs h h2) (star_cons hn)
      · cases k
    · cases k
theorem sound_ps (S : Sound n) {es : List Expr} {ms : List (M SV)} (h : GX X c W g) (k : cPs (n + 1) g es = some ms) : PA X es (tAP c W (mAll ms)) := by
  unfold cPs at k
  split at k
  · cases k; exact sp_nil
  · split at k
    · rename_i hn
      split at k
      · rename_i x y h1 h2
        cases k
        exact sp_cons (S.p h h1) (S.ps h h2) (star_cons hn)
      · cases k
    · cases k
theorem sound_po (S : Sound n) {o : Option Expr} {mo : Option (M SV)} (h : GX X c W g) (k : cPo (n + 1) g o = some mo) : PO X o (tPM c W (mPart mo)) := by
  unfold cPo at k
  split at k
  · cases k; exact so_none
  · rename_i e
    cases e1 : cP n g e with
    | none => rw [e1] at k; cases k
    | some x => rw [e1] at k; cases k; exact so_some (S.p h e1)
theorem sound_if (S : Sound n) {es : List Expr} {m : M Bool} (h : GX X c W g) (k : cIf (n + 1) g es = some m) : PTs X es (tT c W m) := by
  unfold cIf at k
  split at k
  · cases k
    exact ⟨fun pins s σ H Q I ⟨F, T, e, g, R, p⟩ => pts_nil.run pins s σ H Q I (doneQ R p)⟩
  · exact pts_one (S.t h k)
  · cases k
theorem sound_m (S : Sound n) {μ : Md} {m : M SV} (h : GX X c W g) (k : cM (n + 1) g μ e = some m) : PE X e (tM μ c W m) := by
  unfold cM at k
  split at k
  · exact se_fix (S.o h k)
  · split at k
    · split at k
      · split at k
        · exact se_lookM (se_look (S.o h k))
        · exact se_lookM (S.p h k)
      · exact se_lookM (S.p h k)
    · exact se_lookM (S.p h k)
theorem tup_at {tg : Expr} (h : isTup tg = true) : ∃ es k p, tg = .Tuple es k p := by
  cases tg <;> first | exact ⟨_, _, _, rfl⟩ | cases h
theorem sound_i (S : Sound n) {μ : Md} {tg : Expr} {s : Src} (h : GX X c W g) (k : cI (n + 1) g μ (isTup tg) e = some s) : PI X tg e (tI μ c W s) := by
  unfold cI at k
  split at k
  · rename_i p a pos
    split at k
    · rename_i hc
      rw [Bool.and_eq_true] at hc
      cases e1 : cP n g a with
      | none => rw [e1] at k; cases k
      | some x => rw [e1] at k; cases k; exact si_rng1 (h.bl hc.2).1 (h.bl hc.2).2 (S.p h e1) (star_cons hc.1)
    · cases k
  · split at k
    · rename_i hc
      simp only [Bool.and_eq_true] at hc
      split at k
      · rename_i x y h1 h2
        cases k
        exact si_rng2 (h.bl hc.2).1 (h.bl hc.2).2 (S.p h h1) (S.p h h2) (star_cons hc.1.1) (star_cons hc.1.2)
      · cases k
    · cases k
  · rename_i p a pos
    split at k
    · rename_i hc
      simp only [Bool.and_eq_true] at hc
      obtain ⟨es, k2, p2, rfl⟩ := tup_at hc.1.2
      cases e1 : cM n g μ a with
      | none => rw [e1] at k; cases k
      | some x => rw [e1] at k; cases k; exact si_enum (h.bl hc.2).1 (h.bl hc.2).2 (S.m h e1) (star_cons hc.1.1)
    · cases k
  · rename_i p a kk k2 kp pos
    split at k
    · rename_i hc
      simp only [Bool.and_eq_true, decide_eq_true_eq] at hc
      obtain ⟨es, k3, p2, rfl⟩ := tup_at hc.1.1.1.2
      cases e1 : cM n g μ a with
      | none => rw [e1] at k; cases k
      | some x => rw [e1] at k; cases k; exact si_enumK (h.bl hc.1.1.2).1 (h.bl hc.1.1.2).2 (S.m h e1) (star_cons hc.1.1.1.1) (star_cons rfl) (star_none (by rfl)) hc.1.2 hc.2
    · cases k
  · split at k
    · rename_i hc
      simp only [Bool.and_eq_true] at hc
      obtain ⟨es, k3, p2, rfl⟩ := tup_at hc.1.2
      split at k
      · rename_i x y h1 h2
        cases k
        exact si_zip2 (h.bl hc.2).1 (h.bl hc.2).2 (S.m h h1) (S.m h h2) (star_cons hc.1.1.1) (star_cons hc.1.1.2) (star_none (by simp [hc.1.1.2]))
      · cases k
    · cases k
  · split at k
    · rename_i hc
      simp only [Bool.and_eq_true] at hc
      obtain ⟨es, k3, p2, rfl⟩ := tup_at hc.1.2
      split at k
      · rename_i x y z h1 h2 h3
        cases k
        exact si_zip3 (h.bl hc.2).1 (h.bl hc.2).2 (S.m h h1) (S.m h h2) (S.m h h3) (star_cons hc.1.1.1.1) (star_cons hc.1.1.1.2) (star_cons hc.1.1.2) (star_none (by simp [hc.1.1.1.2, hc.1.1.2]))
      · cases k
    · cases k
  · cases e1 : cM n g μ e with
    | none => rw [e1] at k; cases k
    | some x => rw [e1] at k; cases k; exact si_seq (S.m h e1)
end
end PV
set_option Elab.async false
set_option linter.all false
set_option maxRecDepth 100000
set_option maxHeartbeats 4000000
/-! PV20: the function of PV18 is sound: values. -/
namespace PV
open PySem L2 PySem.Spec PyProof.Rows

section
variable {X : Cx} {c : Cn} {W : WX} {g : G} {n : Nat} {e : Expr}
theorem ty_ok (h : GX X c W g) {t : Ty} (k : tyOf g e = some t) : PE X e (tC (t.vv c)) := by
  unfold tyOf at k
  split at k
  · rename_i x p
    split at k
    · rename_i hx
      have ex := eq_of_beq hx
      subst ex
      split at k
      · rename_i hc
        cases k
        rw [Bool.and_eq_true] at hc
        exact pe_glob (h.gl hc.1).1 (h.cls hc.2) rfl (h.gl hc.1).2
      · cases k
    · split at k
      · cases k
      · rename_i hb
        have hb : g.bi x = true := by simpa using hb
        obtain ⟨b1, b2⟩ := h.bl hb
        split at k
        · rename_i hx; have ex := eq_of_beq hx; subst ex; cases k
          exact pe_bltn (v := .ty "int") b1 b2 (by decide +kernel) rfl (by decide +kernel) (by decide +kernel)
        · split at k
          · rename_i hx; have ex := eq_of_beq hx; subst ex; cases k
            exact pe_bltn (v := .ty "bool") b1 b2 (by decide +kernel) rfl (by decide +kernel) (by decide +kernel)
          · split at k
            · rename_i hx; have ex := eq_of_beq hx; subst ex; cases k
              exact pe_bltn (v := .ty "str") b1 b2 (by decide +kernel) rfl (by decide +kernel) (by decide +kernel)
            · split at k
              · rename_i hx; have ex := eq_of_beq hx; subst ex; cases k
                exact pe_bltn (v := .ty "tuple") b1 b2 (by decide +kernel) rfl (by decide +kernel) (by decide +kernel)
              · split at k
                · rename_i hx; have ex := eq_of_beq hx; subst ex; cases k
                  exact pe_bltn (v := .ty "list") b1 b2 (by decide +kernel) rfl (by decide +kernel) (by decide +kernel)
                · cases k
  · cases k
theorem op_op {op : Operator} {o : Op} (h : opOf op = some o) {a b : Expr} {p : Pos} {x y : M SV} (ha : PE X a (tP c W x)) (hb : PE X b (tP c W y)) : PE X (.BinOp a op b p) (tO c W (mBin o x y)) := by
  cases op <;> cases h
  · exact se_add ha hb
  · exact se_sub ha hb
  · exact se_mul ha hb
  · exact se_mod ha hb
  · exact se_pow ha hb
  · exact se_fdiv ha hb
theorem tyx_star {b : Expr} {t : Ty} (k : tyOf g b = some t) : noStar b = true := by
  unfold tyOf at k
  split at k
  · rfl
  · cases k
theorem tg_ok (h : GX X c W g) {tg : Expr} {t : Tgt} (k : cTg g tg = some t) : PG X tg (gT c t) := by
  have names : ∀ {es : List Expr} {is : List Nat}, cNs g es = some is → PGs X es (gNs c is) ∧ (assignEach es X.env).length = is.length ∧ (assignEach es X.env).findIdx? (·.1) = none := by
    intro es
    induction es with
    | nil => intro is q; cases q; exact ⟨sgs_nil, rfl, rfl⟩
    | cons e es ih =>
      intro is q
      unfold cNs at q
      split at q
      · rename_i q1; cases q1
      · rename_i x p es' q1
        cases q1
        split at q
        · rename_i hl
          split at q
          · rename_i i is' h1 h2
            cases q
            obtain ⟨p1, p2, p3⟩ := ih h2
            obtain ⟨l1, l2⟩ := h.loc hl
            refine ⟨sgs_cons (by rw [h.hN]; exact h.nd) (h.nm h1).hN l1 l2 p1, ?_, ?_⟩
            · show (assignEach es X.env).length + 1 = _
              rw [p2]; rfl
            · show List.findIdx? _ ((false, _) :: assignEach es X.env) = none
              rw [List.findIdx?_cons]
              simp [p3]
          · cases q
        · cases q
      · cases q
  unfold cTg at k
  split at k
  · rename_i x p
    split at k
    · rename_i hl
      cases e1 : g.slot x with
      | none => rw [e1] at k; cases k
      | some i =>
        rw [e1] at k
        cases k
        obtain ⟨l1, l2⟩ := h.loc hl
        exact sg_name (by rw [h.hN]; exact h.nd) (h.nm e1).hN l1 l2
    · cases k
  · rename_i es kk p
    cases e1 : cNs g es with
    | none => rw [e1] at k; cases k
    | some is =>
      rw [e1] at k
      cases k
      obtain ⟨p1, p2, p3⟩ := names e1
      exact sg_names h.calm p1 p2 p3
  · cases k
theorem sound_o (S : Sound n) {m : M SV} (h : GX X c W g) (k : cO (n + 1) g e = some m) : PE X e (tO c W m) := by
  unfold cO at k
  split at k
  · -- a name
    rename_i x p
    split at k
    · rename_i i hs
      cases k
      have nm := h.nm hs
      exact se_varF nm.hN nm.hv nm.hd nm.hcd
    · split at k
      · rename_i hg
        obtain ⟨g1, g2⟩ := h.gl hg
        split at k
        · rename_i i hi
          cases k
          obtain ⟨t, ht⟩ := h.nums x i hi
          exact se_globI g1 ht g2
        · split at k
          · rename_i en he
            cases k
            obtain ⟨_, fa, _, _, _, _, hm, _, _, hf⟩ := h.tab x en he
            exact se_globF g1 hm hf g2
          · cases k
      · cases k
  · -- a constant
    split at k <;> cases k
    · exact se_int
    · exact se_bl
    · exact se_non
    · exact se_str
  · -- a op b
    split at k
    · rename_i hr
      have eo := isRepS_at hr
      subst eo
      split at k
      · rename_i x y h1 h2
        cases k
        exact se_repS (S.p h h1) (S.p h h2)
      · cases k
    split at k
    · rename_i o x y h1 h2 h3
      cases k
      exact op_op h1 (S.p h h2) (S.p h h3)
    · cases k
  · -- a comparison
    rename_i a ops bs p
    cases e1 : cC n g a ops bs with
    | none => rw [e1] at k; cases k
    | some x => rw [e1] at k; cases k; exact (S.cc h e1).2
  · rename_i a p
    cases e1 : cO n g a with
    | none => rw [e1] at k; cases k
    | some x => rw [e1] at k; cases k; exact se_not (S.o h e1)
  · rename_i a p
    cases e1 : cP n g a with
    | none => rw [e1] at k; cases k
    | some x => rw [e1] at k; cases k; exact se_neg (S.p h e1)
  · exact S.b h k
  · split at k
    · rename_i t x y h1 h2 h3
      cases k
      exact se_if (S.t h h1) (S.o h h2) (S.o h h3)
    · cases k
  · rename_i es kk p
    cases e1 : cVs n g es with
    | none => rw [e1] at k; cases k
    | some x => rw [e1] at k; cases k; exact se_tup (S.vs h e1)
  · rename_i es p
    cases e1 : cVs n g es with
    | none => rw [e1] at k; cases k
    | some x => rw [e1] at k; cases k; exact se_lst (S.vs h e1)
  · -- items, slices
    split at k
    · split at k
      · rename_i x l u h1 h2 h3
        cases k
        exact se_slice (S.p h h1) (S.po h h2) (S.po h h3)
      · cases k
    · split at k
      · rename_i hp
        split at k
        · rename_i i hi
          obtain ⟨x, px, rfl, hs⟩ := dtSlot_at hi
          cases e1 : cO n g _ with
          | none => rw [e1] at k; cases k
          | some y =>
            rw [e1] at k
            cases k
            exact se_dget h.hu (h.nm hs) (se_frz (S.o h e1)) (plain_ix hp)
        split at k
        · rename_i x y h1 h2
          cases k
          exact se_idx (S.m (μ := .p) h h1) (S.p h h2) (plain_ix hp)
        · cases k
      · cases k
  · cases k; exact se_dnew
  · -- a comprehension
    split at k
    · rename_i elt tg iter ifs scope p
      split at k
      · rename_i hc
        simp only [Bool.and_eq_true] at hc
        split at k
        · rename_i src t cd mm h1 h2 h3 h4
          split at k
          · rename_i hsl
            cases k
            refine se_comp h.calm (by rw [h.hN]; exact h.nd) (S.i h h1) (by rw [h.hN, h.sc]; exact hc.1.2) (fun i hi => ?_) (fun s H C cl fp => tg_ok (h.blk hc.1.1 s H C cl fp) h2) (fun s H C cl fp => S.ifs (h.blk hc.1.1 s H C cl fp) h3) (fun s H C cl fp => se_frz (S.o (h.blk hc.1.1 s H C cl fp) h4)) (no_set hc.2)
            have := List.all_eq_true.mp hsl i hi
            simpa using this
          · cases k
        · cases k
      · cases k
    · rename_i elt tg iter tg1 iter1 scope p
      split at k
      · rename_i hc
        simp only [Bool.and_eq_true] at hc
        split at k
        · rename_i src t src1 t1 mm h1 h2 h3 h4 h5
          split at k
          · rename_i hsl
            rw [Bool.and_eq_true] at hsl
            cases k
            refine se_comp2 h.calm (by rw [h.hN]; exact h.nd) (S.i h h1) (by rw [h.hN, h.sc]; exact hc.1.1.2) (fun i hi => ?_) (fun i hi => ?_) (fun s H C cl fp => tg_ok (h.blk hc.1.1.1 s H C cl fp) h2) (fun s H C cl fp => S.i (h.blk hc.1.1.1 s H C cl fp) h3) (fun s H C cl fp => tg_ok (h.blk hc.1.1.1 s H C cl fp) h4) (fun s H C cl fp => se_frz (S.o (h.blk hc.1.1.1 s H C cl fp) h5)) (no_set hc.1.2) (fun env x => no_set hc.2 x)
            · have := List.all_eq_true.mp hsl.1 i hi
              simpa using this
            · have := List.all_eq_true.mp hsl.2 i hi
              simpa using this
          · cases k
        · cases k
      · cases k
    · cases k
  · -- a call
    rename_i x p a es pos
    split at k
    · rename_i hn
      rw [Bool.and_eq_true] at hn
      have he := star_cons (es := es) (env := X.env) hn.1
      have hpl := star_none (env := X.env) (pos := pos) hn.2
      split at k
      · rename_i hx
        have ex := eq_of_beq hx
        subst ex
        split at k
        · rename_i f hf
          split at k
          · rename_i hc
            rw [Bool.and_eq_true] at hc
            obtain ⟨g1, g2⟩ := h.gl hc.1
            cases e1 : cO n g a with
            | none => rw [e1] at k; cases k
            | some mm =>
              rw [e1] at k
              cases k
              obtain ⟨kk, fa, fd, ps, M, G1, hr, hb⟩ := h.maker f hf
              exact se_make h.tk M G1 hr g1 (h.cls hc.2) hb (sa_cons (se_frz (S.o h e1)) sa_nil he) g2 he hpl
          · cases k
        · cases k
      split at k
      · rename_i hx
        have ex := eq_of_beq hx
        subst ex
        split at k
        · rename_i hb
          obtain ⟨b1, b2⟩ := h.bl hb
          split at k
          · split at k
            · rename_i m1 t1 t2 h1 h2 h3
              cases k
              exact se_isa2 (x := "x") (y := "y") (p' := pos) h.md b1 b2 (S.p h h1) (ty_ok h h2) (ty_ok h h3) he (star_cons rfl) (star_cons (tyx_star h2)) (star_cons (tyx_star h3)) hpl
            · cases k
          · split at k
            · rename_i m1 t1 h1 h2
              cases k
              exact se_isa (x := "x") (y := "y") (p' := pos) h.md b1 b2 (S.p h h1) (ty_ok h h2) he (star_cons (tyx_star h2)) hpl
            · cases k
          · cases k
        · cases k
      · split at k
        · rename_i en hen
          split at k
          · rename_i hg
            obtain ⟨g1, g2⟩ := h.gl hg
            cases e1 : cVs n g (a :: es) with
            | none => rw [e1] at k; cases k
            | some ms =>
              rw [e1] at k
              cases k
              obtain ⟨kk, fa, fd, ps, G1, hr, hm, hk, hb, _⟩ := h.tab x en hen
              exact se_call h.tk G1 hr g1 hm hk hb (S.vs h e1) g2 he hpl
          · cases k
        · split at k
          · rename_i f hf
            obtain ⟨rfl, rfl, hl⟩ := isLenM_at hf
            split at k
            · rename_i hbi
              obtain ⟨b1, b2⟩ := h.bl hbi
              cases e1 : cP n g a with
              | none => rw [e1] at k; cases k
              | some mm =>
                rw [e1] at k
                cases k
                obtain ⟨kk, fa, fd, ps, pa, hp, G1, hr, hb⟩ := h.props _ f hl
                exact se_len (hp.isDun rfl) G1 hr hb b1 b2 (S.p h e1) he
            · cases k
          · split at k
            · rename_i b hb
              split at k
              · rename_i hbi
                split at k
                · rename_i d hd
                  obtain ⟨rfl, rfl, p3, pos3, rfl⟩ := isTupRange_at hd
                  split at k
                  · rename_i hc2
                    rw [Bool.and_eq_true] at hc2
                    obtain ⟨b1, b2⟩ := h.bl hbi
                    obtain ⟨b3, b4⟩ := h.bl hc2.2
                    cases e1 : cP n g d with
                    | none => rw [e1] at k; cases k
                    | some mm =>
                      rw [e1] at k
                      cases k
                      exact se_tupR h.calm b1 b2 b3 b4 (S.p h e1) (star_cons hc2.1)
                  · cases k
                · split at k
                  · rename_i u v hz
                    obtain ⟨rfl, rfl, p3, pos3, rfl⟩ := isListZip_at hz
                    split at k
                    · rename_i hc2
                      simp only [Bool.and_eq_true] at hc2
                      obtain ⟨b1, b2⟩ := h.bl hbi
                      obtain ⟨b3, b4⟩ := h.bl hc2.2
                      split at k
                      · rename_i mu mv e1
                        cases k
                        exact se_lzip h.calm b1 b2 b3 b4 (S.vs h e1) (star_cons hc2.1.1) (star_none (by simp [hc2.1.2]))
                      · cases k
                    · cases k
                  · split at k
                    · cases e1 : cPs n g (a :: es) with
                      | none => rw [e1] at k; cases k
                      | some ms =>
                        rw [e1] at k
                        cases k
                        have ex := bnOf_name hb
                        subst ex
                        obtain ⟨b1, b2⟩ := h.bl hbi
                        exact se_peek (se_bn b h.calm h.hu b1 b2 (S.ps h e1) he hpl)
                    · cases e1 : cPs n g (a :: es) with
                      | none => rw [e1] at k; cases k
                      | some ms =>
                        rw [e1] at k
                        cases k
                        have ex := bnOf_name hb
                        subst ex
                        obtain ⟨b1, b2⟩ := h.bl hbi
                        exact se_bn b h.calm h.hu b1 b2 (S.ps h e1) he hpl
              · cases k
            · cases k
    · cases k
  · -- l.index(x)
    split at k
    · rename_i hc
      simp only [Bool.and_eq_true] at hc
      split at k
      · rename_i l mm h1 h2
        cases k
        have B := few_args (X := X) (name := "index") hc.1.1 hc.1.2 hc.2
        exact se_index h.hu (S.p h h1) (se_frz (S.o h h2)) (star_cons hc.1.2) B.hab B.hfew B.hline
      · cases k
    · cases k
  · -- a.join(b)
    split at k
    · rename_i hc
      simp only [Bool.and_eq_true] at hc
      split at k
      · rename_i l mm h1 h2
        cases k
        exact se_join (S.p h h1) (S.p h h2) (star_cons hc.1.2) (plain_base hc.1.1) hc.2
      · cases k
    · cases k
  · -- a.split(b)
    split at k
    · rename_i hc
      simp only [Bool.and_eq_true] at hc
      split at k
      · rename_i l mm h1 h2
        cases k
        exact se_split (S.p h h1) (S.p h h2) (star_cons hc.1.2) (plain_base hc.1.1) hc.2
      · cases k
    · cases k
  · -- a field, a property
    rename_i o x p
    split at k
    · rename_i hpb
      split at k
      · rename_i hx
        have ex := eq_of_beq hx
        subst ex
        cases e1 : cP n g o with
        | none => rw [e1] at k; cases k
        | some mm => rw [e1] at k; cases k; exact se_rows h.md (S.p h e1) (plain_base hpb)
      · split at k
        · cases k
        · rename_i hdn
          have hdn : dun x = false := by simpa using hdn
          split at k
          · rename_i f hf
            cases e1 : cP n g o with
            | none => rw [e1] at k; cases k
            | some mm =>
              rw [e1] at k
              cases k
              obtain ⟨kk, fa, fd, ps, pa, hp, G1, hr, hb⟩ := h.props x f hf
              rw [prN_prop hdn] at G1
              exact se_prop h.md (hp.isProp hdn) G1 hr hb (S.p h e1) (plain_base hpb)
          · cases k
    · cases k
  · cases k
theorem sound : ∀ n, Sound n
  | 0 => by
    constructor
    all_goals (intros; rename_i k; first | (unfold cO at k; cases k) | (unfold cP at k; cases k) | (unfold cT at k; cases k) | (unfold cC at k; cases k) | (unfold cW at k; cases k) | (unfold cB at k; cases k) | (unfold cVs at k; cases k) | (unfold cPs at k; cases k) | (unfold cPo at k; cases k) | (unfold cIf at k; cases k) | (unfold cM at k; cases k) | (unfold cI at k; cases k))
  | n + 1 =>
    have S := sound n
    ⟨sound_o S, sound_p S, sound_t S, sound_c S, sound_w S, sound_b S, sound_vs S, sound_ps S, sound_po S, sound_if S, sound_m S, sound_i S⟩
end
end PV
set_option Elab.async false
set_option linter.all false
set_option maxRecDepth 100000
set_option maxHeartbeats 4000000
/-! PV21: statements are turned into combinators by a function; it is sound. -/
namespace PV
open PySem L2 PySem.Spec PyProof.Rows

/-! ### the text's form -/
theorem blockKind_fn {env : PySem.Env} (h : env.scope.kind = .function) : env.blockKind = .function := by
  unfold Env.blockKind; rw [h]; rfl
def swB (sc : Scope) (y : Str) (l1 l2 : Nat) (scope : Scope) : Bool := (sc.names.lookup y == some .local) && (l1 == l2) && !(scope.names.any fun (n, k) => n == y && (k == .local || k == .cell))
theorem sw_comp {elt : Expr} {gs : List Comprehension} {scope : Scope} {pos py : Pos} {y : Str} {l : Nat} {env : PySem.Env} (hk : env.scope.kind = .function) : swapsWith (.ListComp elt gs scope pos) (some (.Name y py)) l env = pure (swB env.scope y py.line pos.line scope) := by
  unfold swapsWith swB
  have hb := blockKind_fn hk
  simp only [hb, Expr.pos]
  show pure (_ && env.kindOf y == some NameKind.local && _ && _) = _
  have ek : env.kindOf y = env.scope.names.lookup y := rfl
  rw [ek]
  simp
theorem swp2 {env : PySem.Env} {x y : Str} {px py pt pt2 : Pos} {kt k2 : Nat} {a b : Expr} (hk : env.scope.kind = .function) (hx : env.scope.names.lookup x = some .local) (hy : env.scope.names.lookup y = some .local) (hl : (py.line == px.line) = true) (hxy : x ≠ y) (ha : noStar a = true) (hb : noStar b = true)
    (hf : ([a, b].all (foldedForSure 8)) = false) (hc : ([a, b].all (constantsAlone 8)) = false) : swappedStores [.Tuple [.Name x px, .Name y py] kt pt] (.Tuple [a, b] k2 pt2) env = pure (some [x, y]) := by
  have hb' := blockKind_fn hk
  have ex : env.kindOf x = some .local := hx
  have ey : env.kindOf y = some .local := hy
  have sa : (match a with | .Starred .. => true | _ => false) = false := by cases a <;> first | rfl | cases ha
  have sb : (match b with | .Starred .. => true | _ => false) = false := by cases b <;> first | rfl | cases hb
  have hl' := eq_of_beq hl
  unfold swappedStores
  simp [hb', ex, ey, hl', hxy, Ne.symm hxy, sa, sb, Expr.pos, List.eraseDups_cons]
  rw [if_neg, if_neg, if_neg]
  · rintro ⟨q1, q2⟩
    rw [List.all_cons, List.all_cons, q1, q2] at hc
    cases hc
  · rintro ⟨q1, q2⟩
    rw [List.all_cons, List.all_cons, q1, q2] at hf
    cases hf
  · rintro (q | q)
    · cases a <;> first | (cases ha; done) | (exact absurd q (by simp))
    · cases b <;> first | (cases hb; done) | (exact absurd q (by simp))
theorem swpN2 {env : PySem.Env} {x y : Str} {px py pt pt2 : Pos} {kt k2 : Nat} {a b : Expr} (hk : env.scope.kind = .function) (h : ((env.scope.names.lookup x == some .local) && (env.scope.names.lookup y == some .local)) = false) :
    swappedStores [.Tuple [.Name x px, .Name y py] kt pt] (.Tuple [a, b] k2 pt2) env = pure none := by
  have hb' := blockKind_fn hk
  unfold swappedStores
  by_cases ex : env.kindOf x = some .local
  · by_cases ey : env.kindOf y = some .local
    · have ex' : env.scope.names.lookup x = some .local := ex
      have ey' : env.scope.names.lookup y = some .local := ey
      rw [ex', ey'] at h
      exact absurd h (by decide)
    · simp [hb', ex, ey, Expr.pos]
  · by_cases ey : env.kindOf y = some .local
    · simp [hb', ex, ey, Expr.pos]
      split <;> simp
      exact fun _ hl => absurd hl (Nat.ne_of_lt (Nat.lt_of_le_of_lt (List.length_filterMap_le _ _) (by simp)))
    · simp [hb', ex, ey, Expr.pos]
theorem swp3 {env : PySem.Env} {x y z : Str} {px py pz pt pt2 : Pos} {kt k2 : Nat} {a b d : Expr} (hk : env.scope.kind = .function) (hx : env.scope.names.lookup x = some .local) (hy : env.scope.names.lookup y = some .local) (hz : env.scope.names.lookup z = some .local) (hl : (py.line == px.line) = true) (hl2 : (pz.line == px.line) = true) (hxy : x ≠ y) (hxz : x ≠ z) (hyz : y ≠ z) (ha : noStar a = true) (hb : noStar b = true) (hd : noStar d = true)
    (hf : ([a, b, d].all (foldedForSure 8)) = false) (hc : ([a, b, d].all (constantsAlone 8)) = false) : swappedStores [.Tuple [.Name x px, .Name y py, .Name z pz] kt pt] (.Tuple [a, b, d] k2 pt2) env = pure (some [x, y, z]) := by
  have hb' := blockKind_fn hk
  have ex : env.kindOf x = some .local := hx
  have ey : env.kindOf y = some .local := hy
  have ez : env.kindOf z = some .local := hz
  have hl' := eq_of_beq hl
  have hl2' := eq_of_beq hl2
  unfold swappedStores
  simp [hb', ex, ey, ez, hl', hl2', hxy, Ne.symm hxy, hxz, Ne.symm hxz, hyz, Ne.symm hyz, Expr.pos, List.eraseDups_cons]
  rw [if_neg, if_neg, if_neg]
  · rintro ⟨q1, q2, q3⟩
    rw [List.all_cons, List.all_cons, List.all_cons, q1, q2, q3] at hc
    cases hc
  · rintro ⟨q1, q2, q3⟩
    rw [List.all_cons, List.all_cons, List.all_cons, q1, q2, q3] at hf
    cases hf
  · rintro (q | q | q)
    · cases a <;> first | (cases ha; done) | (exact absurd q (by simp))
    · cases b <;> first | (cases hb; done) | (exact absurd q (by simp))
    · cases d <;> first | (cases hd; done) | (exact absurd q (by simp))
theorem swpN3 {env : PySem.Env} {x y z : Str} {px py pz pt pt2 : Pos} {kt k2 : Nat} {a b d : Expr} (hk : env.scope.kind = .function) (h : ((env.scope.names.lookup x == some .local) && (env.scope.names.lookup y == some .local) && (env.scope.names.lookup z == some .local)) = false) :
    swappedStores [.Tuple [.Name x px, .Name y py, .Name z pz] kt pt] (.Tuple [a, b, d] k2 pt2) env = pure none := by
  have hb' := blockKind_fn hk
  have hlen : ∀ (f : Expr → Option Str), (f (.Name x px) = none ∨ f (.Name y py) = none ∨ f (.Name z pz) = none) → (List.filterMap f [.Name x px, .Name y py, .Name z pz]).length ≠ 3 := by
    intro f hf
    cases e1 : f (.Name x px) <;> cases e2 : f (.Name y py) <;> cases e3 : f (.Name z pz) <;> simp [List.filterMap_cons, e1, e2, e3]
    rcases hf with q | q | q
    · rw [e1] at q; cases q
    · rw [e2] at q; cases q
    · rw [e3] at q; cases q
  have nk : ∀ w : Str, (env.scope.names.lookup w == some .local) = false → env.kindOf w ≠ some NameKind.local := fun w hw q => by
    have q' : env.scope.names.lookup w = some .local := q
    rw [q'] at hw
    exact absurd hw (by decide)
  rw [Bool.and_eq_false_iff, Bool.and_eq_false_iff] at h
  unfold swappedStores
  simp [hb']
  intro _ _ _ hl
  exfalso
  refine hlen _ ?_ hl
  rcases h with (h | h) | h
  · left
    exact if_neg fun q => nk x h q.1
  · right; left
    exact if_neg fun q => nk y h q.1
  · right; right
    exact if_neg fun q => nk z h q.1
theorem swpF2 {env : PySem.Env} {x y : Str} {px py pt pt2 : Pos} {kt k2 : Nat} {a b : Expr} (hk : env.scope.kind = .function) (hf : ([a, b].all (foldedForSure 8)) = true) :
    swappedStores [.Tuple [.Name x px, .Name y py] kt pt] (.Tuple [a, b] k2 pt2) env = pure none := by
  have hb' := blockKind_fn hk
  rw [List.all_cons, List.all_cons, Bool.and_eq_true, Bool.and_eq_true] at hf
  unfold swappedStores
  simp [hb', hf.1, hf.2.1]
/-- a tuple that is put together is not swapped -/
theorem swp_no {tg e : Expr} {env : PySem.Env} (h : (match e with | .Tuple _ _ _ => false | _ => true) = true) : swappedStores [tg] e env = pure none := by
  cases e <;> first | (cases h; done) | (cases tg <;> rfl)
theorem swp_sub {a b e : Expr} {p : Pos} {env : PySem.Env} : swappedStores [.Subscript a b p] e env = pure none := rfl

/-! ### the function -/
def sNever : S := fun _ _ => .stuck
theorem ss_never {X : Cx} {c : Cn} {W : WX} {st : Stmt} : SS X c W st sNever := fun F0 H0 Fb => psImp ps_never fun D σ H ⟨F, T, e, g, R, O, p⟩ => p
def isConstTup : Expr → Bool
  | .Tuple _ _ _ => true
  | _ => false
def lcParts : Expr → Option (Expr × Expr × Expr × List Expr × Scope × Pos)
  | .ListComp elt [⟨tg, iter, ifs, 0⟩] scope p => some (elt, tg, iter, ifs, scope, p)
  | _ => none
def cR (n : Nat) (g : G) : Expr → Option (M SV)
  | .Name x p => match g.slot x with
    | some i => some (mVarR i)
    | none => cO n g (.Name x p)
  | e => cO n g e
def nmLoc (g : G) (x : Str) : Option Nat := if g.loc x then g.slot x else none
def loc2 (g : G) (x : Str) : Option Nat := if g.sc.names.lookup x == some .local then g.slot x else none
end PV
set_option Elab.async false
set_option linter.all false
set_option maxRecDepth 100000
set_option maxHeartbeats 4000000
/-! PVX2: try: body, except C as n: f = value. -/
namespace PV
open PySem L2 PySem.Spec PyProof.Rows

/-- what stands behind the = in a clause for the error x, by its class -/
def evalH : Nat → G → Str → Exn → Expr → Option D
  | 0, _, _, _, _ => none
  | k + 1, g, n, x, e => match e with
    | .Constant .none _ _ => some .non
    | .Constant (.str s) _ _ => some (.str s)
    | .Constant (.bool b) _ _ => some (.bl b)
    | .Tuple [] _ _ => some (.tup [])
    | .IfExp (.Call (.Name "isinstance" p) [.Name y p1, .Name z p2] [] pos) a b _ => if decide (y = n) && g.bi "isinstance" && g.gl z && g.cls.elem z && decide (z ≠ "Model") then (match evalH k g n x a, evalH k g n x b with
      | some da, some db => some (if subX x.c z then da else db)
      | _, _ => none) else none
    | .Call (.Name "isinstance" p) [.Name y p1, .Name z p2] [] pos => if decide (y = n) && g.bi "isinstance" && g.gl z && g.cls.elem z && decide (z ≠ "Model") then some (.bl (subX x.c z)) else none
    | _ => none
def tH (c : Cn) (i : Nat) (a : Addr) (d : D) : TE := fun σ H Q => σ[i]? = some (some (.ref a)) ∧ ∃ F T e g, Rel c F T e g σ H ∧ ∀ F' T' H' v, Rel c F' T' e g σ H' → Ext c F T H F' T' H' → Rep c F' v d → Q v H'
section
variable {X : Cx} {c : Cn} {W : WX} {g : G} {n : Str} {i : Nat} {x : Exn} {D0 a : Addr} {oe : Obj} {pn : List (Addr × Obj)}
theorem th_of {e : Expr} {m : M SV} {d : D} (h : PE X e (tO c W m)) (hm : ∀ e g, m e g = .ok (.dat d) e g) : PE X e (tH c i a d) := peImp h fun σ H Q ⟨_, F, T, e, g, R, k⟩ => by
  refine ⟨F, T, e, g, R, ?_⟩
  rw [hm]
  exact fun F' T' H' R' x' v o => k F' T' H' v R' x' o
theorem isx_ok (h : GX X c W g) (hn : g.slot n = some i) (hX : XC X.K x.c D0) (two : ∀ z E, g.cls.elem z = true → z ≠ "Model" → c.fa z = some E → PySem.W.kitOne X.K (.ref D0) (.ref E) = some (subX x.c z)) (hz : Zc (.ref D0) none oe) (hf : ∃ vs, oe.data = .fields vs)
    {z : Str} {p p1 p2 pos : Pos} (hb : g.bi "isinstance" = true) (hg : g.gl z = true) (hc : g.cls.elem z = true) (hM : z ≠ "Model") :
    PE (X.suite a ((a, oe) :: pn)) (.Call (.Name "isinstance" p) [.Name n p1, .Name z p2] [] pos) (fun σ H Q => σ[i]? = some (some (.ref a)) ∧ Q (.bl (subX x.c z)) H) := by
  obtain ⟨b1, b2⟩ := h.bl hb
  obtain ⟨g1, g2⟩ := h.gl hg
  obtain ⟨_, E, m1, m2, _⟩ := h.xcs.at_ z hc hM
  have nm := h.nm hn
  have v1 : PE (X.suite a ((a, oe) :: pn)) (.Name n p1) (tVar i) := pe_var nm.hN nm.hv nm.hd nm.hcd
  have v2 : PE (X.suite a ((a, oe) :: pn)) (.Name z p2) (tC (.ref E)) := pe_glob g1 m1 rfl g2
  exact peImp (pe_callB (call_isE hX.is hz hf) b1 b2 (by decide +kernel) (pa_cons v1 (pa_cons v2 pa_nil (star_cons rfl)) (star_cons rfl)) (by decide) (by decide) (star_cons rfl) (star_none rfl)) fun σ H Q ⟨k1, k2⟩ =>
    ⟨.ref a, k1, .ref E, .ref E, subX x.c z, rfl, fun u r => r, two z E hc hM m2, k2⟩
theorem hx_ok (h : GX X c W g) (hn : g.slot n = some i) (hX : XC X.K x.c D0) (two : ∀ z E, g.cls.elem z = true → z ≠ "Model" → c.fa z = some E → PySem.W.kitOne X.K (.ref D0) (.ref E) = some (subX x.c z)) (hz : Zc (.ref D0) none oe) (hf : ∃ vs, oe.data = .fields vs) :
    ∀ (k : Nat) {e : Expr} {d : D}, evalH k g n x e = some d → PE (X.suite a ((a, oe) :: pn)) e (tH c i a d)
  | 0, e, d, q => by cases q
  | k + 1, e, d, q => by
    unfold evalH at q
    split at q
    · cases q; exact th_of (W := noW) se_non (fun _ _ => rfl)
    · cases q; exact th_of (W := noW) se_str (fun _ _ => rfl)
    · cases q; exact th_of (W := noW) se_bl (fun _ _ => rfl)
    · cases q; exact th_of (W := noW) (m := mTup []) (se_tup sa_nil) (fun _ _ => rfl)
    · split at q
      · rename_i hc
        simp only [Bool.and_eq_true, decide_eq_true_eq] at hc
        obtain ⟨⟨⟨⟨c1, c2⟩, c3⟩, c4⟩, c5⟩ := hc
        have c1 := c1.symm
        subst c1
        split at q
        · rename_i da db ha hb
          cases q
          rename_i zz _ _ _ _ _ _ _
          refine peImp (pe_ifExp (pt_val (isx_ok h hn hX two hz hf c2 c3 c4 c5) (plain_test rfl)) (hx_ok h hn hX two hz hf k ha) (hx_ok h hn hX two hz hf k hb)) fun σ H Q ⟨k1, k2⟩ => ⟨k1, _, rfl, ?_⟩
          by_cases hs : subX x.c zz = true
          · rw [if_pos hs] at k2
            rw [if_pos hs]
            exact ⟨k1, k2⟩
          · rw [if_neg hs] at k2
            rw [if_neg hs]
            exact ⟨k1, k2⟩
        · cases q
      · cases q
    · split at q
      · rename_i hc
        simp only [Bool.and_eq_true, decide_eq_true_eq] at hc
        obtain ⟨⟨⟨⟨c1, c2⟩, c3⟩, c4⟩, c5⟩ := hc
        have c1 := c1.symm
        subst c1
        cases q
        exact peImp (isx_ok h hn hX two hz hf c2 c3 c4 c5) fun σ H Q ⟨k1, F, T, e, g, R, k2⟩ => ⟨k1, k2 F T H _ R .refl (.bl _)⟩
      · cases q
    · cases q
end
theorem evalH_same (g : G) (n : Str) (x y : Exn) : ∀ (k : Nat) (e : Expr), (evalH k g n x e).isSome = (evalH k g n y e).isSome
  | 0, _ => rfl
  | k + 1, e => by
    unfold evalH
    split
    · rfl
    · rfl
    · rfl
    · rfl
    · rename_i a b _ 
      split
      · have h1 := evalH_same g n x y k a
        have h2 := evalH_same g n x y k b
        cases q1 : evalH k g n x a <;> cases q2 : evalH k g n y a <;> cases q3 : evalH k g n x b <;> cases q4 : evalH k g n y b <;> rw [q1, q2] at h1 <;> rw [q3, q4] at h2 <;> first | rfl | (simp at h1; done) | (simp at h2; done)
      · rfl
    · split <;> rfl
    · rfl
theorem evalH_some {g : G} {n : Str} {x : Exn} {k : Nat} {e : Expr} (h : (evalH k g n x e).isSome = true) (y : Exn) : ∃ d, evalH k g n y e = some d := by
  rw [evalH_same g n x y k e] at h
  exact Option.isSome_iff_exists.mp h
/-- try: b, except C as (i): (j) = val -/
def sTry1 (b : S) (cls : List Str) (C : Str) (i j : Nat) (val : Exn → Option D) : S := fun e g => match b e g with
  | .exc x e1 g1 => if x.fs.isEmpty && cls.elem x.c && decide (x.c ≠ "Model") then (if subX x.c C then (match val x with
    | some d => if j < e1.length ∧ i < e1.length then .ok none ((e1.set j (some (.dat d))).set i none) g1 else .stuck
    | none => .stuck) else .exc x e1 g1) else .stuck
  | r => r
/-- where a try may stand -/
structure FX (X : Cx) : Prop where
  st : X.stack = X.env :: X.outer
  fr : X.env.frame = some X.env.locals
theorem GX.tr {X : Cx} {c : Cn} {W W' : WX} {g : G} (h : GX X c W g) {pn : List (Addr × Obj)} {xe : Value → Shared → Prop} (tk : Takes (X.tr pn xe) W') : GX (X.tr pn xe) c W' g where
  hN := h.hN
  nd := h.nd
  sc := h.sc
  kind := h.kind
  calm := h.calm
  hu := h.hu
  tk := tk
  md := h.md
  bi := h.bi
  nums := h.nums
  tab := h.tab
  props := h.props
  cls := h.cls
  xcs := h.xcs
  maker := h.maker
  cells := h.cells
  xfd := fun a x fl b d e => ⟨(h.xfd a x fl b d e).at_⟩
section
variable {X : Cx} {c : Cn} {W : WX} {g : G}
theorem ss_try1 (h : GX X c W g) (fx : FX X) {body : List Stmt} {mb : S} {C n f : Str} {i j k : Nat} {ev : Expr} {val : Exn → Option D} {np pf pa pos pos' : Pos}
    (hb : ∀ (W' : WX) (pn : List (Addr × Obj)) (xe : Value → Shared → Prop), GX (X.tr pn xe) c W' g → PassesOwn (model X.prog X.w) X.A X.env xe → SSs (X.tr pn xe) c W' body mb)
    (hn : g.slot n = some i) (hnl : X.env.kindOf n = some .local) (hC : g.gl C = true) (hCc : g.cls.elem C = true) (hCM : C ≠ "Model") (hf : g.slot f = some j) (hfl : L2.Loc X.env.scope f) (hff : X.fn f = true ∨ X.env.scope.names.lookup f = some .local) (hij : i ≠ j) (hnc : noComp ev = true)
    (hv : ∀ x, val x = evalH k g n x ev) (hvx : ∀ x, ∃ d, evalH k g n x ev = some d) :
    SS X c W (.Try body [.ExceptHandler (some (.Name C np)) (some n) [.Assign [.Name f pf] ev pa] pos'] [] [] pos) (sTry1 mb g.cls C i j val) := fun F0 H0 Fb => by
  have nd : X.N.Nodup := by rw [h.hN]; exact h.nd
  obtain ⟨c1, c2⟩ := h.gl hC
  obtain ⟨_, CA, m1, m2, cx⟩ := h.xcs.at_ C hCc hCM
  have hi := (h.nm hn).hN
  have hj := (h.nm hf).hN
  refine psImp (ps_try_as (ts := fun a cls d D σ H => ∃ (x : Exn) (D0 : Addr) (dv : PV.D), cls = .ref D0 ∧ d = none ∧ XC X.K x.c D0 ∧ (∀ z E, g.cls.elem z = true → z ≠ "Model" → c.fa z = some E → PySem.W.kitOne X.K (.ref D0) (.ref E) = some (subX x.c z)) ∧ evalH k g n x ev = some dv ∧ tH c i a dv σ H (fun v H1 => D.nx (σ.set j (some v)) H1))
    (tb := fun W' => tS c W' F0 H0 Fb mb) fx.st fx.fr nd hi hnl ⟨c1, c2, .inl m1⟩ h.tk (fun W' pn xe tk' hp => hb W' pn xe (h.tr tk') hp F0 H0 Fb)
    (fun a oe cls d pn hz hfl2 => ⟨fun pins s σ H D I ⟨x, D0, dv, q1, q2, q3, q4, q5, q6⟩ => ?_⟩)) fun D σ H ⟨F, T, e, gg, R, O, p⟩ => ?_
  · subst q1
    subst q2
    exact (pss_one (ps_set (X := X.suite a ((a, oe) :: pn)) nd hj hfl (hx_ok h hn q3 q4 hz hfl2 k q5) (no_comp hnc) hff)).run pins s σ H D I q6
  · refine ⟨F, T, e, gg, R, O, ?_⟩
    unfold sTry1 at p
    cases q : mb e gg with
    | stuck => rw [q] at p; exact p
    | ok r e1 g1 =>
      rw [q] at p
      cases r <;> exact p
    | exc x e1 g1 =>
      rw [q] at p
      dsimp only at p
      intro cls d σ1 F1 T1 H1 R1 O1 xr
      split at p
      · rename_i hcnd
        simp only [Bool.and_eq_true, decide_eq_true_eq, List.isEmpty_iff] at hcnd
        obtain ⟨⟨k1, k2⟩, k3⟩ := hcnd
        have xr0 := xr
        obtain ⟨D0, d1, rfl, d3⟩ := xr
        have hd : d = none := by
          rcases d3 with z | z
          · exact z.2
          · exact absurd k1 z.1
        subst hd
        obtain ⟨_, D1, _, d4, cx1⟩ := h.xcs.at_ x.c k2 k3
        rw [d1] at d4
        cases d4
        refine ⟨subX x.c C, h.xcs.exm k2 k3 hCc hCM d1 m2, fun hs a ha => ?_, fun hs => ?_⟩
        · rw [if_pos hs, hv] at p
          obtain ⟨dv, hdv⟩ := hvx x
          rw [hdv] at p
          dsimp only at p
          split at p
          · rename_i hl
            have hil : i < σ1.length := by rw [← R1.len]; exact hl.2
            refine ⟨x, D0, dv, rfl, rfl, cx1, fun z E hz nz e2 => (h.xcs.two x.c z D0 E k2 k3 hz nz d1 e2).2, hdv, List.getElem?_set_self hil, F1, T1, e1.set i none, g1, ?_, fun F' T' H' v R' x' r' => ?_⟩
            · refine R1.env (by simp [R1.len]) fun m sv hm => ?_
              by_cases hmi : m = i
              · subst hmi
                rw [List.getElem?_set_self hl.2] at hm
                cases hm
              · rw [List.getElem?_set_ne (Ne.symm hmi)] at hm
                obtain ⟨w, w1, w2⟩ := R1.slot m sv hm
                exact ⟨w, by rw [List.getElem?_set_ne (Ne.symm hmi)]; exact w1, w2⟩
            · have R2 := R'.setDat j r'
              have ee : (e1.set j (some (.dat dv))).set i none = (((e1.set i none).set j (some (.dat dv))).set i none) := by
                rw [List.set_comm (none : Option SV) (some (SV.dat dv)) hij, List.set_set]
              rw [ee] at p
              refine p _ F' T' H' ?_ (O1.ext x')
              refine R2.env (by simp [R1.len]) fun m sv hm => ?_
              by_cases hmi : m = i
              · subst hmi
                rw [List.getElem?_set_self (by simpa using hl.2)] at hm
                cases hm
              · rw [List.getElem?_set_ne (Ne.symm hmi)] at hm
                obtain ⟨w, w1, w2⟩ := R2.slot m sv hm
                exact ⟨w, by rw [List.getElem?_set_ne (Ne.symm hmi)]; exact w1, w2⟩
          · exact (show False from p).elim
        · rw [if_neg (by rw [hs]; decide)] at p
          exact p _ none σ1 F1 T1 H1 R1 O1 xr0
      · exact (show False from p).elim
end
end PV
set_option Elab.async false
set_option linter.all false
set_option maxRecDepth 100000
set_option maxHeartbeats 4000000
/-! PVE3: clauses except C as n: f = value, the value with fields of the error. -/
namespace PV
open PySem L2 PySem.Spec PyProof.Rows

/-- what is known of names within a clause -/
abbrev Kn := List (Nat × D)
mutual
/-- what stands behind the = in a clause for the error x -/
def evalX : Nat → G → Str → Exn → Kn → Expr → Option D
  | 0, _, _, _, _, _ => none
  | k + 1, g, n, x, kn, e => match e with
    | .Constant .none _ _ => some .non
    | .Constant (.str s) _ _ => some (.str s)
    | .Constant (.bool b) _ _ => some (.bl b)
    | .Tuple es _ _ => if es.length ≤ 1000 then (evalXs k g n x kn es).map .tup else none
    | .List es _ => if es.length ≤ 1000 then (evalXs k g n x kn es).map .lst else none
    | .BinOp (.Name y _) .Add (.List es _) _ => match g.slot y with
      | some j => match kn.lookup j with
        | some (.lst xs) => if xs.length + es.length ≤ 1000 then (evalXs k g n x kn es).map fun ys => .lst (xs ++ ys) else none
        | _ => none
      | none => none
    | .Attribute (.Name y p1) f pos => if decide (y = n) && flds.elem f then x.fs.lookup f else none
    | .IfExp (.Call (.Name "isinstance" p) [.Name y p1, .Name z p2] [] pos) a b _ => if decide (y = n) && g.bi "isinstance" && g.gl z && g.cls.elem z && decide (z ≠ "Model") then (if subX x.c z then evalX k g n x kn a else evalX k g n x kn b) else none
    | .Call (.Name "isinstance" p) [.Name y p1, .Name z p2] [] pos => if decide (y = n) && g.bi "isinstance" && g.gl z && g.cls.elem z && decide (z ≠ "Model") then some (.bl (subX x.c z)) else none
    | _ => none
def evalXs : Nat → G → Str → Exn → Kn → List Expr → Option (List D)
  | 0, _, _, _, _, _ => none
  | k + 1, g, n, x, kn, es => match es with
    | [] => some []
    | e :: es => if noStar e then (evalX k g n x kn e).bind fun d => (evalXs k g n x kn es).map fun ds => d :: ds else none
end
/-- the error's fields in the heap -/
def XR0 (c : Cn) (F H : Hp) (x : Exn) (dx : Option Addr) : Prop :=
  (x.fs = [] ∧ dx = none) ∨ ∃ dd fs, dx = some dd ∧ H dd = some (.xd fs) ∧ fs.map (·.1) = x.fs.map (·.1) ∧ Reps c F (fs.map (·.2)) (x.fs.map (·.2))
/-- what is known of names stands -/
def KnOk (kn : Kn) (e : Env) : Prop := ∀ j d, kn.lookup j = some d → e[j]? = some (some (.dat d))
def tHx (c : Cn) (i : Nat) (a : Addr) (x : Exn) (dx : Option Addr) (kn : Kn) (d : D) : TE := fun σ H Q => σ[i]? = some (some (.ref a)) ∧ ∃ F T e g, Rel c F T e g σ H ∧ XR0 c F H x dx ∧ KnOk kn e ∧ ∀ F' T' H' v, Rel c F' T' e g σ H' → Ext c F T H F' T' H' → Rep c F' v d → Q v H'
def tHxs (c : Cn) (i : Nat) (a : Addr) (x : Exn) (dx : Option Addr) (kn : Kn) (ds : List D) : TA := fun σ H Q => σ[i]? = some (some (.ref a)) ∧ ∃ F T e g, Rel c F T e g σ H ∧ XR0 c F H x dx ∧ KnOk kn e ∧ ∀ F' T' H' vs, Rel c F' T' e g σ H' → Ext c F T H F' T' H' → Reps c F' vs ds → Q vs H'
theorem XRep.xr0 {c : Cn} {F H : Hp} {x : Exn} {cls : Value} {dx : Option Addr} (h : XRep c F H x cls dx) : XR0 c F H x dx := by
  obtain ⟨f, _, _, h | ⟨_, dd, fs, h1, h2, _, h3, h4⟩⟩ := h
  · exact .inl h
  · exact .inr ⟨dd, fs, h1, h2, h3, h4⟩
theorem XR0.ext {c : Cn} {F F' H H' : Hp} {T T' : Tm} {e : Env} {g : Rng} {σ : L2.St} {x : Exn} {dx : Option Addr} (h : XR0 c F H x dx) (R : Rel c F T e g σ H) (X : Ext c F T H F' T' H') : XR0 c F' H' x dx := by
  rcases h with h | ⟨dd, fs, h1, h2, h3, h4⟩
  · exact .inl h
  · have nL : dd ≠ c.L := by rintro rfl; rw [R.base.hL] at h2; cases h2
    have nC : dd ≠ c.C := by rintro rfl; rw [R.base.hC] at h2; cases h2
    exact .inr ⟨dd, fs, h1, X.h dd _ nL nC h2, h3, h4.mono X.f⟩
theorem lookup_reps {c : Cn} {F : Hp} {f : Str} {d : D} : ∀ {ys : List (Str × D)} {fs : List (Str × V)}, fs.map (·.1) = ys.map (·.1) → Reps c F (fs.map (·.2)) (ys.map (·.2)) → ys.lookup f = some d → ∃ v, fs.lookup f = some v ∧ Rep c F v d
  | [], [], _, _, h => by cases h
  | [], _ :: _, e, _, _ => by simp at e
  | _ :: _, [], e, _, _ => by simp at e
  | (k, y) :: ys, (k', v) :: fs, e, r, h => by
    simp only [List.map_cons, List.cons.injEq] at e
    obtain ⟨e1, e2⟩ := e
    have e1 : k' = k := e1
    subst e1
    cases r with
    | cons r1 r2 =>
      rw [List.lookup_cons] at h ⊢
      cases hb : f == k' with
      | true =>
        rw [hb] at h
        cases h
        exact ⟨v, rfl, r1⟩
      | false =>
        rw [hb] at h
        exact lookup_reps e2 r2 h
theorem XR0.dxs {c : Cn} {F H : Hp} {x : Exn} {dx : Option Addr} (h : XR0 c F H x dx) : dx = none ∨ ∃ dd fs, dx = some dd ∧ H dd = some (.xd fs) := by
  rcases h with h | ⟨dd, fs, h1, h2, _⟩
  · exact .inl h.2
  · exact .inr ⟨dd, fs, h1, h2⟩
/-- isinstance of an error that is held, whatever its fields are -/
theorem call_isX {X : Cx} {a D0 : Addr} {oe : Obj} {pn : List (Addr × Obj)} {dx : Option Addr} (C : ExcC X.K D0) (hz : Zc (.ref D0) dx oe) (hf : ∃ vs, oe.data = .fields vs) :
    CallR (X.suite a ((a, oe) :: pn)) (.builtin "isinstance") (fun xs H Q => (dx = none ∨ ∃ dd fs, dx = some dd ∧ H dd = some (.xd fs)) ∧ rIsE X.K D0 a xs H Q) := by
  intro pins s σ H xs us Q I r h
  obtain ⟨hd, cc, cv, b, rfl, hcv, e, q⟩ := h
  cases r with
  | cons rx rr =>
    cases rr with
    | cons rt rr =>
      cases rr
      cases rx
      have ec := hcv _ rt
      subst ec
      obtain ⟨hget, _⟩ := I.pin (a, oe) (List.mem_append.mpr (.inl List.mem_cons_self))
      obtain ⟨vs, hv⟩ := hf
      have hcl : (PySem.W.clsIn X.K D0).isSome = true := by
        obtain ⟨cd, hc, _⟩ := PySem.W.any_some C.hd
        rw [hc]; rfl
      obtain ⟨od, J⟩ : ∃ od, PySem.W.InstAt s.heap a oe D0 od := by
        obtain ⟨oc, odd, oda, osl⟩ := oe
        obtain ⟨h1, h2⟩ := hz
        dsimp only at h1 h2 hv
        subst h1 h2 hv
        rcases hd with rfl | ⟨dd, fs, rfl, hh⟩
        · exact ⟨none, hget, rfl, rfl, trivial⟩
        · obtain ⟨mA, hns, _⟩ := (show ObjOk X.prog X.w H s.heap dd (.xd fs) from I.hok dd _ hh)
          obtain ⟨od, ho, _⟩ := lookIn_ns hns
          exact ⟨some od, hget, rfl, rfl, ho⟩
      exact PySem.W.kia_one (PySem.W.kitx_exc hcl C.hg C.hk C.hs C.ha C.hn C.ht C.hm) I.kIn J e (fun z => nomatch z) fun tk => ⟨.bl b, H, I.kept (t' := tk) fun _ _ z => z, rfl, q⟩
theorem evalXs_len {g : G} {n : Str} {x : Exn} {kn : Kn} : ∀ {k : Nat} {es : List Expr} {ds : List D}, evalXs k g n x kn es = some ds → ds.length = es.length
  | 0, _, _, q => by unfold evalXs at q; cases q
  | k + 1, es, ds, q => by
    unfold evalXs at q
    split at q
    · cases q; rfl
    · split at q
      · obtain ⟨d, h1, q⟩ := Option.bind_eq_some_iff.mp q
        obtain ⟨ds', h2, q⟩ := Option.map_eq_some_iff.mp q
        subst q
        simp [evalXs_len h2]
      · cases q
theorem evalXs_size {g : G} {n : Str} {x : Exn} {kn : Kn} {k : Nat} {es : List Expr} {ds : List D} (h : evalXs k g n x kn es = some ds) (hl : es.length ≤ 1000) : ds.length ≤ line := by
  rw [evalXs_len h]
  exact Nat.le_trans hl (by decide)
section
variable {X : Cx} {c : Cn} {W : WX} {g : G} {n : Str} {i : Nat} {x : Exn} {D0 a : Addr} {oe : Obj} {pn : List (Addr × Obj)} {dx : Option Addr}
theorem thx_of {e : Expr} {d : D} {kn : Kn} (h : PE X e (tH c i a d)) : PE X e (tHx c i a x dx kn d) := peImp h fun σ H Q ⟨k1, F, T, e, g, R, _, _, k⟩ => ⟨k1, F, T, e, g, R, k⟩
theorem isx_okX (h : GX X c W g) (hn : g.slot n = some i) (hX : XC X.K x.c D0) (two : ∀ z E, g.cls.elem z = true → z ≠ "Model" → c.fa z = some E → PySem.W.kitOne X.K (.ref D0) (.ref E) = some (subX x.c z)) (hz : Zc (.ref D0) dx oe) (hf : ∃ vs, oe.data = .fields vs)
    {z : Str} {p p1 p2 pos : Pos} (hb : g.bi "isinstance" = true) (hg : g.gl z = true) (hc : g.cls.elem z = true) (hM : z ≠ "Model") :
    PE (X.suite a ((a, oe) :: pn)) (.Call (.Name "isinstance" p) [.Name n p1, .Name z p2] [] pos) (fun σ H Q => (σ[i]? = some (some (.ref a)) ∧ (dx = none ∨ ∃ dd fs, dx = some dd ∧ H dd = some (.xd fs))) ∧ Q (.bl (subX x.c z)) H) := by
  obtain ⟨b1, b2⟩ := h.bl hb
  obtain ⟨g1, g2⟩ := h.gl hg
  obtain ⟨_, E, m1, m2, _⟩ := h.xcs.at_ z hc hM
  have nm := h.nm hn
  have v1 : PE (X.suite a ((a, oe) :: pn)) (.Name n p1) (tVar i) := pe_var nm.hN nm.hv nm.hd nm.hcd
  have v2 : PE (X.suite a ((a, oe) :: pn)) (.Name z p2) (tC (.ref E)) := pe_glob g1 m1 rfl g2
  exact peImp (pe_callB (call_isX hX.is hz hf) b1 b2 (by decide +kernel) (pa_cons v1 (pa_cons v2 pa_nil (star_cons rfl)) (star_cons rfl)) (by decide) (by decide) (star_cons rfl) (star_none rfl)) fun σ H Q ⟨⟨k1, k0⟩, k2⟩ =>
    ⟨.ref a, k1, k0, .ref E, .ref E, subX x.c z, rfl, fun u r => r, two z E hc hM m2, k2⟩
mutual
theorem hxx_ok (h : GX X c W g) (hn : g.slot n = some i) (hX : XC X.K x.c D0) (two : ∀ z E, g.cls.elem z = true → z ≠ "Model" → c.fa z = some E → PySem.W.kitOne X.K (.ref D0) (.ref E) = some (subX x.c z)) (hz : Zc (.ref D0) dx oe) (hf : ∃ vs, oe.data = .fields vs) :
    ∀ (k : Nat) {e : Expr} {d : D} {kn : Kn}, evalX k g n x kn e = some d → PE (X.suite a ((a, oe) :: pn)) e (tHx c i a x dx kn d)
  | 0, e, d, kn, q => by unfold evalX at q; cases q
  | k + 1, e, d, kn, q => by
    unfold evalX at q
    split at q
    · cases q; exact thx_of (th_of (W := noW) se_non (fun _ _ => rfl))
    · cases q; exact thx_of (th_of (W := noW) se_str (fun _ _ => rfl))
    · cases q; exact thx_of (th_of (W := noW) se_bl (fun _ _ => rfl))
    · rename_i es _ _
      split at q
      · rename_i hlen
        obtain ⟨ds, hs, q⟩ := Option.map_eq_some_iff.mp q
        subst q
        refine peImp (pe_tup (hxs_ok h hn hX two hz hf k hs)) fun σ H Q ⟨k1, F, T, e, gg, R, xr, kk, k2⟩ => ⟨k1, F, T, e, gg, R, xr, kk, fun F1 T1 H1 vs R1 x1 r1 => ⟨by rw [r1.length]; exact line_size (evalXs_size hs hlen), fun p hp => ?_⟩⟩
        exact k2 _ T1 _ _ (R1.put hp) (x1.trans (.put (R1.base.free hp) hp)) (.tup upd_same (r1.mono (Sub.new (R1.base.free hp))))
      · cases q
    · rename_i es _
      split at q
      · rename_i hlen
        obtain ⟨ds, hs, q⟩ := Option.map_eq_some_iff.mp q
        subst q
        refine peImp (pe_lst (hxs_ok h hn hX two hz hf k hs)) fun σ H Q ⟨k1, F, T, e, gg, R, xr, kk, k2⟩ => ⟨k1, F, T, e, gg, R, xr, kk, fun F1 T1 H1 vs R1 x1 r1 => ⟨by rw [r1.length]; exact line_size (evalXs_size hs hlen), fun p hp => ?_⟩⟩
        exact k2 _ T1 _ _ (R1.put hp) (x1.trans (.put (R1.base.free hp) hp)) (.lst upd_same (r1.mono (Sub.new (R1.base.free hp))))
      · cases q
    · rename_i y p1 es lp pos
      split at q
      · rename_i j hj
        split at q
        · rename_i xs hxs
          split at q
          · rename_i hlen
            obtain ⟨ys, hys, q⟩ := Option.map_eq_some_iff.mp q
            subst q
            have nm := h.nm hj
            have v1 : PE (X.suite a ((a, oe) :: pn)) (.Name y p1) (tVar j) := pe_var nm.hN nm.hv nm.hd nm.hcd
            have l1 := pe_lst (pos := lp) (hxs_ok h hn hX two hz hf k hys)
            refine peImp (pe_op op_cat v1 l1) fun σ H Q ⟨k1, F, T, e, gg, R, xr, kk, k2⟩ => ?_
            obtain ⟨v, w1, w2⟩ := R.slot j _ (kk j _ hxs)
            have w2 : Rep c F v (.lst xs) := w2
            cases w2 with
            | lst z1 z2 =>
              refine ⟨_, w1, k1, F, T, e, gg, R, xr, kk, fun F1 T1 H1 vs R1 x1 r1 => ⟨by rw [r1.length]; exact line_size (evalXs_size hys (Nat.le_trans (Nat.le_add_left _ _) hlen)), fun p hp => ?_⟩⟩
              have R2 := R1.put (o := .lst vs) hp
              have x2 := x1.trans (.put (o := .lst vs) (R1.base.free hp) hp)
              have hb := R1.base.free hp
              refine ⟨_, _, _, _, rfl, rfl, R2.base.sub _ _ (x2.f _ _ z1), upd_same, by rw [z2.length, r1.length, evalXs_len hys]; exact line_size (Nat.le_trans hlen (by decide)), fun p2 hp2 => ?_⟩
              refine k2 _ T1 _ _ (R2.put hp2) (x2.trans (.put (R2.base.free hp2) hp2)) (.lst upd_same ?_)
              exact ((z2.mono x2.f).append (r1.mono (Sub.new hb))).mono (Sub.new (R2.base.free hp2))
          · cases q
        · cases q
      · cases q
    · split at q
      · rename_i y p1 f pos hc
        simp only [Bool.and_eq_true, decide_eq_true_eq] at hc
        obtain ⟨c1, c2⟩ := hc
        subst c1
        have nm := h.nm hn
        have v1 : PE (X.suite a ((a, oe) :: pn)) (.Name y p1) (tVar i) := pe_var nm.hN nm.hv nm.hd nm.hcd
        refine peImp (pe_xf ⟨hX.is.hg, hX.is.hk, hX.is.hs, hX.is.hd⟩ (hX.nf f c2) hz hf v1 rfl) fun σ H Q ⟨k1, F, T, e, gg, R, xr, kk, k2⟩ => ?_
        rcases xr with ⟨z1, _⟩ | ⟨dd, fs, z1, z2, z3, z4⟩
        · rw [z1] at q; cases q
        · obtain ⟨v, l1, l2⟩ := lookup_reps z3 z4 q
          exact ⟨.ref a, k1, rfl, rfl, dd, fs, v, z1, z2, l1, k2 F T H v R .refl l2⟩
      · cases q
    · split at q
      · rename_i hc
        simp only [Bool.and_eq_true, decide_eq_true_eq] at hc
        obtain ⟨⟨⟨⟨c1, c2⟩, c3⟩, c4⟩, c5⟩ := hc
        have c1 := c1.symm
        subst c1
        rename_i _ p p1 zz p2 pos ea eb pos2
        have pis := pt_val (isx_okX (a := a) (pn := pn) (p := p) (p1 := p1) (p2 := p2) (pos := pos) h hn hX two hz hf c2 c3 c4 c5) (plain_test rfl)
        by_cases hs : subX x.c zz = true
        · rw [if_pos hs] at q
          have pa := hxx_ok h hn hX two hz hf k q
          have pb : PE (X.suite a ((a, oe) :: pn)) eb (fun _ _ _ => False) := ⟨fun _ _ _ _ _ _ z => z.elim⟩
          refine peImp (pe_ifExp pis pa pb) fun σ H Q ⟨k1, F, T, e, gg, R, xr, kk, k2⟩ => ⟨⟨k1, xr.dxs⟩, _, rfl, ?_⟩
          show (if _ then _ else _)
          rw [if_pos hs]
          exact ⟨k1, F, T, e, gg, R, xr, kk, k2⟩
        · rw [if_neg hs] at q
          have pb := hxx_ok h hn hX two hz hf k q
          have pa : PE (X.suite a ((a, oe) :: pn)) ea (fun _ _ _ => False) := ⟨fun _ _ _ _ _ _ z => z.elim⟩
          refine peImp (pe_ifExp pis pa pb) fun σ H Q ⟨k1, F, T, e, gg, R, xr, kk, k2⟩ => ⟨⟨k1, xr.dxs⟩, _, rfl, ?_⟩
          show (if _ then _ else _)
          rw [if_neg hs]
          exact ⟨k1, F, T, e, gg, R, xr, kk, k2⟩
      · cases q
    · split at q
      · rename_i hc
        simp only [Bool.and_eq_true, decide_eq_true_eq] at hc
        obtain ⟨⟨⟨⟨c1, c2⟩, c3⟩, c4⟩, c5⟩ := hc
        have c1 := c1.symm
        subst c1
        cases q
        exact peImp (isx_okX h hn hX two hz hf c2 c3 c4 c5) fun σ H Q ⟨k1, F, T, e, g, R, xr, kk, k2⟩ => ⟨⟨k1, xr.dxs⟩, k2 F T H _ R .refl (.bl _)⟩
      · cases q
    · cases q
theorem hxs_ok (h : GX X c W g) (hn : g.slot n = some i) (hX : XC X.K x.c D0) (two : ∀ z E, g.cls.elem z = true → z ≠ "Model" → c.fa z = some E → PySem.W.kitOne X.K (.ref D0) (.ref E) = some (subX x.c z)) (hz : Zc (.ref D0) dx oe) (hf : ∃ vs, oe.data = .fields vs) :
    ∀ (k : Nat) {es : List Expr} {ds : List D} {kn : Kn}, evalXs k g n x kn es = some ds → PA (X.suite a ((a, oe) :: pn)) es (tHxs c i a x dx kn ds)
  | 0, es, ds, kn, q => by unfold evalXs at q; cases q
  | k + 1, es, ds, kn, q => by
    unfold evalXs at q
    split at q
    · cases q
      exact paImp pa_nil fun σ H Q ⟨k1, F, T, e, gg, R, xr, kk, k2⟩ => k2 F T H _ R .refl .nil
    · split at q
      · rename_i hns
        obtain ⟨d, h1, q⟩ := Option.bind_eq_some_iff.mp q
        obtain ⟨ds', h2, q⟩ := Option.map_eq_some_iff.mp q
        subst q
        have pe := hxx_ok h hn hX two hz hf k h1
        have ps := hxs_ok h hn hX two hz hf k h2
        refine paImp (pa_cons pe ps (star_cons hns)) fun σ H Q ⟨k1, F, T, e, gg, R, xr, kk, k2⟩ => ?_
        exact ⟨k1, F, T, e, gg, R, xr, kk, fun F1 T1 H1 v1 R1 x1 r1 => ⟨k1, F1, T1, e, gg, R1, xr.ext R x1, kk, fun F2 T2 H2 vs R2 x2 r2 => k2 F2 T2 H2 _ R2 (x1.trans x2) (.cons (r1.mono x2.f) r2)⟩⟩
      · cases q
end
end
end PV
set_option Elab.async false
set_option linter.all false
set_option maxRecDepth 100000
set_option maxHeartbeats 4000000
/-! PVE4: try: body, except C as n: names put to values; several such clauses. -/
namespace PV
open PySem L2 PySem.Spec PyProof.Rows

theorem nmLoc_at {g : G} {x : Str} {i : Nat} (k : nmLoc g x = some i) : g.loc x = true ∧ g.slot x = some i := by
  unfold nmLoc at k
  split at k
  · rename_i hl; exact ⟨hl, k⟩
  · cases k
/-- what a clause puts under names, for the error x -/
def evalSu (k : Nat) (g : G) (n : Str) (i : Nat) (x : Exn) : Kn → List Stmt → Option (List (Nat × D))
  | _, [] => some []
  | kn, .Assign [.Name f _] ev _ :: rest => match nmLoc g f with
    | some j => if noComp ev && decide (j ≠ i) then (evalX k g n x kn ev).bind fun d => (evalSu k g n i x ((j, d) :: kn) rest).map fun ps => (j, d) :: ps else none
    | none => none
  | _, _ => none
def setsD (e : Env) : List (Nat × D) → Env
  | [] => e
  | p :: ps => setsD (e.set p.1 (some (.dat p.2))) ps
/-- a clause: its class, its name, what it puts -/
structure Cl where
  C : Str
  i : Nat
  su : Exn → Option (List (Nat × D))
def tryGo (x : Exn) (e : Env) (g : Rng) : List Cl → Res (Option SV)
  | [] => .exc x e g
  | cl :: r => if subX x.c cl.C then (match cl.su x with
      | some ps => if cl.i < e.length ∧ ps.all (fun p => decide (p.1 < e.length)) = true then .ok none ((setsD (e.set cl.i none) ps).set cl.i none) g else .stuck
      | none => .stuck) else tryGo x e g r
def sTryN (b : S) (cls : List Str) (l : List Cl) : S := fun e g => match b e g with
  | .exc x e1 g1 => if cls.elem x.c && decide (x.c ≠ "Model") then tryGo x e1 g1 l else .stuck
  | r => r
def tSu (c : Cn) (i : Nat) (a : Addr) (x : Exn) (dx : Option Addr) (kn : Kn) (ps : List (Nat × D)) : TS := fun D σ H => σ[i]? = some (some (.ref a)) ∧ ∃ F T e g, Rel c F T e g σ H ∧ XR0 c F H x dx ∧ KnOk kn e ∧ (∀ p ∈ ps, p.1 < e.length) ∧
  ∀ σ' F' T' H', Rel c F' T' (setsD e ps) g σ' H' → Ext c F T H F' T' H' → D.nx σ' H'
section
variable {X : Cx} {c : Cn} {W : WX} {g : G} {n : Str} {i : Nat} {x : Exn} {D0 a : Addr} {oe : Obj} {pn : List (Addr × Obj)} {dx : Option Addr}
theorem su_ok (h : GX X c W g) (hn : g.slot n = some i) (hX : XC X.K x.c D0) (two : ∀ z E, g.cls.elem z = true → z ≠ "Model" → c.fa z = some E → PySem.W.kitOne X.K (.ref D0) (.ref E) = some (subX x.c z)) (hz : Zc (.ref D0) dx oe) (hf : ∃ vs, oe.data = .fields vs) (k : Nat) :
    ∀ {sts : List Stmt} {ps : List (Nat × D)} {kn : Kn}, evalSu k g n i x kn sts = some ps → PSs (X.suite a ((a, oe) :: pn)) sts (tSu c i a x dx kn ps)
  | [], ps, kn, q => by
    cases q
    exact pssImp pss_nil fun D σ H ⟨k1, F, T, e, gg, R, xr, kk, kl, k2⟩ => k2 σ F T H R .refl
  | st :: rest, ps, kn, q => by
    have nd : X.N.Nodup := by rw [h.hN]; exact h.nd
    unfold evalSu at q
    split at q
    · cases ‹_ :: _ = ([] : List Stmt)›
    · rename_i f pf ev pa rest' heq
      cases heq
      split at q
      · rename_i j h2
        split at q
        · rename_i hc
          rw [Bool.and_eq_true, decide_eq_true_eq] at hc
          obtain ⟨d, h1, q⟩ := Option.bind_eq_some_iff.mp q
          obtain ⟨ps', h3, q⟩ := Option.map_eq_some_iff.mp q
          · subst q
            obtain ⟨l1, s1⟩ := nmLoc_at h2
            obtain ⟨lx, fx1⟩ := h.loc l1
            have hj := (h.nm s1).hN
            have P1 := ps_set (X := X.suite a ((a, oe) :: pn)) (pos := pa) (pos' := pf) nd hj lx (hxx_ok h hn hX two hz hf k h1) (no_comp hc.1) fx1
            refine pssImp (pss_cons P1 (su_ok h hn hX two hz hf k h3)) fun D σ H ⟨k1, F, T, e, gg, R, xr, kk, kl, k2⟩ => ?_
            refine ⟨k1, F, T, e, gg, R, xr, kk, fun F1 T1 H1 v R1 x1 r1 => ⟨by rw [List.getElem?_set_ne hc.2]; exact k1, F1, T1, e.set j (some (.dat d)), gg, R1.setDat j r1, xr.ext R x1, fun j' d' hl => ?_, fun p hp => by rw [List.length_set]; exact kl p (List.mem_cons_of_mem _ hp), fun σ' F' T' H' R' x' => k2 σ' F' T' H' R' (x1.trans x')⟩⟩
            rw [List.lookup_cons] at hl
            split at hl
            · rename_i hb
              have hb : j' = j := eq_of_beq hb
              subst hb
              cases hl
              exact List.getElem?_set_self (kl _ List.mem_cons_self)
            · rename_i hb
              rw [List.getElem?_set_ne (by rintro rfl; simp at hb)]
              exact kk j' d' hl
        · cases q
      · cases q
    · cases q
end
/-- a list of clauses, by the text -/
def cCls (g : G) : List ExceptHandler → Option (List Cl)
  | [] => some []
  | .ExceptHandler (some (.Name C _)) (some n) (st :: sts) _ :: r => match g.slot n, cCls g r with
    | some i, some l => if (g.sc.names.lookup n == some .local) && g.gl C && g.cls.elem C && decide (C ≠ "Model") then some (⟨C, i, fun x => evalSu 12 g n i x [] (st :: sts)⟩ :: l) else none
    | _, _ => none
  | _ => none
section
variable {X : Cx} {c : Cn} {W : WX} {g : G}
def tsOf (X : Cx) (c : Cn) (g : G) (cl : Cl) : Addr → Value → Option Addr → TS := fun a cls d D σ H => ∃ (x : Exn) (D0 : Addr) (ps : List (Nat × PV.D)), cls = .ref D0 ∧ XC X.K x.c D0 ∧ (∀ z E, g.cls.elem z = true → z ≠ "Model" → c.fa z = some E → PySem.W.kitOne X.K (.ref D0) (.ref E) = some (subX x.c z)) ∧ cl.su x = some ps ∧ tSu c cl.i a x d [] ps D σ H
theorem asn_ok (h : GX X c W g) : ∀ {hds : List ExceptHandler} {l : List Cl}, cCls g hds = some l → ∃ m : List Clause, AsN X hds m ∧ m.length = l.length ∧ ∀ (j : Nat) cl mc, l[j]? = some cl → m[j]? = some mc → g.cls.elem cl.C = true ∧ cl.C ≠ "Model" ∧ ∃ A, mc = (.ref A, cl.i, tsOf X c g cl) ∧ c.fa cl.C = some A
  | [], l, q => by
    cases q
    exact ⟨[], .nil, rfl, fun j cl mc e => by cases e⟩
  | hd :: r, l, q => by
    unfold cCls at q
    split at q
    · cases ‹_ :: _ = ([] : List ExceptHandler)›
    · rename_i C cp n st sts pos' r' heq
      cases heq
      split at q
      · rename_i i l' h1 h2
        split at q
        · rename_i hc
          simp only [Bool.and_eq_true, decide_eq_true_eq, beq_iff_eq] at hc
          obtain ⟨⟨⟨c1, c2⟩, c3⟩, c4⟩ := hc
          cases q
          obtain ⟨m, am, hl, hm⟩ := asn_ok h h2
          obtain ⟨g1, g2⟩ := h.gl c2
          obtain ⟨_, CA, m1, m2, cx⟩ := h.xcs.at_ C c3 c4
          refine ⟨(.ref CA, i, tsOf X c g ⟨C, i, fun x => evalSu 12 g n i x [] (st :: sts)⟩) :: m, .cons ⟨g1, g2, .inl m1⟩ (h.nm h1).hN (by show X.env.scope.names.lookup _ = _; rw [h.sc]; exact c1) (fun a oe cls d pn hz hf => ⟨fun pins s σ H D I ⟨x, D0, ps, e1, e2, e3, e4, e5⟩ => ?_⟩) am, by simp [hl], fun j cl mc q1 q2 => ?_⟩
          · subst e1
            exact (su_ok h h1 e2 e3 hz hf 12 e4).run pins s σ H D I e5
          · cases j with
            | zero => cases q1; cases q2; exact ⟨c3, c4, CA, rfl, m2⟩
            | succ j => exact hm j cl mc q1 q2
        · cases q
      · cases q
    · cases q
theorem XRep.fa {F H : Hp} {x : Exn} {cls : Value} {dx : Option Addr} (h : XRep c F H x cls dx) : ∃ f, c.fa x.c = some f ∧ cls = .ref f := by
  obtain ⟨f, h1, h2, _⟩ := h
  exact ⟨f, h1, h2⟩
theorem ss_tryN (h : GX X c W g) (fx : FX X) {body : List Stmt} {mb : S} {hd0 : ExceptHandler} {hds : List ExceptHandler} {l : List Cl} {pos : Pos}
    (hb : ∀ (W' : WX) (pn : List (Addr × Obj)) (xe : Value → Shared → Prop), GX (X.tr pn xe) c W' g → PassesOwn (model X.prog X.w) X.A X.env xe → SSs (X.tr pn xe) c W' body mb) (hl : cCls g (hd0 :: hds) = some l) :
    SS X c W (.Try body (hd0 :: hds) [] [] pos) (sTryN mb g.cls l) := fun F0 H0 Fb => by
  have nd : X.N.Nodup := by rw [h.hN]; exact h.nd
  obtain ⟨m, am, hlen, hm⟩ := asn_ok h hl
  refine psImp (ps_try_asN (tb := fun W' => tS c W' F0 H0 Fb mb) fx.st fx.fr nd h.tk (fun W' pn xe tk' hp => hb W' pn xe (h.tr tk') hp F0 H0 Fb) am) fun D σ H ⟨F, T, e, gg, R, O, p⟩ => ?_
  refine ⟨F, T, e, gg, R, O, ?_⟩
  unfold sTryN at p
  cases q : mb e gg with
  | stuck => rw [q] at p; exact p
  | ok r e1 g1 =>
    rw [q] at p
    cases r <;> exact p
  | exc x e1 g1 =>
    rw [q] at p
    dsimp only at p
    intro cls d σ1 F1 T1 H1 R1 O1 xr
    split at p
    · rename_i hcnd
      simp only [Bool.and_eq_true, decide_eq_true_eq] at hcnd
      obtain ⟨k2, k3⟩ := hcnd
      obtain ⟨D0, d1, rfl⟩ := xr.fa
      obtain ⟨_, D1, _, d4, cx1⟩ := h.xcs.at_ x.c k2 k3
      rw [d1] at d4
      cases d4
      have go : ∀ {l : List Cl} {m : List Clause}, m.length = l.length → (∀ (j : Nat) cl mc, l[j]? = some cl → m[j]? = some mc → g.cls.elem cl.C = true ∧ cl.C ≠ "Model" ∧ ∃ A, mc = (.ref A, cl.i, tsOf X c g cl) ∧ c.fa cl.C = some A) →
          PostS c W F0 H0 Fb D (tryGo x e1 g1 l) → wAsN X.K W D m (.ref D0) d σ1 H1 := by
        intro l
        induction l with
        | nil =>
          intro m hl _ p
          cases m with
          | nil => exact p _ d σ1 F1 T1 H1 R1 O1 xr
          | cons _ _ => cases hl
        | cons cl r ih =>
          intro m hl hm p
          cases m with
          | nil => cases hl
          | cons mc mr =>
            obtain ⟨n1, n2, A, e2, n3⟩ := hm 0 cl mc rfl rfl
            subst e2
            refine ⟨subX x.c cl.C, h.xcs.exm k2 k3 n1 n2 d1 n3, fun hs a ha => ?_, fun hs => ?_⟩
            · unfold tryGo at p
              rw [if_pos hs] at p
              cases hsu : cl.su x with
              | none => rw [hsu] at p; exact (show False from p).elim
              | some ps =>
                rw [hsu] at p
                dsimp only at p
                split at p
                · rename_i hlt
                  obtain ⟨hl1, hl2⟩ := hlt
                  have hil : cl.i < σ1.length := by rw [← R1.len]; exact hl1
                  refine ⟨x, D0, ps, rfl, cx1, fun z E hz nz e2 => (h.xcs.two x.c z D0 E k2 k3 hz nz d1 e2).2, hsu, List.getElem?_set_self hil, F1, T1, e1.set cl.i none, g1, ?_, xr.xr0, fun _ _ q => (by cases q), fun p hp => ?_, fun σ' F' T' H' R' x' => ?_⟩
                  · refine R1.env (by simp [R1.len]) fun m sv hm => ?_
                    by_cases hmi : m = cl.i
                    · subst hmi
                      rw [List.getElem?_set_self hl1] at hm
                      cases hm
                    · rw [List.getElem?_set_ne (Ne.symm hmi)] at hm
                      obtain ⟨w, w1, w2⟩ := R1.slot m sv hm
                      exact ⟨w, by rw [List.getElem?_set_ne (Ne.symm hmi)]; exact w1, w2⟩
                  · rw [List.length_set]
                    exact of_decide_eq_true (List.all_eq_true.mp hl2 p hp)
                  · refine p _ F' T' H' ?_ (O1.ext x')
                    refine R'.env (by simp [R'.len]) fun m sv hm => ?_
                    by_cases hmi : m = cl.i
                    · subst hmi
                      by_cases hlt : cl.i < (setsD (e1.set cl.i none) ps).length
                      · rw [List.getElem?_set_self hlt] at hm
                        cases hm
                      · rw [List.getElem?_eq_none (by simpa using hlt)] at hm
                        cases hm
                    · rw [List.getElem?_set_ne (Ne.symm hmi)] at hm
                      obtain ⟨w, w1, w2⟩ := R'.slot m sv hm
                      exact ⟨w, by rw [List.getElem?_set_ne (Ne.symm hmi)]; exact w1, w2⟩
                · exact (show False from p).elim
            · unfold tryGo at p
              rw [if_neg (by rw [hs]; decide)] at p
              exact ih (by simpa using hl) (fun j cl' mc' q1 q2 => hm (j + 1) cl' mc' q1 q2) p
      exact go hlen hm p
    · exact (show False from p).elim
end
end PV
set_option Elab.async false
set_option linter.all false
set_option maxRecDepth 100000
set_option maxHeartbeats 4000000
/-! PV22: the function for statements; it is sound. -/
namespace PV
open PySem L2 PySem.Spec PyProof.Rows

def cSetE (n : Nat) (g : G) (mv : List (Nat × Nat)) (x : Str) (px : Pos) (e : Expr) : Option S := match nmLoc g x with
  | none => none
  | some i => match e with
    | .Name y _ => match g.slot y with
      | some j => if mv.elem (i, j) then some (sMove i j) else (cO n g e).map (sSet i)
      | none => (cO n g e).map (sSet i)
    | .ListComp elt gs scope p => if g.nest.elem i then
        (match elt, gs with
          | .List [] _, [⟨tg, iter, [], 0⟩] => if isFn scope.kind && blkC g.N g.sc scope (ownOf g scope) && noSet iter then
            (match (if swB g.sc x px.line p.line scope then loc2 g x else some i), cI n g .p (isTup tg) iter, cTg (g.blk scope) tg with
              | some i', some src, some t => if t.slots.all (fun i => ((ownOf g scope).map (·.2)).elem i) then some (sSet i' (mRowsC ((ownOf g scope).map (·.2)) t src)) else none
              | _, _, _ => none) else none
          | _, _ => none)
      else if swB g.sc x px.line p.line scope then
        (match gs with
          | [⟨tg, iter, ifs, 0⟩] => if isFn scope.kind && blkC g.N g.sc scope (ownOf g scope) && noSet iter then
            (match loc2 g x, cI n g .p (isTup tg) iter, cTg (g.blk scope) tg, cIf n (g.blk scope) ifs, cO n (g.blk scope) elt with
              | some i', some src, some t, some cd, some m => if t.slots.all (fun i => ((ownOf g scope).map (·.2)).elem i) then some (sSet i' (mComp ((ownOf g scope).map (·.2)) t src cd (mFrz m))) else none
              | _, _, _, _, _ => none) else none
          | [⟨tg, iter, [], 0⟩, ⟨tg1, iter1, [], 0⟩] => if isFn scope.kind && blkC g.N g.sc scope (ownOf g scope) && noSet iter && noSet iter1 then
            (match loc2 g x, cI n g .p (isTup tg) iter, cTg (g.blk scope) tg, cI n (g.blk scope) .f (isTup tg1) iter1, cTg (g.blk scope) tg1, cO n (g.blk scope) elt with
              | some i', some src, some t, some src1, some t1, some m => if t.slots.all (fun i => ((ownOf g scope).map (·.2)).elem i) && t1.slots.all (fun i => ((ownOf g scope).map (·.2)).elem i) then some (sSet i' (mComp2 ((ownOf g scope).map (·.2)) t1.slots t src t1 src1 (mFrz m))) else none
              | _, _, _, _, _, _ => none) else none
          | _ => none)
      else (cO n g e).map (sSet i)
    | e => if noComp e then (cO n g e).map (sSet i) else none
def par2B (g : G) (x y : Str) (px py : Pos) (a b : Expr) : Bool := (py.line == px.line) && noStar a && noStar b && !([a, b].all (foldedForSure 8)) && !([a, b].all (constantsAlone 8)) && decide (x ≠ y) && (g.sc.names.lookup x == some .local) && (g.sc.names.lookup y == some .local)
def par3B (g : G) (x y z : Str) (px py pz : Pos) (a b d : Expr) : Bool := (py.line == px.line) && (pz.line == px.line) && noStar a && noStar b && noStar d && !([a, b, d].all (foldedForSure 8)) && !([a, b, d].all (constantsAlone 8)) && decide (x ≠ y) && decide (x ≠ z) && decide (y ≠ z) && (g.sc.names.lookup x == some .local) && (g.sc.names.lookup y == some .local) && (g.sc.names.lookup z == some .local)
def notTup : Expr → Bool
  | .Tuple _ _ _ => false
  | _ => true
/-- x.append(y), x a list of lists -/
def appO (g : G) (x : Str) : Expr → Option (Nat × Nat)
  | .Name y _ => match g.slot x, g.slot y with
    | some i, some j => if g.nest.elem i then some (i, j) else none
    | _, _ => none
  | _ => none
theorem appO_at {g : G} {x : Str} {a : Expr} {i j : Nat} (h : appO g x a = some (i, j)) : ∃ y p, a = .Name y p ∧ g.slot x = some i ∧ g.slot y = some j := by
  unfold appO at h
  split at h
  · split at h
    · rename_i h1 h2
      split at h
      · cases h; exact ⟨_, _, rfl, h1, h2⟩
      · cases h
    · cases h
  · cases h
noncomputable section
mutual
def cS : Nat → G → List (Nat × Nat) → Stmt → Option S
  | 0, _, _, _ => none
  | n + 1, g, mv, st => match st with
    | .Assign [.Name x px] e _ => cSetE n g mv x px e
    | .Assign [.Tuple [.Name x px, .Name y py] _ _] (.Tuple [a, b] _ _) _ => if par2B g x y px py a b then (match g.slot x, g.slot y, cO n g a, cO n g b with
        | some i, some j, some ma, some mb => some (sPar2 i j ma mb)
        | _, _, _, _ => none)
      else if noStar a && noStar b && (!((g.sc.names.lookup x == some .local) && (g.sc.names.lookup y == some .local)) || [a, b].all (foldedForSure 8)) then (match nmLoc g x, nmLoc g y, cO n g a, cO n g b with
        | some i, some j, some ma, some mb => some (sPar2 i j ma mb)
        | _, _, _, _ => none) else none
    | .Assign [.Tuple [.Name x px, .Name y py, .Name z pz] _ _] (.Tuple [a, b, d] _ _) _ => if par3B g x y z px py pz a b d then (match g.slot x, g.slot y, g.slot z, cO n g a, cO n g b, cO n g d with
        | some i, some j, some l, some ma, some mb, some md => some (sPar3 i j l ma mb md)
        | _, _, _, _, _, _ => none)
      else if noStar a && noStar b && noStar d && !((g.sc.names.lookup x == some .local) && (g.sc.names.lookup y == some .local) && (g.sc.names.lookup z == some .local)) then (match nmLoc g x, nmLoc g y, nmLoc g z, cO n g a, cO n g b, cO n g d with
        | some i, some j, some l, some ma, some mb, some md => some (sPar3 i j l ma mb md)
        | _, _, _, _, _, _ => none) else none
    | .Assign [.Tuple [.Name x _, .Name y _, .Name z _, .Name u _] _ _] (.Tuple [a, b, d, f] _ _) _ => if noStar a && noStar b && noStar d && noStar f then (match nmLoc g x, nmLoc g y, nmLoc g z, nmLoc g u, cO n g a, cO n g b, cO n g d, cO n g f with
        | some i, some j, some k, some l, some ma, some mb, some md, some mf => some (sPar4 i j k l ma mb md mf)
        | _, _, _, _, _, _, _, _ => none) else none
    | .Assign [.Tuple es k p] e _ => if notTup e && noComp e then (match cTg g (.Tuple es k p), cO n g e with
        | some t, some m => some (sUnp t (mFrz m))
        | _, _ => none) else none
    | .Assign [.Subscript (.Name x px) b _] a _ => if plainIx b && noComp a then (match dtSlot g (.Name x px) with
        | some i => (match cO n g b, cO n g a with
          | some k, some m => some (sDPut i (mFrz k) (mFrz m))
          | _, _ => none)
        | none => match g.slot x, cP n g b, cO n g a with
        | some i, some k, some m => some (sPut i k (mFrz m))
        | _, _, _ => none) else none
    | .Assign [.Subscript (.Subscript (.Name x _) b _) b2 _] a _ => if plainIx b && plainIx b2 && noComp a then (match g.slot x, cP n g b, cP n g b2, cO n g a with
        | some i, some k, some k2, some m => some (sPutR i k k2 (mFrz m))
        | _, _, _, _ => none) else none
    | .AugAssign (.Subscript (.Name x _) b _) .Add a _ => if plainIx b then (match g.slot x, cP n g b, cP n g a with
        | some i, some k, some m => some (sAugI i k m)
        | _, _, _ => none) else none
    | .AugAssign (.Name x _) .Add a _ => match nmLoc g x with
      | some i => if noComp a then (cP n g a).map (sAug i) else (cO n g a).map (sAugL i)
      | none => none
    | .Expr (.Constant (.str _) _ _) _ => some sNil
    | .Expr (.Call (.Attribute (.Name x _) "append" apos) [a] [] cpos) _ => if noStar a && (apos.endLine == cpos.line) then (match appO g x a with
        | some (i, j) => some (sAppW i j)
        | none => match g.slot x, cO n g a with
        | some i, some m => some (sApp i (mFrz m))
        | _, _ => none) else none
    | .Expr (.Call (.Attribute (.Name x _) "remove" apos) [a] [] cpos) _ => if noStar a && (apos.endLine == cpos.line) then (match g.slot x, cO n g a with
        | some i, some m => some (sRemove i (mFrz m))
        | _, _ => none) else none
    | .Expr (.Call (.Attribute (.Subscript (.Name x _) b _) "append" apos) [a] [] cpos) _ => if noStar a && (apos.endLine == cpos.line) && plainIx b then (match g.slot x, cP n g b, cO n g a with
        | some i, some k, some m => some (sAppR i k (mFrz m))
        | _, _, _ => none) else none
    | .Expr (.Call f as ks p) _ => (cO n g (.Call f as ks p)).map sDrop
    | .If b t u _ => match cT n g b, cSs n g mv t, cSs n g mv u with
      | some c, some x, some y => some (sIf c x y)
      | _, _, _ => none
    | .For tg iter body [] _ => if noSet iter then (match cI n g .f (isTup tg) iter, cTg g tg, cSs n g mv body with
        | some src, some t, some b => some (sFor t src b)
        | _, _, _ => none) else none
    | .While c body [] _ => match cT n g c, cSs n g mv body with
      | some x, some b => some (sWhile x b)
      | _, _ => none
    | .Return (some e) _ => (cR n g e).map sRet
    | .Pass _ => some sNil
    | .Raise (some (.Call (.Name x _) [] [] _)) none _ => if g.gl x && g.cls.elem x && decide (x ≠ "Model") && (fldOf x).isEmpty then some (sThrow x) else some sNever
    | .Raise (some (.Call (.Name x _) [a] [] _)) none _ => match fldOf x, cO n g a with
      | [fl], some m => if g.xf && g.gl x && g.cls.elem x && decide (x ≠ "Model") && noStar a then some (sThrowF x fl (mFrz m)) else some sNever
      | _, _ => some sNever
    | .Raise _ _ _ => some sNever
    | .Try body [.ExceptHandler (some (.Name C _)) (some nn) [.Assign [.Name f _] ev _] _] [] [] _ => match cSs n g mv body, g.slot nn, nmLoc g f with
      | some mb, some i, some j => if (g.sc.names.lookup nn == some .local) && g.gl C && g.cls.elem C && decide (C ≠ "Model") && decide (i ≠ j) && noComp ev && (evalH 9 g nn ⟨"", []⟩ ev).isSome then some (sTry1 mb g.cls C i j (fun x => evalH 9 g nn x ev)) else none
      | _, _, _ => none
    | .Try body (hd0 :: hds) [] [] _ => match cSs n g mv body, cCls g (hd0 :: hds) with
      | some mb, some l => some (sTryN mb g.cls l)
      | _, _ => none
    | _ => none
def cSs : Nat → G → List (Nat × Nat) → List Stmt → Option S
  | 0, _, _, _ => none
  | n + 1, g, mv, sts => match sts with
    | [] => some sNil
    | [s] => some ((cS n g mv s).getD sNever)
    | s :: t :: rest => match cSs n g mv (t :: rest) with
      | some b => some (sSeq ((cS n g mv s).getD sNever) b)
      | _ => none
end
end
section
variable {X : Cx} {c : Cn} {W : WX} {g : G} {n : Nat} {mv : List (Nat × Nat)}
theorem slot_ne (h : GX X c W g) {x y : Str} {i j : Nat} (hi : g.slot x = some i) (hj : g.slot y = some j) (hn : x ≠ y) : i ≠ j := by
  rintro rfl
  have a := (h.nm hi).hN
  rw [(h.nm hj).hN] at a
  cases a
  exact hn rfl
theorem loc2_at {x : Str} {i : Nat} (k : loc2 g x = some i) : g.sc.names.lookup x = some .local ∧ g.slot x = some i := by
  unfold loc2 at k
  split at k
  · rename_i hl; exact ⟨eq_of_beq hl, k⟩
  · cases k
theorem se_rowsC {μ : Md} {tg iter : Expr} {scope : Scope} {own : List (Str × Nat)} {lpos ep : Pos} {t : Tgt} {src : Src} (hc : X.calm = true) (hN : X.N.Nodup)
    (hit : PI X tg iter (tI μ c W src)) (ok : blkC X.N X.env.scope scope own = true) (hsl : ∀ i ∈ t.slots, i ∈ own.map (·.2))
    (hg : ∀ (s : Shared) (H : Hp) (C : Addr) (cl : List (Str × Addr)) (fp : List Addr), PG (X.blk s H scope (compEnvC scope cl C X.env) fp) tg (gT c t)) (hs : ∀ x, foldedSetIterable iter X.env x = pure x) :
    PE X (.ListComp (.List [] ep) [⟨tg, iter, [], 0⟩] scope lpos) (tO c W (mRowsC (own.map (·.2)) t src)) :=
  peImp (pe_lc hc hN hit (blkOk_by ok) hg (fun s H C cl fp => ⟨fun pins s σ H Q I ⟨F, T, e, g, R, p⟩ => pts_nil.run pins s σ H Q I (doneQ R p)⟩) (fun s H C cl fp => se_lst sa_nil) hs) fun σ H Q h => tLcR_of hsl h
theorem set_ok (h : GX X c W g) {x : Str} {px spos : Pos} {e : Expr} {m : S} (k : cSetE n g mv x px e = some m) : SS X c W (.Assign [.Name x px] e spos) m := by
  have nd : X.N.Nodup := by rw [h.hN]; exact h.nd
  unfold cSetE at k
  split at k
  · cases k
  · rename_i i hi
    obtain ⟨hl, hs⟩ := nmLoc_at hi
    obtain ⟨l1, l2⟩ := h.loc hl
    have nm := h.nm hs
    have plain : ∀ {e : Expr} {m : S}, swapsWith e (some (.Name x px)) spos.line X.env = pure false → (cO n g e).map (sSet i) = some m → SS X c W (.Assign [.Name x px] e spos) m := fun {e m} hsw k => by
      cases e1 : cO n g e with
      | none => rw [e1] at k; cases k
      | some y => rw [e1] at k; cases k; exact ss_set nd nm.hN l1 ((sound n).o h e1) hsw l2
    split at k
    · split at k
      · split at k
        · rename_i j hj _
          cases k
          exact ss_move nd (h.nm hj) nm.hN l1 l2 (no_comp rfl)
        · exact plain (no_comp rfl) k
      · exact plain (no_comp rfl) k
    · rename_i elt gs scope p
      have sw := sw_comp (elt := elt) (gs := gs) (scope := scope) (pos := p) (py := px) (y := x) (l := spos.line) (env := X.env) (by rw [h.sc]; exact h.kind)
      rw [h.sc] at sw
      split at k
      · split at k
        · rename_i ep tg iter
          split at k
          · rename_i hc
            simp only [Bool.and_eq_true] at hc
            split at k
            · rename_i i' src t h0 h1 h2
              split at k
              · rename_i hsl
                cases k
                have sw2 := sw_comp (elt := .List [] ep) (gs := [⟨tg, iter, [], 0⟩]) (scope := scope) (pos := p) (py := px) (y := x) (l := spos.line) (env := X.env) (by rw [h.sc]; exact h.kind)
                rw [h.sc] at sw2
                have hin : ∀ j ∈ t.slots, j ∈ (ownOf g scope).map (·.2) := fun j hj => by
                  have := List.all_eq_true.mp hsl j hj
                  simpa using this
                by_cases hsb : swB g.sc x px.line p.line scope = true
                · rw [if_pos hsb] at h0
                  obtain ⟨q1, q2⟩ := loc2_at h0
                  rw [hsb] at sw2
                  exact ss_setRows h.calm nd (h.nm q2).hN (by rw [h.sc]; exact q1) sw2 ((sound n).i h h1) (by rw [h.hN, h.sc]; exact hc.1.2) hin (fun s H C cl fp => tg_ok (h.blk hc.1.1 s H C cl fp) h2) (no_set hc.2)
                · rw [if_neg hsb] at h0
                  cases h0
                  rw [show swB g.sc x px.line p.line scope = false by simpa using hsb] at sw2
                  exact ss_set nd nm.hN l1 (se_rowsC h.calm nd ((sound n).i h h1) (by rw [h.hN, h.sc]; exact hc.1.2) hin (fun s H C cl fp => tg_ok (h.blk hc.1.1 s H C cl fp) h2) (no_set hc.2)) sw2 l2
              · cases k
            · cases k
          · cases k
        · cases k
      split at k
      · rename_i hsb
        rw [hsb] at sw
        split at k
        · rename_i tg iter ifs
          split at k
          · rename_i hc
            simp only [Bool.and_eq_true] at hc
            split at k
            · rename_i i' src t cd mm h0 h1 h2 h3 h4
              split at k
              · rename_i hsl
                cases k
                obtain ⟨q1, q2⟩ := loc2_at h0
                refine ss_setComp h.calm nd (h.nm q2).hN (by rw [h.sc]; exact q1) sw ((sound n).i h h1) (by rw [h.hN, h.sc]; exact hc.1.2) (fun i hi => ?_) (fun s H C cl fp => tg_ok (h.blk hc.1.1 s H C cl fp) h2) (fun s H C cl fp => (sound n).ifs (h.blk hc.1.1 s H C cl fp) h3) (fun s H C cl fp => se_frz ((sound n).o (h.blk hc.1.1 s H C cl fp) h4)) (no_set hc.2)
                have := List.all_eq_true.mp hsl i hi
                simpa using this
              · cases k
            · cases k
          · cases k
        · rename_i tg iter tg1 iter1
          split at k
          · rename_i hc
            simp only [Bool.and_eq_true] at hc
            split at k
            · rename_i i' src t src1 t1 mm h0 h1 h2 h3 h4 h5
              split at k
              · rename_i hsl
                rw [Bool.and_eq_true] at hsl
                cases k
                obtain ⟨q1, q2⟩ := loc2_at h0
                refine ss_setComp2 h.calm nd (h.nm q2).hN (by rw [h.sc]; exact q1) sw ((sound n).i h h1) (by rw [h.hN, h.sc]; exact hc.1.1.2) (fun i hi => ?_) (fun i hi => ?_) (fun s H C cl fp => tg_ok (h.blk hc.1.1.1 s H C cl fp) h2) (fun s H C cl fp => (sound n).i (h.blk hc.1.1.1 s H C cl fp) h3) (fun s H C cl fp => tg_ok (h.blk hc.1.1.1 s H C cl fp) h4) (fun s H C cl fp => se_frz ((sound n).o (h.blk hc.1.1.1 s H C cl fp) h5)) (no_set hc.1.2) (fun env x => no_set hc.2 x)
                · have := List.all_eq_true.mp hsl.1 i hi
                  simpa using this
                · have := List.all_eq_true.mp hsl.2 i hi
                  simpa using this
              · cases k
            · cases k
          · cases k
        · cases k
      · rename_i hsb
        rw [show swB g.sc x px.line p.line scope = false by simpa using hsb] at sw
        exact plain sw k
    · split at k
      · rename_i hnc
        exact plain (no_comp hnc) k
      · cases k
structure SoundS (n : Nat) : Prop where
  s : ∀ {X : Cx} {c : Cn} {W : WX} {g : G} {mv : List (Nat × Nat)} {st : Stmt} {m : S}, GX X c W g → PassesOwn (model X.prog X.w) X.A X.env X.xe → FX X → cS n g mv st = some m → SS X c W st m
  ss : ∀ {X : Cx} {c : Cn} {W : WX} {g : G} {mv : List (Nat × Nat)} {sts : List Stmt} {m : S}, GX X c W g → PassesOwn (model X.prog X.w) X.A X.env X.xe → FX X → cSs n g mv sts = some m → SSs X c W sts m
theorem ret_ok (h : GX X c W g) {e : Expr} {m : M SV} (k : cR n g e = some m) : SR X c W e m := by
  unfold cR at k
  split at k
  · split at k
    · rename_i hs
      cases k
      have nm := h.nm hs
      exact sr_var nm.hN nm.hv nm.hd nm.hcd
    · exact sr_val ((sound n).o h k)
  · exact sr_val ((sound n).o h k)
theorem st_ok (S : SoundS n) {st : Stmt} (h : GX X c W g) (hp : PassesOwn (model X.prog X.w) X.A X.env X.xe) (fx : FX X) : SS X c W st ((cS n g mv st).getD sNever) := by
  cases e : cS n g mv st with
  | none => exact ss_never
  | some m => exact S.s h hp fx e
theorem sound_ss (S : SoundS n) {sts : List Stmt} {m : PV.S} (h : GX X c W g) (hp : PassesOwn (model X.prog X.w) X.A X.env X.xe) (fx : FX X) (k : cSs (n + 1) g mv sts = some m) : SSs X c W sts m := by
  unfold cSs at k
  split at k
  · cases k; exact ss_nil
  · cases k; exact ss_one (st_ok S h hp fx)
  · split at k
    · rename_i y h2
      cases k
      exact ss_cons (st_ok S h hp fx) (S.ss h hp fx h2)
    · cases k
end
end PV
set_option Elab.async false
set_option linter.all false
set_option maxRecDepth 100000
set_option maxHeartbeats 4000000
/-! PV23: the function for statements is sound; a def from its text. -/
namespace PV
open PySem L2 PySem.Spec PyProof.Rows

section
variable {X : Cx} {c : Cn} {W : WX} {g : G} {n : Nat} {mv : List (Nat × Nat)}
theorem swp_no' {tg e : Expr} {env : PySem.Env} (h : notTup e = true) : swappedStores [tg] e env = pure none := by
  cases e <;> first | (cases h; done) | (cases tg <;> rfl)
theorem sub_assign {o b : Expr} {p : Pos} {env : PySem.Env} (h : plainIx b = true) : ∀ v, assign (.Subscript o b p) env v = (do
      let ov ← holding [v] (eval o env)
      let iv ← holding [v, ov] (eval b env)
      standAt p
      holding [v, ov, iv] (setItem ov iv v)
      release [v, ov, iv] []) := by
  intro v
  cases b <;> first | rfl | cases h
theorem sub_aug {b : Expr} (h : plainIx b = true) : ∀ ov iv new, augStore b ov iv new = (do holding [new, ov, iv] (setItem ov iv new); release [new, ov, iv] []; pure .next) := by
  intro ov iv new
  cases b <;> first | rfl | cases h
theorem sound_s (S : SoundS n) {st : Stmt} {m : PV.S} (h : GX X c W g) (hp : PassesOwn (model X.prog X.w) X.A X.env X.xe) (fx : FX X) (k : cS (n + 1) g mv st = some m) : SS X c W st m := by
  have nd : X.N.Nodup := by rw [h.hN]; exact h.nd
  have hkind : X.env.scope.kind = .function := by rw [h.sc]; exact h.kind
  unfold cS at k
  split at k
  · exact set_ok h k
  · rename_i x px y py kt pt a b k2 pt2 pos
    split at k
    · rename_i hc
      unfold par2B at hc
      simp only [Bool.and_eq_true, Bool.not_eq_true', decide_eq_true_eq, beq_iff_eq] at hc
      obtain ⟨⟨⟨⟨⟨⟨⟨q1, q2⟩, q3⟩, q4⟩, q5⟩, q6⟩, q7⟩, q8⟩ := hc
      split at k
      · rename_i i j ma mb h1 h2 h3 h4
        cases k
        have lx : X.env.scope.names.lookup x = some NameKind.local := by rw [h.sc]; exact q7
        have ly : X.env.scope.names.lookup y = some NameKind.local := by rw [h.sc]; exact q8
        exact ss_par2 h.calm nd (h.nm h1).hN (h.nm h2).hN (slot_ne h h1 h2 q6) lx ly ((sound n).o h h3) ((sound n).o h h4) (star_cons q2) (star_cons q3) (swp2 hkind lx ly (by simpa using q1) q6 q2 q3 q4 q5) (no_comp1 rfl)
      · cases k
    · split at k
      · rename_i hq
        rw [Bool.and_eq_true, Bool.and_eq_true, Bool.or_eq_true, Bool.not_eq_true'] at hq
        split at k
        · rename_i i j ma mb h1 h2 h3 h4
          cases k
          obtain ⟨l1, s1⟩ := nmLoc_at h1
          obtain ⟨l2, s2⟩ := nmLoc_at h2
          obtain ⟨lx, fx⟩ := h.loc l1
          obtain ⟨ly, fy⟩ := h.loc l2
          exact ss_parT2 h.calm nd (h.nm s1).hN (h.nm s2).hN lx ly fx fy ((sound n).o h h3) ((sound n).o h h4) (star_cons hq.1.1) (star_cons hq.1.2) (hq.2.elim (fun hq2 => swpN2 hkind (by rw [h.sc]; exact hq2)) fun hq2 => swpF2 hkind hq2) (no_comp1 rfl)
        · cases k
      · cases k
  · rename_i x px y py z pz kt pt a b d k2 pt2 pos
    split at k
    · rename_i hc
      unfold par3B at hc
      simp only [Bool.and_eq_true, Bool.not_eq_true', decide_eq_true_eq, beq_iff_eq] at hc
      obtain ⟨⟨⟨⟨⟨⟨⟨⟨⟨⟨⟨⟨q1, q1'⟩, q2⟩, q3⟩, q3'⟩, q4⟩, q5⟩, q6⟩, q6'⟩, q6''⟩, q7⟩, q8⟩, q9⟩ := hc
      split at k
      · rename_i i j l ma mb md h1 h2 h3 h4 h5 h6
        cases k
        have lx : X.env.scope.names.lookup x = some NameKind.local := by rw [h.sc]; exact q7
        have ly : X.env.scope.names.lookup y = some NameKind.local := by rw [h.sc]; exact q8
        have lz : X.env.scope.names.lookup z = some NameKind.local := by rw [h.sc]; exact q9
        exact ss_par3 h.calm nd (h.nm h1).hN (h.nm h2).hN (h.nm h3).hN (slot_ne h h1 h2 q6) (slot_ne h h1 h3 q6') (slot_ne h h2 h3 q6'') lx ly lz ((sound n).o h h4) ((sound n).o h h5) ((sound n).o h h6) (star_cons q2) (star_cons q3) (star_cons q3')
          (swp3 hkind lx ly lz (by simpa using q1) (by simpa using q1') q6 q6' q6'' q2 q3 q3' q4 q5) (no_comp1 rfl)
      · cases k
    · split at k
      · rename_i hq
        simp only [Bool.and_eq_true, Bool.not_eq_true'] at hq
        split at k
        · rename_i i j l ma mb md h1 h2 h3 h4 h5 h6
          cases k
          obtain ⟨l1, s1⟩ := nmLoc_at h1
          obtain ⟨l2, s2⟩ := nmLoc_at h2
          obtain ⟨l3, s3⟩ := nmLoc_at h3
          obtain ⟨lx, fx⟩ := h.loc l1
          obtain ⟨ly, fy⟩ := h.loc l2
          obtain ⟨lz, fz⟩ := h.loc l3
          exact ss_parT3 h.calm nd (h.nm s1).hN (h.nm s2).hN (h.nm s3).hN lx ly lz fx fy fz ((sound n).o h h4) ((sound n).o h h5) ((sound n).o h h6) (star_cons hq.1.1.1) (star_cons hq.1.1.2) (star_cons hq.1.2) (swpN3 hkind (by rw [h.sc]; exact hq.2)) (no_comp1 rfl)
        · cases k
      · cases k
  · rename_i x px y py z pz u pu kt pt a b d f k2 pt2 pos
    split at k
    · rename_i hq
      simp only [Bool.and_eq_true] at hq
      split at k
      · rename_i i j kk l ma mb md mf h1 h2 h3 h4 h5 h6 h7 h8
        cases k
        obtain ⟨l1, s1⟩ := nmLoc_at h1
        obtain ⟨l2, s2⟩ := nmLoc_at h2
        obtain ⟨l3, s3⟩ := nmLoc_at h3
        obtain ⟨l4, s4⟩ := nmLoc_at h4
        obtain ⟨lx, fx⟩ := h.loc l1
        obtain ⟨ly, fy⟩ := h.loc l2
        obtain ⟨lz, fz⟩ := h.loc l3
        obtain ⟨lu, fu⟩ := h.loc l4
        exact ss_parT4 h.calm nd (h.nm s1).hN (h.nm s2).hN (h.nm s3).hN (h.nm s4).hN lx ly lz lu fx fy fz fu ((sound n).o h h5) ((sound n).o h h6) ((sound n).o h h7) ((sound n).o h h8) (star_cons hq.1.1.1) (star_cons hq.1.1.2) (star_cons hq.1.2) (star_cons hq.2) swp4 (no_comp1 rfl)
      · cases k
    · cases k
  · split at k
    · rename_i hc
      rw [Bool.and_eq_true] at hc
      split at k
      · rename_i t mm h1 h2
        cases k
        exact ss_unp (se_frz ((sound n).o h h2)) (tg_ok h h1) (no_comp1 hc.2) (swp_no' hc.1) rfl
      · cases k
    · cases k
  · split at k
    · rename_i hc
      rw [Bool.and_eq_true] at hc
      split at k
      · rename_i i hi
        obtain ⟨x', px', e', hs⟩ := dtSlot_at hi
        cases e'
        split at k
        · rename_i kk mm h2 h3
          cases k
          exact ss_dput h.hu (h.nm hs) (se_frz ((sound n).o h h2)) (se_frz ((sound n).o h h3)) (no_comp hc.2)
        · cases k
      split at k
      · rename_i i kk mm h1 h2 h3
        cases k
        exact ss_put (h.nm h1) ((sound n).p h h2) (se_frz ((sound n).o h h3)) (no_comp1 hc.2) swp_sub rfl (sub_assign hc.1)
      · cases k
    · cases k
  · split at k
    · rename_i hc
      simp only [Bool.and_eq_true] at hc
      split at k
      · rename_i i kk kk2 mm h1 h2 h3 h4
        cases k
        exact ss_putR (h.nm h1) ((sound n).p h h2) (plain_ix hc.1.1) ((sound n).p h h3) (se_frz ((sound n).o h h4)) (no_comp1 hc.2) swp_sub rfl (sub_assign hc.1.2)
      · cases k
    · cases k
  · split at k
    · rename_i hc
      split at k
      · rename_i i kk mm h1 h2 h3
        cases k
        exact ss_augI (h.nm h1) ((sound n).p h h2) ((sound n).p h h3) (sub_aug hc)
      · cases k
    · cases k
  · rename_i x vp a ap
    split at k
    · rename_i i hi
      obtain ⟨hl, hs⟩ := nmLoc_at hi
      obtain ⟨l1, l2⟩ := h.loc hl
      split at k
      · rename_i hc
        cases e1 : cP n g a with
        | none => rw [e1] at k; cases k
        | some y => rw [e1] at k; cases k; exact ss_aug nd (h.nm hs) l1 l2 ((sound n).p h e1)
      · rename_i hc
        cases e1 : cO n g a with
        | none => rw [e1] at k; cases k
        | some y => rw [e1] at k; cases k; exact ss_augL nd (h.nm hs) l1 l2 ((sound n).o h e1)
    · cases k
  · cases k; exact ss_doc
  · split at k
    · rename_i hc
      rw [Bool.and_eq_true] at hc
      split at k
      · rename_i i j hij
        cases k
        obtain ⟨y, p, rfl, hx, hy⟩ := appO_at hij
        exact ss_appO (h.nm hx) (h.nm hy) (few_args rfl hc.1 hc.2) (no_comp rfl)
      split at k
      · rename_i i mm h1 h2
        cases k
        exact ss_app (h.nm h1) (se_frz ((sound n).o h h2)) (star_cons hc.1) (star_none rfl) (few_args rfl hc.1 hc.2) (no_comp rfl)
      · cases k
    · cases k
  · split at k
    · rename_i hc
      rw [Bool.and_eq_true] at hc
      split at k
      · rename_i i mm h1 h2
        cases k
        exact ss_remove h.hu (h.nm h1) (se_frz ((sound n).o h h2)) (star_cons hc.1) (star_none rfl) (few_args rfl hc.1 hc.2) (no_comp rfl)
      · cases k
    · cases k
  · split at k
    · rename_i hc
      simp only [Bool.and_eq_true] at hc
      split at k
      · rename_i i kk mm h1 h2 h3
        cases k
        exact ss_appR (h.nm h1) ((sound n).p h h2) (plain_ix hc.2) (se_frz ((sound n).o h h3)) (star_cons hc.1.1) (star_none rfl) (few_args rfl hc.1.1 hc.1.2) (no_comp rfl)
      · cases k
    · cases k
  · rename_i f as ks p _ _ _ _
    cases e1 : cO n g (.Call f as ks p) with
    | none => rw [e1] at k; cases k
    | some y => rw [e1] at k; cases k; exact ss_drop ((sound n).o h e1) (no_comp rfl)
  · split at k
    · rename_i cc x y h1 h2 h3
      cases k
      exact ss_if ((sound n).t h h1) (S.ss h hp fx h2) (S.ss h hp fx h3)
    · cases k
  · split at k
    · rename_i hc
      split at k
      · rename_i src t b h1 h2 h3
        cases k
        exact ss_for hp h.calm ((sound n).i h h1) (tg_ok h h2) (S.ss h hp fx h3) (no_set hc)
      · cases k
    · cases k
  · split at k
    · rename_i x b h1 h2
      cases k
      exact ss_while hp ((sound n).t h h1) (S.ss h hp fx h2)
    · cases k
  · rename_i e _
    cases e1 : cR n g e with
    | none => rw [e1] at k; cases k
    | some y => rw [e1] at k; cases k; exact ss_ret (ret_ok h e1)
  · cases k; exact ss_pass
  · split at k
    · rename_i hc
      simp only [Bool.and_eq_true, decide_eq_true_eq] at hc
      cases k
      obtain ⟨g1, g2⟩ := h.gl hc.1.1.1
      obtain ⟨_, C, m1, m2, cx⟩ := h.xcs.at_ _ hc.1.1.2 hc.1.2
      exact ss_throw h.calm h.tk cx (List.isEmpty_iff.mp hc.2) m1 m2 g1 g2
    · cases k; exact ss_never
  · split at k
    · rename_i fl mm hfl h1
      split at k
      · rename_i hc
        simp only [Bool.and_eq_true, decide_eq_true_eq] at hc
        obtain ⟨⟨⟨⟨c1, c2⟩, c3⟩, c4⟩, c5⟩ := hc
        cases k
        obtain ⟨g1, g2⟩ := h.gl c2
        exact ss_throwF h.calm h.tk (h.xfd c1 _ _ c3 c4 hfl) hfl g1 g2 (se_frz ((sound n).o h h1)) (star_cons c5) (star_none rfl)
      · cases k; exact ss_never
    · cases k; exact ss_never
  · cases k; exact ss_never
  · split at k
    · rename_i mb i j h1 h2 h3
      split at k
      · rename_i hc
        simp only [Bool.and_eq_true, decide_eq_true_eq, beq_iff_eq] at hc
        obtain ⟨⟨⟨⟨⟨⟨c1, c2⟩, c3⟩, c4⟩, c5⟩, c6⟩, c7⟩ := hc
        cases k
        obtain ⟨l1, s1⟩ := nmLoc_at h3
        obtain ⟨lx, fx1⟩ := h.loc l1
        exact ss_try1 h fx (fun W' pn xe h' hp' => S.ss h' hp' ⟨fx.st, fx.fr⟩ h1) h2 (by show X.env.scope.names.lookup _ = _; rw [h.sc]; exact c1) c2 c3 c4 s1 lx fx1 c5 c6 (fun _ => rfl) (evalH_some c7)
      · cases k
    · cases k
  · split at k
    · rename_i mb l h1 h2
      cases k
      exact ss_tryN h fx (fun W' pn xe h' hp' => S.ss h' hp' ⟨fx.st, fx.fr⟩ h1) h2
    · cases k
  · cases k
end
end PV
set_option Elab.async false
set_option linter.all false
set_option maxRecDepth 100000
set_option maxHeartbeats 4000000
/-! PV24: the table of a text's defs grows, def by def. -/
namespace PV
open PySem L2 PySem.Spec PyProof.Rows

theorem soundS : ∀ n, SoundS n
  | 0 => by
    constructor
    all_goals (intros; rename_i k; first | (unfold cS at k; cases k) | (unfold cSs at k; cases k))
  | n + 1 => ⟨fun h hp fx k => sound_s (soundS n) h hp fx k, fun h hp fx k => sound_ss (soundS n) h hp fx k⟩

/-- a class of errors with one field, whatever the table -/
structure XFdK (P : Program) (K : PySem.W.Frag) (mg : Str → Option Value) (c : Cn) (x fl : Str) : Prop where
  at_ : ∃ C fI fd, mg x = some (.ref C) ∧ c.fa x = some C ∧ OexC K C ∧ PySem.W.findIn K (.ref C) "__init__" = some (some (.ref fI)) ∧ PySem.W.typeIn K (.ref fI) = some (.type "function") ∧ Binds K fd ["self", fl] [] ∧
    ∀ (w : World) (base : Heap), FnOk P w K mg base (L2.CX P w) 1 fI fd ["self", fl] (spSup C fl)
structure Top (P : Program) (K : PySem.W.Frag) (mg : Str → Option Value) (c : Cn) (nums : List (Str × Int)) (cls : List Str) : Prop where
  md : MdOk K c.Md
  bi : ∀ x, biNames.elem x = true → mg x = none
  nums : ∀ x n, nums.lookup x = some n → ∃ t, mg x = some (.int n t)
  xcs : XCs K mg c cls
  xfd : ∀ x fl, cls.elem x = true → x ≠ "Model" → fldOf x = [fl] → XFdK P K mg c x fl
  cls : cls.elem ("Model" : Str) = true → mg ("Model" : Str) = some (.ref c.Md)
structure TabOk (P : Program) (w : World) (K : PySem.W.Frag) (mg : Str → Option Value) (base : Heap) (c : Cn) (lvl : Nat) (tab : List (Str × Entry)) : Prop where
  at_ : ∀ x en, tab.lookup x = some en → ∃ k fa fd ps, k ≤ lvl ∧ FnOk P w K mg base (L2.CX P w) k fa fd ps (spOf c en.n en.f) ∧ mg x = some (.ref fa) ∧ PySem.W.keepIn K (.ref fa) = true ∧ Binds K fd ps [] ∧ c.fa x = some fa
structure PrOk (P : Program) (w : World) (K : PySem.W.Frag) (mg : Str → Option Value) (base : Heap) (c : Cn) (lvl : Nat) (props : List (Str × SemF)) : Prop where
  at_ : ∀ x f, props.lookup x = some f → ∃ k fa fd ps pa, k + 1 ≤ lvl ∧ PrIs K c.Md x pa fa ∧ FnOk P w K mg base (L2.CX P w) k fa fd ps (spOf c (prN x) f) ∧ Binds K fd ps []
structure MkOk (P : Program) (w : World) (K : PySem.W.Frag) (mg : Str → Option Value) (base : Heap) (c : Cn) (lvl : Nat) (mk : Option SemF) : Prop where
  at_ : ∀ f, mk = some f → ∃ k fa fd ps, k + 1 ≤ lvl ∧ Mk K c.Md fa ∧ FnOk P w K mg base (L2.CX P w) k fa fd ps (spMk c f) ∧ Binds K fd ps []
section
variable {P : Program} {w : World} {K : PySem.W.Frag} {mg : Str → Option Value} {base : Heap} {c : Cn} {lvl : Nat} {mk : Option SemF} {tab : List (Str × Entry)} {props : List (Str × SemF)} {nums : List (Str × Int)} {cls : List Str}
/-- a def's own names -/
def gOf (N : List Str) (sc : Scope) (tab : List (Str × Entry)) (nums : List (Str × Int)) (props : List (Str × SemF)) (cls : List Str) (nest : List Nat) (mk : Option SemF := none) (xf : Bool := false) : G := ⟨N, sc, tab, nums, props, cls, nest, mk, fun _ => true, xf⟩
theorem gx_of (T : Top P K mg c nums cls) (t : TabOk P w K mg base c lvl tab) (pr : PrOk P w K mg base c lvl props) (mo : MkOk P w K mg base c lvl mk) {N ps : List Str} {sc : Scope} (S : FnScope N ps sc) {nest : List Nat} {qual : Str} {f : Addr} {cdv : Value} {A : Around} {outer : List PySem.Env} {s : Shared} {H : Hp} {E : XK}
    {xf : Bool} (hr : Room lvl (A.deeper (envOfC qual sc s.heap.objs.size f cdv))) (hx : xf = true → 2 ≤ lvl := by (intro h; cases h)) : GX (cxOf (L2.CX P w) P w K mg base N qual sc f cdv A outer s H E) c (fnW E) (gOf N sc tab nums props cls nest mk xf) where
  hN := rfl
  nd := S.nd
  sc := rfl
  kind := S.kind
  calm := rfl
  hu := by have := hr.un; show (A.deeper _).units + 65 < cLine; omega
  tk := takes_of rfl rfl rfl rfl
  md := T.md
  bi := T.bi
  nums := T.nums
  tab := fun x en h => by
    obtain ⟨k, fa, fd, ps, hk, G1, hm, kp, hb, hf⟩ := t.at_ x en h
    exact ⟨k, fa, fd, ps, G1, hr.mono hk, hm, kp, hb, hf⟩
  props := fun x f h => by
    obtain ⟨k, fa, fd, ps, pa, hk, hp, G1, hb⟩ := pr.at_ x f h
    exact ⟨k, fa, fd, ps, pa, hp, G1, hr.mono hk, hb⟩
  cls := T.cls
  xcs := T.xcs
  maker := fun f h => by
    obtain ⟨k, fa, fd, ps, hk, M, G1, hb⟩ := mo.at_ f h
    exact ⟨k, fa, fd, ps, M, G1, hr.mono hk, hb⟩
  cells := fun _ _ => rfl
  xfd := fun hf x fl hx1 hn hfl => by
    obtain ⟨C, fI, fd, h1, h2, h3, h4, h5, h6, h7⟩ := (T.xfd x fl hx1 hn hfl).at_
    exact ⟨1, C, fI, fd, fl, hfl, h1, h2, h3, h4, h5, h7 w base, hr.mono (hx hf), h6⟩
/-- a def of the text -/
theorem def_ok (T : Top P K mg c nums cls) (t : TabOk P w K mg base c lvl tab) (pr : PrOk P w K mg base c lvl props) (mo : MkOk P w K mg base c lvl mk) {x qual : Str} {st : Stmt} {f : Addr} {fd : FuncData} {N ps : List Str} {n fuel : Nat} {nest : List Nat} {mv : List (Nat × Nat)} {m : S} (F : Fun K x qual st f fd) (Sc : FnScope N ps (defScope st)) (hn : ps.length = n)
    {xf : Bool} (hc : cSs fuel (gOf N (defScope st) tab nums props cls nest mk xf) mv (defBody st) = some m) (hx : xf = true → 2 ≤ lvl := by (intro h; cases h)) : FnOk P w K mg base (L2.CX P w) (lvl + 1) f fd ps (spOf c n (runFn N.length m)) :=
  fn_ok F Sc hn fun cdv A outer s H E hr => (soundS fuel).ss (gx_of T t pr mo Sc hr hx) (passes_of rfl) ⟨rfl, rfl⟩ hc
theorem TabOk.nil : TabOk P w K mg base c lvl [] := ⟨fun _ _ h => by cases h⟩
theorem TabOk.up (t : TabOk P w K mg base c lvl tab) : TabOk P w K mg base c (lvl + 1) tab := ⟨fun x en h => by
  obtain ⟨k, fa, fd, ps, hk, r⟩ := t.at_ x en h
  exact ⟨k, fa, fd, ps, by omega, r⟩⟩
theorem MkOk.nil : MkOk P w K mg base c lvl none := ⟨fun _ h => by cases h⟩
theorem MkOk.up (t : MkOk P w K mg base c lvl mk) : MkOk P w K mg base c (lvl + 1) mk := ⟨fun f h => by
  obtain ⟨k, fa, fd, ps, hk, r⟩ := t.at_ f h
  exact ⟨k, fa, fd, ps, by omega, r⟩⟩
theorem PrOk.nil : PrOk P w K mg base c lvl [] := ⟨fun _ _ h => by cases h⟩
theorem PrOk.up (t : PrOk P w K mg base c lvl props) : PrOk P w K mg base c (lvl + 1) props := ⟨fun x en h => by
  obtain ⟨k, fa, fd, ps, pa, hk, r⟩ := t.at_ x en h
  exact ⟨k, fa, fd, ps, pa, by omega, r⟩⟩
theorem TabOk.cons (t : TabOk P w K mg base c lvl tab) {x : Str} {n : Nat} {f : SemF} {fa : Addr} {fd : FuncData} {ps : List Str} (G1 : FnOk P w K mg base (L2.CX P w) (lvl + 1) fa fd ps (spOf c n f)) (hm : mg x = some (.ref fa)) (hk : PySem.W.keepIn K (.ref fa) = true) (hb : Binds K fd ps []) (hf : c.fa x = some fa) :
    TabOk P w K mg base c (lvl + 1) ((x, ⟨n, f⟩) :: tab) := ⟨fun y en h => by
  rw [List.lookup_cons] at h
  split at h
  · rename_i e
    have ey : y = x := eq_of_beq e
    subst ey
    cases h
    exact ⟨lvl + 1, fa, fd, ps, Nat.le_refl _, G1, hm, hk, hb, hf⟩
  · exact t.up.at_ y en h⟩
theorem PrOk.cons (t : PrOk P w K mg base c (lvl + 1) props) {x : Str} {f : SemF} {fa pa : Addr} {fd : FuncData} {ps : List Str} (hp : PrIs K c.Md x pa fa) (G1 : FnOk P w K mg base (L2.CX P w) lvl fa fd ps (spOf c (prN x) f)) (hb : Binds K fd ps []) :
    PrOk P w K mg base c (lvl + 1) ((x, f) :: props) := ⟨fun y en h => by
  rw [List.lookup_cons] at h
  split at h
  · rename_i e
    have ey : y = x := eq_of_beq e
    subst ey
    cases h
    exact ⟨lvl, fa, fd, ps, pa, Nat.le_refl _, hp, G1, hb⟩
  · exact t.at_ y en h⟩
end
end PV
set_option Elab.async false
set_option linter.all false
set_option maxRecDepth 100000
set_option maxHeartbeats 4000000
/-! PV25: the source of draws: what _law_next does. -/
namespace PV
open PySem L2 PySem.Spec PyProof.Rows

def bigCell : Int := 1000000000000000000
/-- the cell that is looked at -/
def Rng.at (g : Rng) : Int := (g.cells ++ [0]).getD (g.ix.fmod (max 1 (g.cells.length : Int))).toNat 0
def Rng.spot (g : Rng) : Nat := (g.ix.fmod (g.cells.length : Int)).toNat
def Rng.turn (g : Rng) : Int := (g.st * 48271 + g.at * 69621 + 11).fmod 2147483647
def Rng.next (g : Rng) (cap : Int) : Int × Rng :=
  if bigCell ≤ g.at then (g.at.fmod cap, { g with cells := g.cells.set g.spot (g.at.fdiv cap) })
  else ((g.turn.fdiv 7).fmod cap, ⟨g.turn, g.cells, g.ix + 1⟩)
def nextF : SemF := fun ds g => match ds with
  | [.hnd, .int cap] => if 0 < cap ∧ cap < 2 ^ 60 ∧ g.cells.length ≤ 1000 then .ok (.dat (.int (g.next cap).1)) (g.next cap).2 else .stuck
  | _ => .stuck

theorem ix_nat {n j : Nat} (hj : j < n) : ixN n (j : Int) = some j := by
  unfold ixN
  rw [if_pos (by omega), if_pos (by omega)]
  simp
theorem fmod_nat (i : Int) {n : Nat} (h : 0 < n) : ∃ j : Nat, j < n ∧ i.fmod (n : Int) = (j : Int) := by
  have h0 : 0 ≤ i.fmod (n : Int) := Int.fmod_nonneg_of_pos _ (by omega)
  have h1 : i.fmod (n : Int) < n := Int.fmod_lt_of_pos _ (by omega)
  exact ⟨(i.fmod (n : Int)).toNat, by omega, by omega⟩
theorem max_nat (n : Nat) : ∃ m : Nat, 0 < m ∧ m ≤ n + 1 ∧ (max 1 (n : Int)) = (m : Int) ∧ (0 < n → m = n) ∧ (n = 0 → m = 1) := by
  by_cases h : 0 < n
  · exact ⟨n, h, by omega, by omega, fun _ => rfl, by omega⟩
  · exact ⟨1, by omega, by omega, by omega, fun z => absurd z h, fun _ => rfl⟩
theorem Rng.at_val (g : Rng) : atI (g.cells.map V.int ++ [V.int 0]) (g.ix.fmod (max 1 (g.cells.length : Int))) = some (V.int g.at) := by
  obtain ⟨m, h1, h2, h3, _, _⟩ := max_nat g.cells.length
  obtain ⟨j, hj, ej⟩ := fmod_nat g.ix h1
  unfold Rng.at
  rw [h3, ej]
  have e : g.cells.map V.int ++ [V.int 0] = (g.cells ++ [0]).map V.int := by simp
  have hl : j < (g.cells ++ [0]).length := by simp; omega
  rw [e]
  unfold atI
  rw [List.length_map, ix_nat hl]
  show ((g.cells ++ [0]).map V.int)[j]? = _
  rw [List.getElem?_map, Int.toNat_natCast, List.getD_eq_getElem?_getD, List.getElem?_eq_getElem hl]
  rfl
theorem Rng.at_nil {g : Rng} (h : g.cells = []) : g.at = 0 := by
  unfold Rng.at
  rw [h]
  have : (g.ix.fmod (max 1 (([] : List Int).length : Int))).toNat = 0 := by
    obtain ⟨j, hj, ej⟩ := fmod_nat g.ix (n := 1) (by omega)
    show (g.ix.fmod (max 1 ((0 : Nat) : Int))).toNat = 0
    rw [show max (1 : Int) ((0 : Nat) : Int) = ((1 : Nat) : Int) by omega, ej]
    omega
  rw [this]; rfl
theorem Rng.spot_val {g : Rng} (h : bigCell ≤ g.at) : (g.cells.length : Int) ≠ 0 ∧ ixN g.cells.length (g.ix.fmod (g.cells.length : Int)) = some g.spot := by
  have hn : g.cells ≠ [] := fun z => by
    rw [Rng.at_nil z] at h
    exact absurd h (by decide)
  have hp : 0 < g.cells.length := List.length_pos_iff.mpr hn
  refine ⟨by omega, ?_⟩
  obtain ⟨j, hj, ej⟩ := fmod_nat g.ix hp
  unfold Rng.spot
  rw [ej, ix_nat hj, Int.toNat_natCast]
end PV
set_option Elab.async false
set_option linter.all false
set_option maxRecDepth 100000
set_option maxHeartbeats 4000000
/-! PV27: the promise of __init__ from its text. -/
namespace PV
open PySem L2 PySem.Spec PyProof.Rows

section
variable {P : Program} {w : World} {K : PySem.W.Frag} {mg : Str → Option Value} {base : Heap} {c : Cn} {lvl : Nat} {tab : List (Str × Entry)} {props : List (Str × SemF)} {nums : List (Str × Int)} {cls : List Str}
theorem Top.self (T : Top P K mg c nums cls) (x : Addr) : Top P K mg (c.self x) nums cls := ⟨T.md, T.bi, T.nums, T.xcs.self x, fun y fl hy hn hf => by
  obtain ⟨C, fI, fd, h1, h2, r⟩ := (T.xfd y fl hy hn hf).at_
  exact ⟨C, fI, fd, h1, by
    show (if y = ("self" : Str) then some x else c.fa y) = some C
    rw [if_neg (T.xcs.at_ y hy hn).1]
    exact h2, r⟩, T.cls⟩
theorem init_ok (T : Top P K mg c nums cls) (tb : ∀ x, TabOk P w K mg base (c.self x) lvl tab) (pr : ∀ x, PrOk P w K mg base (c.self x) lvl props) {qual : Str} {st : Stmt} {f : Addr} {fd : FuncData} {N : List Str} {fuel : Nat} {nest : List Nat} {mv : List (Nat × Nat)} {s1 s2 : Stmt} {a b : S} {xf : Bool} {p1 p2 p3 p4 : Pos}
    (F : Fun K "__init__" qual st f fd) (Sc : FnScope N ["self", "tables"] (defScope st)) (hbody : defBody st = [s1, s2, .Assign [.Attribute (.Name "self" p1) "rows" p2] (.Name "tables" p3) p4]) (hN0 : N[0]? = some ("self" : Str)) (hN1 : N[1]? = some ("tables" : Str)) (v0 : Vis (defScope st) "self") (v1 : Vis (defScope st) "tables")
    (h1 : cS fuel (gOf N (defScope st) tab nums props cls nest none xf) mv s1 = some a) (h2 : cS fuel (gOf N (defScope st) tab nums props cls nest none xf) mv s2 = some b) (hxf : xf = true → 2 ≤ lvl := by (intro h; cases h)) : FnOk P w K mg base (L2.CX P w) (lvl + 1) f fd ["self", "tables"] (spMk c (runInit N.length (sSeq a b))) := by
  refine F.okX Sc (fun vs H Q E h => by obtain ⟨x, dx, v, _, _, _, rfl, _⟩ := h; rfl) (fun cdv A outer s H vs Q E hr h => ?_)
  obtain ⟨x, dx, v, F0, d, g, rfl, hx, hF, nL, nC, B, r, hp, q⟩ := h
  have GXs := gx_of (T.self x) (tb x) (pr x) MkOk.nil Sc (nest := nest) (qual := qual) (f := f) (cdv := cdv) (A := A) (outer := outer) (s := s) (H := H) (E := E) hr hxf
  have S1 := (soundS fuel).s GXs (passes_of rfl) ⟨rfl, rfl⟩ h1 F0 H F0
  have S2 := (soundS fuel).s GXs (passes_of rfl) ⟨rfl, rfl⟩ h2 F0 H F0
  have r' : Rep (c.self x) F0 v d := Rep.plTo (c := c) (c' := c.self x) rfl hp r
  have rs : Reps (c.self x) F0 [.ref x, v] [.fn "self", d] := .cons (.fn (show (if ("self" : Str) = "self" then some x else c.fa "self") = some x from if_pos rfl)) (.cons r' .nil)
  have i0 : PE (cxOf (L2.CX P w) P w K mg base N qual (defScope st) f cdv A outer s H E) (.Name "self" p1) (tVar 0) := pe_var hN0 v0 (by decide) (by decide)
  have i1 : PE (cxOf (L2.CX P w) P w K mg base N qual (defScope st) f cdv A outer s H E) (.Name "tables" p3) (tVar 1) := pe_var hN1 v1 (by decide) (by decide)
  have S3 := ps_fld (f := ("rows" : Str)) (pos' := p2) (pos := p4) i0 i1 (no_comp rfl)
  rw [hbody]
  refine ⟨_, pss_cons S1 (pss_cons S2 (pss_one S3)), ?_⟩
  refine ⟨F0, noT, envOf N.length [.fn "self", d], g, rel_start B.self rs, Old.refl B.self, ?_⟩
  unfold runInit at q
  have eenv : (some (.dat (.fn "self")) :: ([d].map (fun d => some (SV.dat d)) ++ List.replicate (N.length - ([d].length + 1)) none) : Env) = envOf N.length [.fn "self", d] := rfl
  rw [eenv] at q
  unfold sSeq mBind at q
  cases ha : a (envOf N.length [.fn "self", d]) g with
  | stuck => rw [ha] at q; exact q
  | exc ex e1 g1 =>
    rw [ha] at q
    obtain ⟨hpl, q⟩ := q
    exact fun cls dd σ F' T' H' R' O' xr => q cls dd F' H' R'.base.unself O'.x.unself (xr.unself hpl)
  | ok r1 e1 g1 =>
    rw [ha] at q
    cases r1 with
    | some sv => exact (show False from q).elim
    | none =>
      refine fun σ1 F1 T1 H1 R1 O1 => ⟨F1, T1, e1, g1, R1, O1, ?_⟩
      have q : (match (match b e1 g1 with
        | .ok none e g' => (match e with
          | some (.dat (.fn x)) :: some (.dat d) :: _ => if x = ("self" : Str) then FRes.ok (.dat d) g' else .stuck
          | _ => .stuck)
        | .exc x _ g' => .exc x g'
        | _ => .stuck) with
        | .ok (.dat d') g' => d'.pl = true ∧ ∀ v' F' H', Base c F' g' H' → ExtF c F0 H F' H' → F' x = none → H' x = some (.ins c.Md dx []) → Rep c F' v' d' → Q .non (upd H' x (.ins c.Md dx [("rows", v')]))
        | .exc e g' => e.pl = true ∧ ∀ cls dd F' H', Base c F' g' H' → ExtF c F0 H F' H' → XRep c F' H' e cls dd → E cls dd H'
        | _ => False) := q
      cases hb : b e1 g1 with
      | stuck => rw [hb] at q; exact q
      | exc ex e2 g2 =>
        rw [hb] at q
        obtain ⟨hpl, q⟩ := q
        exact fun cls dd σ F' T' H' R' O' xr => q cls dd F' H' R'.base.unself O'.x.unself (xr.unself hpl)
      | ok r2 e2 g2 =>
        rw [hb] at q
        cases r2 with
        | some sv => exact (show False from q).elim
        | none =>
          refine fun σ2 F2 T2 H2 R2 O2 => ?_
          dsimp only at q
          match e2, R2, q with
          | some (.dat (.fn z)) :: some (.dat d') :: rest, R2, q =>
            dsimp only at q
            by_cases hz : z = ("self" : Str)
            · rw [if_pos hz] at q
              subst hz
              obtain ⟨hp2, q⟩ := q
              obtain ⟨w0, k0, r0⟩ := R2.slot 0 _ rfl
              obtain ⟨w1, k1, r1'⟩ := R2.slot 1 _ rfl
              have r0 : Rep (c.self x) F2 w0 (.fn "self") := r0
              have r1' : Rep (c.self x) F2 w1 d' := r1'
              have ew : w0 = .ref x := by
                cases r0 with
                | fn hh =>
                  have hh : (if ("self" : Str) = "self" then some x else c.fa "self") = some _ := hh
                  rw [if_pos rfl] at hh
                  cases hh; rfl
              subst ew
              have hx2 : H2 x = some (.ins c.Md dx []) := O2.x.h x _ nL nC hx
              have hF2 : F2 x = none := by
                cases hq : F2 x with
                | none => rfl
                | some o =>
                  rcases O2.x.g x o hq with z | z
                  · rw [hF] at z; cases z
                  · rw [hx] at z; cases z
              refine ⟨w1, k1, .ref x, k0, x, c.Md, dx, [], rfl, hx2, T.md.cls, T.md.rows, by decide, ?_⟩
              exact q w1 F2 H2 R2.base.unself O2.x.unself hF2 hx2 (r1'.plTo (c := c.self x) (c' := c) rfl hp2)
            · rw [if_neg hz] at q
              exact q.elim
end
end PV
set_option Elab.async false
set_option linter.all false
set_option maxRecDepth 100000
set_option maxHeartbeats 4000000
/-! PW1: running combinators: what must hold so that a combinator ends well with a wish. Plain Lean. -/
namespace PV
open PySem L2

def Wp {α : Type} (r : Res α) (Q : α → Env → Rng → Prop) : Prop := match r with
  | .ok a e g => Q a e g
  | _ => False
def WO {α : Type} (o : Option α) (k : α → Prop) : Prop := match o with
  | some a => k a
  | none => False
def WF (r : FRes) (k : SV → Rng → Prop) : Prop := match r with
  | .ok a g => k a g
  | _ => False
def onV (o : Option (Option SV)) (k : SV → Prop) : Prop := match o with
  | some (some sv) => k sv
  | _ => False
section
variable {α β : Type} {Q Q' : α → Env → Rng → Prop} {e : Env} {g : Rng}
theorem Wp.imp {r : Res α} (h : Wp r Q) (k : ∀ a e g, Q a e g → Q' a e g) : Wp r Q' := by
  cases r with
  | ok a e g => exact k a e g h
  | exc x e g => exact h
  | stuck => exact h
theorem WF.imp {r : FRes} {k k' : SV → Rng → Prop} (h : WF r k) (i : ∀ a g, k a g → k' a g) : WF r k' := by
  cases r with
  | ok a g => exact i a g h
  | exc x g => exact h
  | stuck => exact h
theorem wp_ok (a : α) : Wp (.ok a e g) Q = Q a e g := rfl
theorem wo_some (a : α) {k : α → Prop} : WO (some a) k = k a := rfl
theorem wf_ok (a : SV) {k : SV → Rng → Prop} : WF (.ok a g) k = k a g := rfl
theorem onV_some (sv : SV) {k : SV → Prop} : onV (some (some sv)) k = k sv := rfl
theorem wp_bind {m : M β} {f : β → M α} : Wp (mBind m f e g) Q = Wp (m e g) fun a e g => Wp (f a e g) Q := by
  unfold mBind
  cases m e g <;> rfl
theorem wp_ret {a : α} : Wp (mRet a e g) Q = Q a e g := rfl
theorem wp_opt {o : Option α} : Wp (mOpt o e g) Q = WO o fun a => Q a e g := by cases o <;> rfl
theorem Wp.eq {r : Res α} {a : α} {e : Env} {g : Rng} (h : Wp r fun b e' g' => b = a ∧ e' = e ∧ g' = g) : r = .ok a e g := by
  cases r with
  | ok b e' g' => obtain ⟨rfl, rfl, rfl⟩ := h; rfl
  | exc x e g => exact h.elim
  | stuck => exact h.elim
theorem WF.eq {r : FRes} {a : SV} {g : Rng} (h : WF r fun b g' => b = a ∧ g' = g) : r = .ok a g := by
  cases r with
  | ok b g' => obtain ⟨rfl, rfl⟩ := h; rfl
  | exc x g => exact h.elim
  | stuck => exact h.elim
end
section
variable {Q : SV → Env → Rng → Prop} {QD : D → Env → Rng → Prop} {QB : Bool → Env → Rng → Prop} {QL : List D → Env → Rng → Prop} {QS : Option SV → Env → Rng → Prop} {QI : Int → Env → Rng → Prop} {e : Env} {g : Rng}
theorem wp_varP {i : Nat} : Wp (mVarP i e g) Q = onV e[i]? fun sv => Q sv e g := by
  unfold mVarP onV
  cases e[i]? with
  | none => rfl
  | some o => cases o <;> rfl
theorem wp_varM {i : Nat} : Wp (mVarM i e g) Q = onV e[i]? fun sv => Q sv e g := wp_varP
def frzK (i : Nat) (e : Env) (g : Rng) (Q : SV → Env → Rng → Prop) : SV → Prop
  | .dat d => Q (.dat d) e g
  | .own ds => Q (.dat (.lst ds)) (e.set i (some (.dat (.lst ds)))) g
  | .owns dss => Q (.dat (.lst (dss.map .lst))) (e.set i (some (.dat (.lst (dss.map .lst))))) g
  | _ => False
theorem wp_varF {i : Nat} : Wp (mVarF i e g) Q = onV e[i]? (frzK i e g Q) := by
  unfold mVarF onV
  cases e[i]? with
  | none => rfl
  | some o =>
    cases o with
    | none => rfl
    | some sv => cases sv <;> rfl
theorem frzK_dat {i : Nat} {d : D} : frzK i e g Q (.dat d) = Q (.dat d) e g := rfl
theorem frzK_own {i : Nat} {ds : List D} : frzK i e g Q (.own ds) = Q (.dat (.lst ds)) (e.set i (some (.dat (.lst ds)))) g := rfl
theorem frzK_owns {i : Nat} {dss : List (List D)} : frzK i e g Q (.owns dss) = Q (.dat (.lst (dss.map .lst))) (e.set i (some (.dat (.lst (dss.map .lst))))) g := rfl
def varRK (e : Env) (g : Rng) (Q : SV → Env → Rng → Prop) : SV → Prop := fun sv => Q sv e g
theorem wp_c {d : D} : Wp (mC d e g) Q = Q (.dat d) e g := rfl
theorem wp_frz {m : M SV} : Wp (mFrz m e g) QD = Wp (m e g) fun sv e g => WO sv.frz fun d => QD d e g := by
  unfold mFrz
  rw [wp_bind]
  congr; funext a e g; exact wp_opt
theorem wo_frz_dat {d : D} {k : D → Prop} : WO (SV.frz (.dat d)) k = k d := rfl
theorem wo_frz_own {ds : List D} {k : D → Prop} : WO (SV.frz (.own ds)) k = k (.lst ds) := rfl
theorem wp_all_nil {α : Type} {Q : List α → Env → Rng → Prop} : Wp (mAll ([] : List (M α)) e g) Q = Q [] e g := rfl
theorem wp_all_cons {α : Type} {m : M α} {ms : List (M α)} {Q : List α → Env → Rng → Prop} : Wp (mAll (m :: ms) e g) Q = Wp (m e g) fun a e g => Wp (mAll ms e g) fun as e g => Q (a :: as) e g := by
  show Wp (mBind m (fun a => mBind (mAll ms) fun as => mRet (a :: as)) e g) Q = _
  rw [wp_bind]
  congr; funext a e g
  rw [wp_bind]; rfl
theorem wp_bin {o : Op} {a b : M SV} : Wp (mBin o a b e g) Q = Wp (a e g) fun x e g => Wp (b e g) fun y e g => WO (opBin o x y) fun z => Q z e g := by
  unfold mBin
  rw [wp_bind]
  congr; funext a e g
  rw [wp_bind]
  congr; funext a e g
  exact wp_opt
theorem wp_cmp {o : Cmp} {a b : M SV} : Wp (mCmp o a b e g) QB = Wp (a e g) fun x e g => Wp (b e g) fun y e g => WO (opCmp o x y) fun z => QB z e g := by
  unfold mCmp
  rw [wp_bind]
  congr; funext a e g
  rw [wp_bind]
  congr; funext a e g
  exact wp_opt
theorem wp_chain {o1 o2 : Cmp} {a b c : M SV} : Wp (mChain o1 o2 a b c e g) QB = Wp (a e g) fun x e g => Wp (b e g) fun y e g => WO (opCmp o1 x y) fun k => (k = true → Wp (c e g) fun z e g => WO (opCmp o2 y z) fun r => QB r e g) ∧ (k = false → QB false e g) := by
  unfold mChain
  rw [wp_bind]
  congr; funext x e g
  rw [wp_bind]
  congr; funext y e g
  rw [wp_bind, wp_opt]
  congr; funext k
  cases k with
  | true =>
    simp only [if_true, true_implies, Bool.true_eq_false, false_implies, and_true]
    rw [wp_bind]
    congr; funext z e g
    exact wp_opt
  | false => simp [wp_ret]
theorem wp_not {a : M Bool} : Wp (mNot a e g) QB = Wp (a e g) fun b e g => QB (!b) e g := by
  unfold mNot
  rw [wp_bind]; rfl
def ifK {α : Type} (a b : M α) (Q : α → Env → Rng → Prop) (x : Bool) (e : Env) (g : Rng) : Prop := (x = true → Wp (a e g) Q) ∧ (x = false → Wp (b e g) Q)
theorem wp_if {α : Type} {c : M Bool} {a b : M α} {Q : α → Env → Rng → Prop} : Wp (mIf c a b e g) Q = Wp (c e g) (ifK a b Q) := by
  unfold mIf
  rw [wp_bind]
  congr; funext x e g
  cases x <;> simp [ifK]
theorem wp_sIf {c : M Bool} {a b : S} : Wp (sIf c a b e g) QS = Wp (c e g) (ifK a b QS) := by
  unfold sIf
  rw [wp_bind]
  congr; funext x e g
  cases x <;> simp [ifK]
theorem ifK_true {α : Type} {a b : M α} {Q : α → Env → Rng → Prop} : ifK a b Q true e g = Wp (a e g) Q := by simp [ifK]
theorem ifK_false {α : Type} {a b : M α} {Q : α → Env → Rng → Prop} : ifK a b Q false e g = Wp (b e g) Q := by simp [ifK]
theorem ifK_dec {α : Type} {a b : M α} {Q : α → Env → Rng → Prop} {p : Prop} [Decidable p] : ifK a b Q (decide p) e g = ((p → Wp (a e g) Q) ∧ (¬ p → Wp (b e g) Q)) := by simp [ifK]
theorem ifK_ndec {α : Type} {a b : M α} {Q : α → Env → Rng → Prop} {p : Prop} [Decidable p] : ifK a b Q (!decide p) e g = ((p → Wp (b e g) Q) ∧ (¬ p → Wp (a e g) Q)) := by
  by_cases h : p <;> simp [ifK, h]
theorem wp_and {a b : M Bool} : Wp (mAnd a b e g) QB = Wp (a e g) (ifK b (mRet false) QB) := by
  unfold mAnd
  rw [wp_bind]
  congr; funext x e g
  cases x <;> simp [ifK]
theorem wp_or {a b : M Bool} : Wp (mOr a b e g) QB = Wp (a e g) (ifK (mRet true) b QB) := by
  unfold mOr
  rw [wp_bind]
  congr; funext x e g
  cases x <;> simp [ifK]
theorem wp_b {a : M Bool} : Wp (mB a e g) Q = Wp (a e g) fun b e g => Q (.dat (.bl b)) e g := by
  unfold mB
  rw [wp_bind]; rfl
def isB : SV → Option Bool
  | .dat (.bl b) => some b
  | _ => none
theorem wp_t {a : M SV} : Wp (mT a e g) QB = Wp (a e g) fun x e g => WO (isB x) fun b => QB b e g := by
  unfold mT
  rw [wp_bind]
  congr; funext x e g
  cases x with
  | dat d => cases d <;> rfl
  | _ => rfl
theorem wo_isB {b : Bool} {k : Bool → Prop} : WO (isB (.dat (.bl b))) k = k b := rfl
theorem wp_neg {a : M SV} : Wp (mNeg a e g) Q = Wp (a e g) fun x e g => WO x.int fun i => Q (.dat (.int (-i))) e g := by
  unfold mNeg
  rw [wp_bind]
  congr; funext x e g
  cases x with
  | dat d => cases d <;> rfl
  | _ => rfl
theorem wo_int {i : Int} {k : Int → Prop} : WO (SV.int (.dat (.int i))) k = k i := rfl
theorem wp_tup {ms : List (M D)} : Wp (mTup ms e g) Q = Wp (mAll ms e g) fun ds e g => ds.length ≤ line ∧ Q (.dat (.tup ds)) e g := by
  unfold mTup
  rw [wp_bind]
  congr; funext ds e g
  by_cases h : ds.length ≤ line
  · simp only [if_pos h, h, true_and]; rfl
  · simp only [if_neg h, h, false_and]; rfl
theorem wp_lst {ms : List (M D)} : Wp (mLst ms e g) Q = Wp (mAll ms e g) fun ds e g => ds.length ≤ line ∧ Q (.own ds) e g := by
  unfold mLst
  rw [wp_bind]
  congr; funext ds e g
  by_cases h : ds.length ≤ line
  · simp only [if_pos h, h, true_and]; rfl
  · simp only [if_neg h, h, false_and]; rfl
theorem wp_idx {a i : M SV} : Wp (mIdx a i e g) Q = Wp (a e g) fun x e g => Wp (i e g) fun y e g => WO (opIdx x y) fun z => Q z e g := by
  unfold mIdx
  rw [wp_bind]
  congr; funext x e g
  rw [wp_bind]
  congr; funext y e g
  exact wp_opt
/-- the row of a list of lists, or an item -/
def opRow (sv y : SV) : Option SV := match sv with
  | .owns dss => match y with
    | .dat (.int k) => (ixAt dss.length k).bind fun j => (dss[j]?).map .own
    | _ => none
  | sv => opIdx sv y
theorem wp_rowP {x : Nat} {i : M SV} : Wp (mRowP x i e g) Q = onV e[x]? fun _ => Wp (i e g) fun y e g => onV e[x]? fun sv => WO (opRow sv y) fun z => Q z e g := by
  unfold mRowP
  rw [wp_bind, wp_varP]
  congr; funext _
  rw [wp_bind]
  congr; funext y e g
  rw [wp_bind, wp_varP]
  congr; funext sv
  unfold opRow
  cases sv with
  | owns dss =>
    cases y with
    | dat d => cases d <;> first | exact wp_opt | rfl
    | _ => rfl
  | _ => exact wp_opt
theorem wp_part_none {Q : Option Int → Env → Rng → Prop} : Wp (mPart none e g) Q = Q none e g := rfl
theorem wp_part_some {m : M SV} {Q : Option Int → Env → Rng → Prop} : Wp (mPart (some m) e g) Q = Wp (m e g) fun x e g => WO x.int fun i => Q (some i) e g := by
  show Wp (mBind m _ e g) Q = _
  rw [wp_bind]
  congr; funext x e g
  cases x with
  | dat d => cases d <;> rfl
  | _ => rfl
theorem wp_slice {a : M SV} {lo hi : Option (M SV)} : Wp (mSlice a lo hi e g) Q = Wp (a e g) fun x e g => Wp (mPart lo e g) fun l e g => Wp (mPart hi e g) fun h e g => WO (opSlice x l h) fun z => Q z e g := by
  unfold mSlice
  rw [wp_bind]
  congr; funext x e g
  rw [wp_bind]
  congr; funext l e g
  rw [wp_bind]
  congr; funext h e g
  exact wp_opt
/-! sources -/
def strItems : SV → Option (List D)
  | .dat (.str z) => if z.length ≤ line then some (z.cps.toList.map fun c => .str ⟨#[c]⟩) else none
  | x => x.seq
theorem wp_seq {m : M SV} : Wp ((Src.seq m).items e g) QL = Wp (m e g) fun x e g => WO (strItems x) fun ds => QL ds e g := by
  show Wp (mBind m _ e g) QL = _
  rw [wp_bind]
  congr; funext x e g
  cases x with
  | dat d =>
    cases d with
    | str z =>
      show Wp ((if z.length ≤ line then _ else _ : M (List D)) e g) QL = WO (if z.length ≤ line then _ else _) _
      split <;> rfl
    | _ => exact wp_opt
  | _ => exact wp_opt
theorem wo_strItems_lst {ds : List D} {k : List D → Prop} : WO (strItems (.dat (.lst ds))) k = k ds := rfl
theorem wo_strItems_tup {ds : List D} {k : List D → Prop} : WO (strItems (.dat (.tup ds))) k = k ds := rfl
theorem wo_strItems_own {ds : List D} {k : List D → Prop} : WO (strItems (.own ds)) k = k ds := rfl
theorem wo_seq_lst {ds : List D} {k : List D → Prop} : WO (SV.seq (.dat (.lst ds))) k = k ds := rfl
theorem wo_seq_tup {ds : List D} {k : List D → Prop} : WO (SV.seq (.dat (.tup ds))) k = k ds := rfl
theorem wo_seq_own {ds : List D} {k : List D → Prop} : WO (SV.seq (.own ds)) k = k ds := rfl
theorem wp_rng1 {b : M SV} : Wp ((Src.rng1 b).items e g) QL = Wp (b e g) fun y e g => WO (opRange (.dat (.int 0)) y) fun ds => QL ds e g := by
  show Wp (mBind b _ e g) QL = _
  rw [wp_bind]
  congr; funext x e g
  exact wp_opt
theorem wp_rng2 {a b : M SV} : Wp ((Src.rng2 a b).items e g) QL = Wp (a e g) fun x e g => Wp (b e g) fun y e g => WO (opRange x y) fun ds => QL ds e g := by
  show Wp (mBind a _ e g) QL = _
  rw [wp_bind]
  congr; funext x e g
  rw [wp_bind]
  congr; funext x e g
  exact wp_opt
theorem wp_enum {m : M SV} : Wp ((Src.enum m).items e g) QL = Wp (m e g) fun x e g => WO x.seq fun ds => QL (enumD 0 ds) e g := by
  show Wp (mBind m _ e g) QL = _
  rw [wp_bind]
  congr; funext x e g
  rw [wp_opt]
  cases x.seq <;> rfl
theorem wp_enumK {m : M SV} {k : Int} : Wp ((Src.enumFrom m k).items e g) QL = Wp (m e g) fun x e g => WO x.seq fun ds => QL (enumD k ds) e g := by
  show Wp (mBind m _ e g) QL = _
  rw [wp_bind]
  congr; funext x e g
  rw [wp_opt]
  cases x.seq <;> rfl
theorem wp_zip2 {a b : M SV} : Wp ((Src.zip2 a b).items e g) QL = Wp (a e g) fun x e g => Wp (b e g) fun y e g => WO x.seq fun xs => WO y.seq fun ys => QL (zipD2 xs ys) e g := by
  show Wp (mBind a _ e g) QL = _
  rw [wp_bind]
  congr; funext x e g
  rw [wp_bind]
  congr; funext y e g
  rw [wp_opt]
  cases x.seq with
  | none => rfl
  | some xs => cases y.seq <;> rfl
theorem wp_zip3 {a b c : M SV} : Wp ((Src.zip3 a b c).items e g) QL = Wp (a e g) fun x e g => Wp (b e g) fun y e g => Wp (c e g) fun z e g => WO x.seq fun xs => WO y.seq fun ys => WO z.seq fun zs => QL (zipD3 xs ys zs) e g := by
  show Wp (mBind a _ e g) QL = _
  rw [wp_bind]
  congr; funext x e g
  rw [wp_bind]
  congr; funext y e g
  rw [wp_bind]
  congr; funext z e g
  rw [wp_opt]
  cases x.seq with
  | none => rfl
  | some xs =>
    cases y.seq with
    | none => rfl
    | some ys => cases z.seq <;> rfl
/-! calls -/
theorem wp_call {n : Nat} {f : SemF} {ms : List (M D)} : Wp (mCall n f ms e g) Q = Wp (mAll ms e g) fun ds e g => ds.length = n ∧ WF (f ds g) fun sv g => Q sv e g := by
  unfold mCall
  rw [wp_bind]
  congr; funext ds e g
  by_cases h : ds.length = n
  · simp only [if_pos h, h, true_and]
    cases f ds g <;> rfl
  · simp only [if_neg h, h, false_and]; rfl
theorem wp_bn {b : Bn} {ms : List (M SV)} : Wp (mBn b ms e g) Q = Wp (mAll ms e g) fun xs e g => WO (opBn b xs) fun z => Q z e g := by
  unfold mBn
  rw [wp_bind]
  congr; funext xs e g
  exact wp_opt
theorem wp_isa {a : M SV} {ts : List Ty} : Wp (mIsa a ts e g) QB = Wp (a e g) fun x e g => WO x.kind fun d => QB (ts.any fun t => d.isa t) e g := by
  unfold mIsa
  rw [wp_bind]
  congr; funext x e g
  rw [wp_bind, wp_opt]; rfl
theorem wp_index {a : M SV} {x : M D} : Wp (mIndex a x e g) Q = Wp (a e g) fun l e g => WO l.list fun _ => Wp (x e g) fun d e g => WO (opIndex l d) fun z => Q z e g := by
  unfold mIndex
  rw [wp_bind]
  congr; funext l e g
  rw [wp_bind, wp_opt]
  congr; funext _
  rw [wp_bind]
  congr; funext d e g
  exact wp_opt
theorem wo_list_lst {ds : List D} {k : List D → Prop} : WO (SV.list (.dat (.lst ds))) k = k ds := rfl
theorem wo_list_own {ds : List D} {k : List D → Prop} : WO (SV.list (.own ds)) k = k ds := rfl
theorem wp_tabs {a : M SV} : Wp (mTabs a e g) Q = Wp (a e g) fun v e g => WO (opTabs v) fun z => Q z e g := by
  unfold mTabs
  rw [wp_bind]
  congr; funext v e g
  exact wp_opt
theorem wo_tabs {t : D} {k : SV → Prop} : WO (opTabs (.dat (.mdl t))) k = k (.dat t) := rfl
def asMdl : SV → Option D
  | .dat (.mdl t) => some t
  | _ => none
theorem wo_asMdl {t : D} {k : D → Prop} : WO (asMdl (.dat (.mdl t))) k = k t := rfl
theorem wp_prop {f : SemF} {a : M SV} : Wp (mProp f a e g) Q = Wp (a e g) fun v e g => WO (asMdl v) fun t => WF (f [.mdl t] g) fun sv g => Q sv e g := by
  unfold mProp
  rw [wp_bind]
  congr; funext v e g
  cases v with
  | dat d =>
    cases d with
    | mdl t =>
      show Wp (match f [.mdl t] g with
        | .ok sv g' => .ok sv e g'
        | _ => .stuck) Q = WF (f [.mdl t] g) _
      cases f [.mdl t] g <;> rfl
    | _ => rfl
  | _ => rfl
theorem wp_comp {own : List Nat} {t : Tgt} {src : Src} {cd : M Bool} {el : M D} : Wp (mComp own t src cd el e g) Q = Wp (src.items e g) fun items e g => still e own = true ∧ Wp (compLoop own t cd el items [] (wipe e own) g) fun ys e' g' => Q (.own ys) (unwipe e e' own) g' := by
  unfold mComp
  rw [wp_bind]
  congr; funext items e g
  by_cases h : still e own = true
  · simp only [if_pos h, h, true_and]
    cases compLoop own t cd el items [] (wipe e own) g <;> rfl
  · exact propext ⟨fun z => by rw [if_neg h] at z; exact z.elim, fun z => absurd z.1 h⟩
/-! statements -/
theorem wp_nil : Wp (sNil e g) QS = QS none e g := rfl
def seqK (b : S) (Q : Option SV → Env → Rng → Prop) (r : Option SV) (e : Env) (g : Rng) : Prop := match r with
  | none => Wp (b e g) Q
  | some v => Q (some v) e g
theorem wp_sSeq {a b : S} : Wp (sSeq a b e g) QS = Wp (a e g) (seqK b QS) := by
  unfold sSeq
  rw [wp_bind]
  congr; funext r e g
  cases r <;> rfl
theorem seqK_none {b : S} : seqK b QS none e g = Wp (b e g) QS := rfl
theorem seqK_some {b : S} {v : SV} : seqK b QS (some v) e g = QS (some v) e g := rfl
theorem wp_put {i : Nat} {sv : SV} {Q : Unit → Env → Rng → Prop} : Wp (put i sv e g) Q = (i < e.length ∧ Q () (e.set i (some sv)) g) := by
  unfold put
  by_cases h : i < e.length
  · simp only [if_pos h, h, true_and]; rfl
  · simp only [if_neg h, h, false_and]; rfl
theorem wp_sSet {i : Nat} {m : M SV} : Wp (sSet i m e g) QS = Wp (m e g) fun sv e g => i < e.length ∧ QS none (e.set i (some sv)) g := by
  unfold sSet
  rw [wp_bind]
  congr; funext sv e g
  rw [wp_bind, wp_put]; rfl
theorem wp_sPar2 {i j : Nat} {a b : M SV} : Wp (sPar2 i j a b e g) QS = Wp (a e g) fun x e g => Wp (b e g) fun y e g => i < e.length ∧ j < e.length ∧ QS none ((e.set i (some x)).set j (some y)) g := by
  unfold sPar2
  rw [wp_bind]
  congr; funext x e g
  rw [wp_bind]
  congr; funext y e g
  rw [wp_bind, wp_put, wp_bind, wp_put, List.length_set]; rfl
theorem wp_sPar3 {i j k : Nat} {a b c : M SV} : Wp (sPar3 i j k a b c e g) QS = Wp (a e g) fun x e g => Wp (b e g) fun y e g => Wp (c e g) fun z e g => i < e.length ∧ j < e.length ∧ k < e.length ∧ QS none (((e.set i (some x)).set j (some y)).set k (some z)) g := by
  unfold sPar3
  rw [wp_bind]
  congr; funext x e g
  rw [wp_bind]
  congr; funext y e g
  rw [wp_bind]
  congr; funext z e g
  rw [wp_bind, wp_put, wp_bind, wp_put, wp_bind, wp_put, List.length_set, List.length_set, List.length_set]; rfl
theorem wp_sUnp {t : Tgt} {m : M D} : Wp (sUnp t m e g) QS = Wp (m e g) fun d e g => WO (t.bind d e) fun e' => QS none e' g := by
  unfold sUnp
  rw [wp_bind]
  congr; funext d e g
  show Wp (match t.bind d e with
    | some e' => .ok none e' g
    | none => .stuck) QS = _
  cases t.bind d e <;> rfl
theorem wp_sDrop {m : M SV} : Wp (sDrop m e g) QS = Wp (m e g) fun _ e g => QS none e g := by
  unfold sDrop
  rw [wp_bind]; rfl
theorem wp_sRet {m : M SV} : Wp (sRet m e g) QS = Wp (m e g) fun sv e g => QS (some sv) e g := by
  unfold sRet
  rw [wp_bind]; rfl
theorem wp_mInt {m : M SV} : Wp (mInt m e g) QI = Wp (m e g) fun sv e g => WO sv.int fun i => QI i e g := by
  unfold mInt
  rw [wp_bind]
  congr; funext sv e g
  exact wp_opt
def ownK (o : Option (Option SV)) (k : List D → Prop) : Prop := match o with
  | some (some (.own ds)) => k ds
  | _ => False
theorem ownK_own {ds : List D} {k : List D → Prop} : ownK (some (some (.own ds))) k = k ds := rfl
theorem wp_own {i : Nat} : Wp (mOwn i e g) QL = ownK e[i]? fun ds => QL ds e g := by
  unfold mOwn ownK
  cases e[i]? with
  | none => rfl
  | some o =>
    cases o with
    | none => rfl
    | some sv => cases sv <;> rfl
theorem wp_must {b : Bool} {Q : Unit → Env → Rng → Prop} : Wp (mMust b e g) Q = (b = true ∧ Q () e g) := by
  unfold mMust
  cases b <;> simp [wp_ret, wp_opt, WO]
theorem wp_setOwn {i : Nat} {ds : List D} : Wp (setOwn i ds e g) QS = QS none (e.set i (some (.own ds))) g := rfl
theorem wp_sApp {i : Nat} {m : M D} : Wp (sApp i m e g) QS = ownK e[i]? fun _ => Wp (m e g) fun d e g => ownK e[i]? fun ds => ds.length < line ∧ QS none (e.set i (some (.own (ds ++ [d])))) g := by
  unfold sApp
  rw [wp_bind, wp_own]
  congr; funext _
  rw [wp_bind]
  congr; funext d e g
  rw [wp_bind, wp_own]
  congr; funext ds
  rw [wp_bind, wp_must, wp_setOwn, decide_eq_true_eq]
theorem wp_sPut {i : Nat} {k : M SV} {m : M D} : Wp (sPut i k m e g) QS = Wp (m e g) fun d e g => ownK e[i]? fun _ => Wp (k e g) fun kv e g => WO kv.int fun z => ownK e[i]? fun ds => WO (ixAt ds.length z) fun j => QS none (e.set i (some (.own (ds.set j d)))) g := by
  unfold sPut
  rw [wp_bind]
  congr; funext d e g
  rw [wp_bind, wp_own]
  congr; funext _
  rw [wp_bind, wp_mInt]
  congr; funext kv e g
  congr; funext z
  rw [wp_bind, wp_own]
  congr; funext ds
  rw [wp_bind, wp_opt]; rfl
theorem wp_sAugI {i : Nat} {k m : M SV} : Wp (sAugI i k m e g) QS = ownK e[i]? fun _ => Wp (k e g) fun kv e g => WO kv.int fun z => ownK e[i]? fun ds => WO (ixAt ds.length z) fun j => WO (getI ds j) fun x => Wp (m e g) fun mv e g => WO mv.int fun y => ownK e[i]? fun ds' => ds'.length = ds.length ∧ QS none (e.set i (some (.own (ds'.set j (.int (x + y)))))) g := by
  unfold sAugI
  rw [wp_bind, wp_own]
  congr; funext _
  rw [wp_bind, wp_mInt]
  congr; funext kv e g
  congr; funext z
  rw [wp_bind, wp_own]
  congr; funext ds
  rw [wp_bind, wp_opt]
  congr; funext j
  rw [wp_bind, wp_opt]
  congr; funext x
  rw [wp_bind, wp_mInt]
  congr; funext mv e g
  congr; funext y
  rw [wp_bind, wp_own]
  congr; funext ds'
  rw [wp_bind, wp_must, wp_setOwn, decide_eq_true_eq]
theorem wp_sAug {i : Nat} {m : M SV} : Wp (sAug i m e g) QS = onV e[i]? fun sv => WO sv.int fun x => Wp (m e g) fun mv e g => WO mv.int fun y => i < e.length ∧ QS none (e.set i (some (.dat (.int (x + y))))) g := by
  unfold sAug
  rw [wp_bind, wp_mInt, wp_varP]
  congr; funext sv
  congr; funext x
  rw [wp_bind, wp_mInt]
  congr; funext mv e g
  congr; funext y
  rw [wp_bind, wp_put]; rfl
theorem wp_sAugL {i : Nat} {m : M SV} : Wp (sAugL i m e g) QS = ownK e[i]? fun _ => Wp (m e g) fun dv e g => WO dv.list fun ys => ownK e[i]? fun xs => xs.length + ys.length ≤ line ∧ QS none (e.set i (some (.own (xs ++ ys)))) g := by
  unfold sAugL
  rw [wp_bind, wp_own]
  congr; funext _
  rw [wp_bind]
  congr; funext dv e g
  rw [wp_bind, wp_opt]
  congr; funext ys
  rw [wp_bind, wp_own]
  congr; funext xs
  rw [wp_bind, wp_must, wp_setOwn, decide_eq_true_eq]
theorem wp_sFor {t : Tgt} {src : Src} {b : S} : Wp (sFor t src b e g) QS = Wp (src.items e g) fun items e g => Wp (sForGo t b items e g) QS := by
  unfold sFor
  rw [wp_bind]
def retK (e : Env) (g : Rng) (Q : SV → Env → Rng → Prop) : SV → Prop
  | .dat d => Q (.dat d) e g
  | .own ds => Q (.own ds) e g
  | .owns dss => Q (.owns dss) e g
  | _ => False
theorem wp_varR {i : Nat} : Wp (mVarR i e g) Q = onV e[i]? (retK e g Q) := by
  unfold mVarR onV
  cases e[i]? with
  | none => rfl
  | some o =>
    cases o with
    | none => rfl
    | some sv => cases sv <;> rfl
theorem retK_dat {d : D} : retK e g Q (.dat d) = Q (.dat d) e g := rfl
theorem retK_own {ds : List D} : retK e g Q (.own ds) = Q (.own ds) e g := rfl
theorem retK_owns {dss : List (List D)} : retK e g Q (.owns dss) = Q (.owns dss) e g := rfl
theorem wp_rowsC {own : List Nat} {t : Tgt} {src : Src} : Wp (mRowsC own t src e g) Q = Wp (src.items e g) fun items e g => still e own = true ∧ Wp (compLoop own t (mRet true) (mRet (.lst [])) items [] (wipe e own) g) fun ys e' g' => Q (.owns (ys.map fun _ => [])) (unwipe e e' own) g' := by
  unfold mRowsC
  rw [wp_bind]
  congr; funext items e g
  by_cases h : still e own = true
  · simp only [if_pos h, h, true_and]
    cases compLoop own t (mRet true) (mRet (.lst [])) items [] (wipe e own) g <;> rfl
  · exact propext ⟨fun z => by rw [if_neg h] at z; exact z.elim, fun z => absurd z.1 h⟩
def rowK (e : Env) (i : Nat) (z : Int) (k : List (List D) × Nat × List D → Prop) : Prop := WO (rowAt e i z) k
theorem wp_mRowAt {i : Nat} {z : Int} {Q : List (List D) × Nat × List D → Env → Rng → Prop} : Wp (mRowAt i z e g) Q = WO (rowAt e i z) fun p => Q p e g := wp_opt
theorem wp_sAppR {i : Nat} {k : M SV} {m : M D} : Wp (sAppR i k m e g) QS = onV e[i]? fun _ => Wp (k e g) fun kv e g => WO kv.int fun z => WO (rowAt e i z) fun _ => Wp (m e g) fun d e g => WO (rowAt e i z) fun p => p.2.2.length < line ∧ QS none (e.set i (some (.owns (p.1.set p.2.1 (p.2.2 ++ [d]))))) g := by
  unfold sAppR
  rw [wp_bind, wp_varP]
  congr; funext _
  rw [wp_bind, wp_mInt]
  congr; funext kv e g
  congr; funext z
  rw [wp_bind, wp_mRowAt]
  congr; funext _
  rw [wp_bind]
  congr; funext d e g
  rw [wp_bind, wp_mRowAt]
  congr; funext p
  rw [wp_bind, wp_must, decide_eq_true_eq]; rfl
theorem wp_sPutR {i : Nat} {k k2 : M SV} {m : M D} : Wp (sPutR i k k2 m e g) QS = Wp (m e g) fun d e g => onV e[i]? fun _ => Wp (k e g) fun kv e g => WO kv.int fun z => WO (rowAt e i z) fun _ => Wp (k2 e g) fun kv2 e g => WO kv2.int fun z2 => WO (rowAt e i z) fun p => WO (ixAt p.2.2.length z2) fun j => QS none (e.set i (some (.owns (p.1.set p.2.1 (p.2.2.set j d))))) g := by
  unfold sPutR
  rw [wp_bind]
  congr; funext d e g
  rw [wp_bind, wp_varP]
  congr; funext _
  rw [wp_bind, wp_mInt]
  congr; funext kv e g
  congr; funext z
  rw [wp_bind, wp_mRowAt]
  congr; funext _
  rw [wp_bind, wp_mInt]
  congr; funext kv2 e g
  congr; funext z2
  rw [wp_bind, wp_mRowAt]
  congr; funext p
  rw [wp_bind, wp_opt]; rfl
end
end PV
set_option Elab.async false
set_option linter.all false
set_option maxRecDepth 100000
set_option maxHeartbeats 4000000
/-! PW2: operators by their values; walks; whiles; defs. -/
namespace PV
open PySem L2

/-! ### operators -/
section
variable {k : SV → Prop} {kb : Bool → Prop} {i j : Int} {x y : D} {xs ys : List D}
theorem wo_if {α : Type} {c : Prop} [Decidable c] {a : α} {k : α → Prop} : WO (if c then some a else none) k = (c ∧ k a) := by
  by_cases h : c <;> simp [h, WO]
theorem wo_none {α : Type} {k : α → Prop} : WO none k = False := rfl
theorem wo_map {α β : Type} {o : Option α} {f : α → β} {k : β → Prop} : WO (o.map f) k = WO o fun a => k (f a) := by cases o <;> rfl
theorem wo_bind {α β : Type} {o : Option α} {f : α → Option β} {k : β → Prop} : WO (o.bind f) k = WO o fun a => WO (f a) k := by cases o <;> rfl
theorem wo_add : WO (opBin .add (.dat (.int i)) (.dat (.int j))) k = k (.dat (.int (i + j))) := rfl
theorem wo_sub : WO (opBin .sub (.dat (.int i)) (.dat (.int j))) k = k (.dat (.int (i - j))) := rfl
theorem wo_mul : WO (opBin .mul (.dat (.int i)) (.dat (.int j))) k = (MulOk i j ∧ k (.dat (.int (i * j)))) := wo_if
theorem wo_fdiv : WO (opBin .fdiv (.dat (.int i)) (.dat (.int j))) k = (DivOk j ∧ k (.dat (.int (i.fdiv j)))) := wo_if
theorem wo_mod : WO (opBin .mod (.dat (.int i)) (.dat (.int j))) k = (j ≠ 0 ∧ k (.dat (.int (i.fmod j)))) := wo_if
theorem wo_pow : WO (opBin .pow (.dat (.int i)) (.dat (.int j))) k = ((0 ≤ j ∧ j ≤ 1000 ∧ i.natAbs < 2 ^ 64) ∧ k (.dat (.int (i ^ j.toNat)))) := wo_if
theorem wo_addT : WO (opBin .add (.dat (.tup xs)) (.dat (.tup ys))) k = (xs.length + ys.length ≤ line ∧ k (.dat (.tup (xs ++ ys)))) := wo_if
theorem wo_addOO : WO (opBin .add (.own xs) (.own ys)) k = (xs.length + ys.length ≤ line ∧ k (.own (xs ++ ys))) := wo_if
theorem wo_addLO : WO (opBin .add (.dat (.lst xs)) (.own ys)) k = (xs.length + ys.length ≤ line ∧ k (.own (xs ++ ys))) := wo_if
theorem wo_addOL : WO (opBin .add (.own xs) (.dat (.lst ys))) k = (xs.length + ys.length ≤ line ∧ k (.own (xs ++ ys))) := wo_if
theorem wo_addLL : WO (opBin .add (.dat (.lst xs)) (.dat (.lst ys))) k = (xs.length + ys.length ≤ line ∧ k (.own (xs ++ ys))) := wo_if
theorem wo_mulT : WO (opBin .mul (.dat (.tup xs)) (.dat (.int j))) k = ((xs.length ≤ 1000 ∧ j ≤ 1000 ∧ -1000 ≤ j) ∧ k (.dat (.tup (List.replicate j.toNat xs).flatten))) := wo_if
theorem wo_mulO : WO (opBin .mul (.own xs) (.dat (.int j))) k = ((xs.length ≤ 1000 ∧ j ≤ 1000 ∧ -1000 ≤ j) ∧ k (.own (List.replicate j.toNat xs).flatten)) := wo_if
theorem wo_eqI : WO (opCmp .eq (.dat (.int i)) (.dat (.int j))) kb = kb (decide (i = j)) := by
  show kb (i == j) = _
  rw [show (i == j) = decide (i = j) from by by_cases h : i = j <;> simp [h]]
theorem wo_neI : WO (opCmp .ne (.dat (.int i)) (.dat (.int j))) kb = kb (!decide (i = j)) := by
  show kb (!(i == j)) = _
  rw [show (i == j) = decide (i = j) from by by_cases h : i = j <;> simp [h]]
theorem wo_eqD : WO (opCmp .eq (.dat x) (.dat y)) kb = ((x.fine 60 = true ∧ y.fine 60 = true) ∧ kb (x.eqv y)) := by
  show WO (if (x.fine 60 && y.fine 60) = true then some (x.eqv y) else none) kb = _
  rw [wo_if, Bool.and_eq_true]
theorem wo_neD : WO (opCmp .ne (.dat x) (.dat y)) kb = ((x.fine 60 = true ∧ y.fine 60 = true) ∧ kb (!(x.eqv y))) := by
  show WO (((if (x.fine 60 && y.fine 60) = true then some (x.eqv y) else none) : Option Bool).map (!·)) kb = _
  rw [wo_map, wo_if, Bool.and_eq_true]
theorem wo_eqOO : WO (opCmp .eq (.own xs) (.own ys)) kb = (((D.lst xs).fine 60 = true ∧ (D.lst ys).fine 60 = true) ∧ kb ((D.lst xs).eqv (.lst ys))) := by
  show WO (if ((D.lst xs).fine 60 && (D.lst ys).fine 60) = true then some ((D.lst xs).eqv (.lst ys)) else none) kb = _
  rw [wo_if, Bool.and_eq_true]
theorem wo_neOO : WO (opCmp .ne (.own xs) (.own ys)) kb = (((D.lst xs).fine 60 = true ∧ (D.lst ys).fine 60 = true) ∧ kb (!((D.lst xs).eqv (.lst ys)))) := by
  show WO (((if ((D.lst xs).fine 60 && (D.lst ys).fine 60) = true then some ((D.lst xs).eqv (.lst ys)) else none) : Option Bool).map (!·)) kb = _
  rw [wo_map, wo_if, Bool.and_eq_true]
theorem wo_eqDO : WO (opCmp .eq (.dat x) (.own ys)) kb = ((x.fine 60 = true ∧ (D.lst ys).fine 60 = true) ∧ kb (x.eqv (.lst ys))) := by
  show WO (if (x.fine 60 && (D.lst ys).fine 60) = true then some (x.eqv (.lst ys)) else none) kb = _
  rw [wo_if, Bool.and_eq_true]
theorem wo_neDO : WO (opCmp .ne (.dat x) (.own ys)) kb = ((x.fine 60 = true ∧ (D.lst ys).fine 60 = true) ∧ kb (!(x.eqv (.lst ys)))) := by
  show WO (((if (x.fine 60 && (D.lst ys).fine 60) = true then some (x.eqv (.lst ys)) else none) : Option Bool).map (!·)) kb = _
  rw [wo_map, wo_if, Bool.and_eq_true]
theorem wo_eqB {a b : Bool} : WO (opCmp .eq (.dat (.bl a)) (.dat (.bl b))) kb = kb (a == b) := rfl
theorem wo_neB {a b : Bool} : WO (opCmp .ne (.dat (.bl a)) (.dat (.bl b))) kb = kb (!(a == b)) := rfl
theorem wo_lt : WO (opCmp .lt (.dat (.int i)) (.dat (.int j))) kb = kb (decide (i < j)) := rfl
theorem wo_le : WO (opCmp .le (.dat (.int i)) (.dat (.int j))) kb = kb (decide (i ≤ j)) := rfl
theorem wo_gt : WO (opCmp .gt (.dat (.int i)) (.dat (.int j))) kb = kb (decide (j < i)) := rfl
theorem wo_ge : WO (opCmp .ge (.dat (.int i)) (.dat (.int j))) kb = kb (decide (j ≤ i)) := rfl
theorem wo_inO : WO (opCmp .isin (.dat x) (.own ys)) kb = WO (opIn (.dat x) (.own ys)) kb := rfl
theorem wo_ninO : WO (opCmp .notin (.dat x) (.own ys)) kb = WO (opIn (.dat x) (.own ys)) fun b => kb (!b) := wo_map
def inOk (x : D) (ys : List D) : Prop := x.fine 60 = true ∧ ys.all (D.fine 60) = true
theorem opIn_own {a : D} : WO (opIn (.dat a) (.own ys)) kb = (inOk a ys ∧ kb (ys.any fun z => z.eqv a)) := by
  have h : opIn (.dat a) (.own ys) = (if (a.fine 60 && ys.all (D.fine 60)) = true then some (ys.any fun z => z.eqv a) else none) := by
    cases a <;> rfl
  rw [h, wo_if, Bool.and_eq_true]; rfl
theorem opIn_lst {a : D} : WO (opIn (.dat a) (.dat (.lst ys))) kb = (inOk a ys ∧ kb (ys.any fun z => z.eqv a)) := by
  have h : opIn (.dat a) (.dat (.lst ys)) = (if (a.fine 60 && ys.all (D.fine 60)) = true then some (ys.any fun z => z.eqv a) else none) := by
    cases a <;> rfl
  rw [h, wo_if, Bool.and_eq_true]; rfl
theorem wo_is_non : WO (opCmp .is (.dat .non) (.dat .non)) kb = kb true := rfl
theorem wo_isnot_non : WO (opCmp .isnot (.dat .non) (.dat .non)) kb = kb false := rfl
theorem wo_is_int : WO (opCmp .is (.dat (.int i)) (.dat .non)) kb = kb false := rfl
theorem wo_is_tup : WO (opCmp .is (.dat (.tup xs)) (.dat .non)) kb = kb false := rfl
theorem wo_is_lst : WO (opCmp .is (.dat (.lst xs)) (.dat .non)) kb = kb false := rfl
theorem wo_isnot_tup : WO (opCmp .isnot (.dat (.tup xs)) (.dat .non)) kb = kb true := rfl
theorem wo_isnot_lst : WO (opCmp .isnot (.dat (.lst xs)) (.dat .non)) kb = kb true := rfl
/-- x[i] -/
def ixGet {α : Type} (xs : List α) (i : Int) : Option α := (ixAt xs.length i).bind fun j => xs[j]?
theorem wo_idxT : WO (opIdx (.dat (.tup xs)) (.dat (.int i))) k = WO (ixGet xs i) fun d => k (.dat d) := by
  show WO ((ixAt xs.length i).bind fun j => (xs[j]?).map .dat) k = _
  unfold ixGet
  cases ixAt xs.length i with
  | none => rfl
  | some j => exact wo_map
theorem wo_idxL : WO (opIdx (.dat (.lst xs)) (.dat (.int i))) k = WO (ixGet xs i) fun d => k (.dat d) := wo_idxT
theorem wo_idxO : WO (opIdx (.own xs) (.dat (.int i))) k = WO (ixGet xs i) fun d => k (.dat d) := wo_idxT
theorem wo_rowsI {dss : List (List D)} : WO (opRow (.owns dss) (.dat (.int i))) k = WO (ixGet dss i) fun ds => k (.own ds) := by
  show WO ((ixAt dss.length i).bind fun j => (dss[j]?).map .own) k = _
  unfold ixGet
  cases ixAt dss.length i with
  | none => rfl
  | some j => exact wo_map
theorem wo_row_dat : WO (opRow (.dat x) (.dat (.int i))) k = WO (opIdx (.dat x) (.dat (.int i))) k := rfl
theorem ixGet_nat {α : Type} {xs : List α} {n : Nat} (h : n < xs.length) : ixGet xs (n : Int) = xs[n]? := by
  unfold ixGet
  rw [show ixAt xs.length (n : Int) = some n from ix_nat h]; rfl
theorem ixGet_of {α : Type} {xs : List α} {n : Nat} {x : α} (h : xs[n]? = some x) : ixGet xs (n : Int) = some x := by
  rw [ixGet_nat (List.getElem?_eq_some_iff.mp h).1, h]
theorem ixGet_map {α β : Type} {xs : List α} {f : α → β} : ixGet (xs.map f) i = (ixGet xs i).map f := by
  unfold ixGet
  rw [List.length_map]
  cases ixAt xs.length i with
  | none => rfl
  | some j => simp
theorem ixGet_0 {α : Type} {a : α} {l : List α} : ixGet (a :: l) 0 = some a := by
  have := ixGet_of (xs := a :: l) (n := 0) (x := a) rfl
  simpa using this
theorem ixGet_1 {α : Type} {a b : α} {l : List α} : ixGet (a :: b :: l) 1 = some b := by
  have := ixGet_of (xs := a :: b :: l) (n := 1) (x := b) rfl
  simpa using this
theorem ixGet_2 {α : Type} {a b c : α} {l : List α} : ixGet (a :: b :: c :: l) 2 = some c := by
  have := ixGet_of (xs := a :: b :: c :: l) (n := 2) (x := c) rfl
  simpa using this
theorem ixGet_3 {α : Type} {a b c d : α} {l : List α} : ixGet (a :: b :: c :: d :: l) 3 = some d := by
  have := ixGet_of (xs := a :: b :: c :: d :: l) (n := 3) (x := d) rfl
  simpa using this
theorem wo_ixMap {α β : Type} {xs : List α} {f : α → β} {k : β → Prop} : WO (ixGet (xs.map f) i) k = WO (ixGet xs i) fun x => k (f x) := by rw [ixGet_map, wo_map]
/-! built-ins -/
theorem wo_lenT : WO (opBn .len [.dat (.tup xs)]) k = k (.dat (.int (xs.length : Nat))) := rfl
theorem wo_lenL : WO (opBn .len [.dat (.lst xs)]) k = k (.dat (.int (xs.length : Nat))) := rfl
theorem wo_lenO : WO (opBn .len [.own xs]) k = k (.dat (.int (xs.length : Nat))) := rfl
theorem wo_lenOs {dss : List (List D)} : WO (opBn .len [.owns dss]) k = k (.dat (.int (dss.length : Nat))) := rfl
theorem wo_sum {a : SV} : WO (opBn .sum [a]) k = WO a.seq fun ds => WO (D.ints ds) fun ns => k (.dat (.int ns.sum)) := by
  show WO ((a.seq.bind D.ints).map _) k = _
  rw [wo_map, wo_bind]
theorem wo_max {a : SV} : WO (opBn .max [a]) k = WO a.seq fun ds => WO (D.ints ds) fun ns => WO (opMax ns) k := by
  show WO ((a.seq.bind D.ints).bind opMax) k = _
  rw [wo_bind, wo_bind]
theorem wo_min {a : SV} : WO (opBn .min [a]) k = WO a.seq fun ds => WO (D.ints ds) fun ns => WO (opMin ns) k := by
  show WO ((a.seq.bind D.ints).bind opMin) k = _
  rw [wo_bind, wo_bind]
theorem wo_max2 : WO (opBn .max2 [.dat (.int i), .dat (.int j)]) k = k (.dat (.int (if j > i then j else i))) := rfl
theorem wo_min2 : WO (opBn .min2 [.dat (.int i), .dat (.int j)]) k = k (.dat (.int (if j < i then j else i))) := rfl
theorem wo_abs : WO (opBn .abs [.dat (.int i)]) k = k (.dat (.int (i.natAbs : Nat))) := by
  show k (.dat (.int (if i < 0 then -i else i))) = _
  congr 3
  split <;> omega
theorem wo_all {a : SV} : WO (opBn .all [a]) k = WO a.list fun ds => WO (D.bls ds) fun bs => k (.dat (.bl (bs.all id))) := by
  show WO ((a.list.bind D.bls).map _) k = _
  rw [wo_map, wo_bind]
theorem wo_any {a : SV} : WO (opBn .any [a]) k = WO a.list fun ds => WO (D.bls ds) fun bs => k (.dat (.bl (bs.any id))) := by
  show WO ((a.list.bind D.bls).map _) k = _
  rw [wo_map, wo_bind]
theorem wo_tupO : WO (opBn .tuple [.own xs]) k = k (.dat (.tup xs)) := rfl
theorem wo_tupL : WO (opBn .tuple [.dat (.lst xs)]) k = k (.dat (.tup xs)) := rfl
theorem wo_tupT : WO (opBn .tuple [.dat (.tup xs)]) k = k (.dat (.tup xs)) := rfl
theorem wo_lstO : WO (opBn .list [.own xs]) k = k (.own xs) := rfl
theorem wo_lstL : WO (opBn .list [.dat (.lst xs)]) k = k (.own xs) := rfl
theorem wo_lstT : WO (opBn .list [.dat (.tup xs)]) k = k (.own xs) := rfl
theorem wo_intI : WO (opBn .int [.dat (.int i)]) k = k (.dat (.int i)) := rfl
theorem ints_map : ∀ {ns : List Int}, D.ints (ns.map D.int) = some ns
  | [] => rfl
  | n :: ns => by rw [List.map_cons, D.ints, ints_map]; rfl
theorem bls_map : ∀ {ns : List Bool}, D.bls (ns.map D.bl) = some ns
  | [] => rfl
  | n :: ns => by rw [List.map_cons, D.bls, bls_map]; rfl
theorem wo_ints {ns : List Int} {k : List Int → Prop} : WO (D.ints (ns.map D.int)) k = k ns := by rw [ints_map]; rfl
theorem wo_bls {ns : List Bool} {k : List Bool → Prop} : WO (D.bls (ns.map D.bl)) k = k ns := by rw [bls_map]; rfl
theorem wo_maxC {n : Int} {ns : List Int} : WO (opMax (n :: ns)) k = k (.dat (.int (ns.foldl max n))) := rfl
theorem wo_minC {n : Int} {ns : List Int} : WO (opMin (n :: ns)) k = k (.dat (.int (ns.foldl min n))) := rfl
theorem wo_range : WO (opRange (.dat (.int i)) (.dat (.int j))) kd = ((-100000 ≤ i ∧ i ≤ 100000 ∧ -100000 ≤ j ∧ j ≤ 100000) ∧ kd ((List.range (j - i).toNat).map fun (k : Nat) => .int (i + k))) := wo_if
theorem wo_rangeN {n : Nat} {kd : List D → Prop} : WO (opRange (.dat (.int 0)) (.dat (.int (n : Int)))) kd = (n ≤ 100000 ∧ kd ((List.range n).map fun (k : Nat) => .int k)) := by
  rw [wo_range]
  have : ((n : Int) - 0).toNat = n := by omega
  rw [this]
  simp only [Int.zero_add]
  congr 1
  apply propext
  omega
theorem wo_kind_int : WO (SV.kind (.dat (.int i))) kd = kd (.int i) := rfl
theorem wo_kind_tup : WO (SV.kind (.dat (.tup xs))) kd = kd (.tup xs) := rfl
theorem wo_kind_lst : WO (SV.kind (.dat (.lst xs))) kd = kd (.lst xs) := rfl
theorem wo_kind_bl {b : Bool} : WO (SV.kind (.dat (.bl b))) kd = kd (.bl b) := rfl
theorem wo_kind_str {b : Str} : WO (SV.kind (.dat (.str b))) kd = kd (.str b) := rfl
theorem wo_kind_non : WO (SV.kind (.dat .non)) kd = kd .non := rfl
theorem wo_kind_mdl {t : D} : WO (SV.kind (.dat (.mdl t))) kd = kd (.mdl t) := rfl
theorem wo_kind_own : WO (SV.kind (.own xs)) kd = kd (.lst xs) := rfl
theorem wo_indexO : WO (opIndex (.own xs) x) k = (inOk x xs ∧ WO (xs.findIdx? fun z => z.eqv x) fun j => k (.dat (.int (j : Nat)))) := by
  show WO (if (x.fine 60 && xs.all (D.fine 60)) = true then (xs.findIdx? fun z => z.eqv x).map fun j => SV.dat (.int (j : Nat)) else none) k = _
  unfold inOk
  by_cases h : (x.fine 60 && xs.all (D.fine 60)) = true
  · rw [if_pos h, wo_map]
    rw [Bool.and_eq_true] at h
    simp only [h, and_self, true_and]
  · rw [if_neg h, wo_none]
    rw [Bool.and_eq_true] at h
    simp only [h, false_and]
theorem wo_sliceT {lo hi : Option Int} : WO (opSlice (.dat (.tup xs)) lo hi) k = k (.dat (.tup (cutAt xs lo hi))) := rfl
theorem wo_sliceL {lo hi : Option Int} : WO (opSlice (.dat (.lst xs)) lo hi) k = k (.own (cutAt xs lo hi)) := rfl
theorem wo_sliceO {lo hi : Option Int} : WO (opSlice (.own xs) lo hi) k = k (.own (cutAt xs lo hi)) := rfl
end

/-! ### targets -/
theorem bind_name {i : Nat} {d : D} {e : Env} : (Tgt.name i).bind d e = some (e.set i (some (.dat d))) := rfl
theorem bind_names {is : List Nat} {ds : List D} {e : Env} : (Tgt.names is).bind (.tup ds) e = if ds.length = is.length then some (setAll e is ds) else none := rfl
theorem wo_bind_name {i : Nat} {d : D} {e : Env} {k : Env → Prop} : WO ((Tgt.name i).bind d e) k = k (e.set i (some (.dat d))) := rfl
theorem wo_bind_names {is : List Nat} {ds : List D} {e : Env} {k : Env → Prop} : WO ((Tgt.names is).bind (.tup ds) e) k = (ds.length = is.length ∧ k (setAll e is ds)) := wo_if

/-! ### walks -/
section
variable {t : Tgt} {b : S} {QS : Option SV → Env → Rng → Prop} {e : Env} {g : Rng} {own : List Nat} {cd : M Bool} {el : M D} {QL : List D → Env → Rng → Prop}
theorem wp_go_cons {d : D} {ds : List D} : Wp (sForGo t b (d :: ds) e g) QS = WO (t.bind d e) fun e1 => Wp (b e1 g) (seqK (sForGo t b ds) QS) := by
  conv => lhs; unfold sForGo
  cases t.bind d e with
  | none => rfl
  | some e1 =>
    show Wp (match b e1 g with
      | .ok none e2 g2 => sForGo t b ds e2 g2
      | .ok (some v) e2 g2 => .ok (some v) e2 g2
      | .exc x e2 g2 => .exc x e2 g2
      | .stuck => .stuck) QS = Wp (b e1 g) _
    cases b e1 g with
    | ok r e2 g2 => cases r <;> rfl
    | exc _ _ _ => rfl
    | stuck => rfl
theorem wp_go_nil : Wp (sForGo t b [] e g) QS = QS none e g := rfl
/-- a for over typed items, by what holds behind some of them -/
theorem wp_go {α : Type} {f : α → D} (I : List α → Env → Rng → Prop) (xs : List α) (h0 : I [] e g)
    (hs : ∀ done x rest e g, xs = done ++ x :: rest → I done e g → WO (t.bind (f x) e) fun e1 => Wp (b e1 g) fun r e2 g2 => match r with
      | none => I (done ++ [x]) e2 g2
      | some v => QS (some v) e2 g2)
    (hq : ∀ e g, I xs e g → QS none e g) : Wp (sForGo t b (xs.map f) e g) QS := by
  have go : ∀ (rest done : List α) (e : Env) (g : Rng), xs = done ++ rest → I done e g → Wp (sForGo t b (rest.map f) e g) QS := by
    intro rest
    induction rest with
    | nil =>
      intro done e g hx hi
      rw [List.append_nil] at hx
      subst hx
      exact hq e g hi
    | cons x rest ih =>
      intro done e g hx hi
      have h := hs done x rest e g hx hi
      rw [List.map_cons, wp_go_cons]
      cases hb : t.bind (f x) e with
      | none => rw [hb] at h; exact h.elim
      | some e1 =>
        rw [hb] at h
        refine Wp.imp h fun r e2 g2 hr => ?_
        cases r with
        | some v => exact hr
        | none => exact ih (done ++ [x]) e2 g2 (by rw [List.append_assoc]; exact hx) hr
  exact go xs [] e g rfl h0
theorem wp_cl_nil {acc : List D} : Wp (compLoop own t cd el [] acc e g) QL = QL acc e g := rfl
theorem wp_cl {α : Type} {f : α → D} (I : List α → List D → Env → Rng → Prop) (xs : List α) (h0 : I [] [] e g)
    (hs : ∀ done x rest acc e g, xs = done ++ x :: rest → I done acc e g → WO (t.bind (f x) e) fun e1 => Wp (cd e1 g) fun b e2 g2 => (b = true → Wp (el e2 g2) fun y e3 g3 => acc.length < line ∧ I (done ++ [x]) (acc ++ [y]) (wipe e3 own) g3) ∧ (b = false → I (done ++ [x]) acc (wipe e2 own) g2))
    (hq : ∀ acc e g, I xs acc e g → QL acc e g) : Wp (compLoop own t cd el (xs.map f) [] e g) QL := by
  have go : ∀ (rest done : List α) (acc : List D) (e : Env) (g : Rng), xs = done ++ rest → I done acc e g → Wp (compLoop own t cd el (rest.map f) acc e g) QL := by
    intro rest
    induction rest with
    | nil =>
      intro done acc e g hx hi
      rw [List.append_nil] at hx
      subst hx
      exact hq acc e g hi
    | cons x rest ih =>
      intro done acc e g hx hi
      have h := hs done x rest acc e g hx hi
      rw [List.map_cons]
      unfold compLoop
      cases hb : t.bind (f x) e with
      | none => rw [hb] at h; exact h.elim
      | some e1 =>
        rw [hb] at h
        have h : Wp (cd e1 g) _ := h
        dsimp only
        cases hc : cd e1 g with
        | stuck => rw [hc] at h; exact h.elim
        | exc _ _ _ => rw [hc] at h; exact h.elim
        | ok b2 e2 g2 =>
          rw [hc] at h
          obtain ⟨h1, h2⟩ := h
          cases b2 with
          | false => exact ih (done ++ [x]) acc _ g2 (by rw [List.append_assoc]; exact hx) (h2 rfl)
          | true =>
            have h1 := h1 rfl
            dsimp only
            cases he : el e2 g2 with
            | stuck => rw [he] at h1; exact h1.elim
            | exc _ _ _ => rw [he] at h1; exact h1.elim
            | ok y e3 g3 =>
              rw [he] at h1
              obtain ⟨h3, h4⟩ := h1
              dsimp only
              rw [if_pos h3]
              exact ih (done ++ [x]) (acc ++ [y]) _ g3 (by rw [List.append_assoc]; exact hx) h4
  exact go xs [] [] e g rfl h0
/-- a comprehension that changes nothing -/
theorem wp_clMap {α : Type} {f : α → D} (p : α → Bool) (h : α → D) (xs : List α) (hl : xs.length ≤ line)
    (hs : ∀ x ∈ xs, WO (t.bind (f x) e) fun e1 => Wp (cd e1 g) fun b e2 g2 => b = p x ∧ (p x = true → Wp (el e2 g2) fun y e3 g3 => y = h x ∧ wipe e3 own = e ∧ g3 = g) ∧ (p x = false → wipe e2 own = e ∧ g2 = g))
    (hq : QL ((xs.filter p).map h) e g) : Wp (compLoop own t cd el (xs.map f) [] e g) QL := by
  refine wp_cl (fun done acc e' g' => acc = (done.filter p).map h ∧ e' = e ∧ g' = g) xs ⟨rfl, rfl, rfl⟩ ?_ ?_
  · rintro done x rest acc e' g' hx ⟨rfl, rfl, rfl⟩
    have := hs x (by rw [hx]; simp)
    cases hb : t.bind (f x) e' with
    | none => rw [hb] at this; exact this.elim
    | some e1 =>
      rw [hb] at this
      refine Wp.imp (r := cd e1 g') this ?_
      rintro b2 e2 g2 ⟨rfl, h1, h2⟩
      refine ⟨fun hp => Wp.imp (h1 hp) ?_, fun hp => ?_⟩
      · rintro y e3 g3 ⟨rfl, h3, h4⟩
        refine ⟨?_, ?_, h3, h4⟩
        · have h5 : ((done.filter p).map h).length ≤ done.length := by
            rw [List.length_map]; exact List.length_filter_le _ _
          have h6 : xs.length = done.length + (rest.length + 1) := by rw [hx]; simp
          omega
        · rw [List.filter_append, List.map_append]
          congr 1
          rw [List.filter_cons_of_pos hp]; rfl
      · refine ⟨?_, h2 hp⟩
        rw [List.filter_append, List.map_append, List.filter_cons_of_neg (by simp [hp])]
        simp
  · rintro acc e' g' ⟨rfl, rfl, rfl⟩
    exact hq
/-- .. without a test -/
theorem wp_clAll {α : Type} {f : α → D} (h : α → D) (xs : List α) (hl : xs.length ≤ line)
    (hs : ∀ x ∈ xs, WO (t.bind (f x) e) fun e1 => Wp (el e1 g) fun y e3 g3 => y = h x ∧ wipe e3 own = e ∧ g3 = g)
    (hq : QL (xs.map h) e g) : Wp (compLoop own t (mRet true) el (xs.map f) [] e g) QL := by
  refine wp_clMap (fun _ => true) h xs hl (fun x hx => ?_) (by rw [List.filter_eq_self.mpr (fun _ _ => rfl)]; exact hq)
  have := hs x hx
  cases hb : t.bind (f x) e with
  | none => rw [hb] at this; exact this.elim
  | some e1 =>
    rw [hb] at this
    exact ⟨rfl, fun _ => this, fun h => by cases h⟩
end

/-! ### while -/
section
variable {c : M Bool} {b : S} {QS : Option SV → Env → Rng → Prop}
theorem whileN_up : ∀ {n m : Nat} {e : Env} {g : Rng}, n ≤ m → whileN c b n e g ≠ .stuck → whileN c b m e g = whileN c b n e g
  | 0, _, _, _, _, h => absurd rfl h
  | n + 1, 0, _, _, h, _ => absurd h (by omega)
  | n + 1, m + 1, e, g, hle, h => by
    unfold whileN at h ⊢
    cases hc : c e g with
    | stuck => rfl
    | exc _ _ _ => rfl
    | ok k e1 g1 =>
      rw [hc] at h
      cases k with
      | false => rfl
      | true =>
        dsimp only at h ⊢
        cases hb : b e1 g1 with
        | stuck => rfl
        | exc _ _ _ => rfl
        | ok r e2 g2 =>
          rw [hb] at h
          cases r with
          | some v => rfl
          | none => exact whileN_up (by omega) h
theorem sWhile_of {n : Nat} {e : Env} {g : Rng} (h : whileN c b n e g ≠ .stuck) : sWhile c b e g = whileN c b n e g := by
  have hx : ∃ n, whileN c b n e g ≠ .stuck := ⟨n, h⟩
  unfold sWhile
  rw [dif_pos hx]
  have h2 := Classical.choose_spec hx
  rcases Nat.le_total n (Classical.choose hx) with q | q
  · exact whileN_up q h
  · exact (whileN_up q h2).symm
theorem wp_while_n {e : Env} {g : Rng} {n : Nat} (h : Wp (whileN c b n e g) QS) : Wp (sWhile c b e g) QS := by
  rw [sWhile_of (n := n)]
  · exact h
  · intro z; rw [z] at h; exact h
/-- a while by what holds and a measure -/
theorem wp_while (I : Nat → Env → Rng → Prop) (hs : ∀ n e g, I n e g → Wp (c e g) fun k e1 g1 => (k = true → Wp (b e1 g1) fun r e2 g2 => match r with
      | none => ∃ m, m < n ∧ I m e2 g2
      | some v => QS (some v) e2 g2) ∧ (k = false → QS none e1 g1)) {n : Nat} {e : Env} {g : Rng} (h : I n e g) : Wp (sWhile c b e g) QS := by
  have go : ∀ (n : Nat) (e : Env) (g : Rng), I n e g → ∃ k, Wp (whileN c b k e g) QS := by
    intro n
    induction n using Nat.strongRecOn with
    | _ n ih =>
      intro e g hi
      have h := hs n e g hi
      cases hc : c e g with
      | stuck => rw [hc] at h; exact h.elim
      | exc _ _ _ => rw [hc] at h; exact h.elim
      | ok k e1 g1 =>
        rw [hc] at h
        obtain ⟨h1, h2⟩ := h
        cases k with
        | false => exact ⟨1, by unfold whileN; rw [hc]; exact h2 rfl⟩
        | true =>
          have h1 := h1 rfl
          cases hb : b e1 g1 with
          | stuck => rw [hb] at h1; exact h1.elim
          | exc _ _ _ => rw [hb] at h1; exact h1.elim
          | ok r e2 g2 =>
            rw [hb] at h1
            cases r with
            | some v => exact ⟨1, by unfold whileN; rw [hc]; dsimp only; rw [hb]; exact h1⟩
            | none =>
              obtain ⟨m, hm, hi2⟩ := h1
              obtain ⟨k, hk⟩ := ih m hm e2 g2 hi2
              exact ⟨k + 1, by unfold whileN; rw [hc]; dsimp only; rw [hb]; exact hk⟩
  obtain ⟨k, hk⟩ := go n e g h
  exact wp_while_n hk
end

/-! ### defs -/
def outK (k : SV → Rng → Prop) (r : Option SV) (_ : Env) (g : Rng) : Prop := match r with
  | none => k (.dat .non) g
  | some sv => k sv g
theorem outK_none {k : SV → Rng → Prop} {e : Env} {g : Rng} : outK k none e g = k (.dat .non) g := rfl
theorem outK_some {k : SV → Rng → Prop} {sv : SV} {e : Env} {g : Rng} : outK k (some sv) e g = k sv g := rfl
theorem wf_run {n : Nat} {b : S} {ds : List D} {g : Rng} {k : SV → Rng → Prop} : WF (runFn n b ds g) k = Wp (b (ds.map (fun d => some (.dat d)) ++ List.replicate (n - ds.length) none) g) (outK k) := by
  unfold runFn
  cases b (ds.map (fun d => some (.dat d)) ++ List.replicate (n - ds.length) none) g with
  | ok r e g => cases r <;> rfl
  | exc _ _ _ => rfl
  | stuck => rfl
theorem run_eq {n : Nat} {b : S} {ds : List D} {g : Rng} {v : SV} {e : Env} (he : e = ds.map (fun d => some (.dat d)) ++ List.replicate (n - ds.length) none) (h : Wp (b e g) (outK fun sv g' => sv = v ∧ g' = g)) : runFn n b ds g = .ok v g := by
  subst he
  exact WF.eq (by rw [wf_run]; exact h)
end PV
set_option Elab.async false
set_option linter.all false
set_option maxRecDepth 100000
set_option maxHeartbeats 4000000
/-! PW3: the same rules with what follows by name, so that simp meets no bound names. -/
namespace PV
open PySem L2

section
variable {α β : Type} {Q : SV → Env → Rng → Prop} {QD : D → Env → Rng → Prop} {QB : Bool → Env → Rng → Prop} {QL : List D → Env → Rng → Prop} {QS : Option SV → Env → Rng → Prop} {QI : Int → Env → Rng → Prop} {QO : Option Int → Env → Rng → Prop} {QV : List SV → Env → Rng → Prop} {e e0 : Env} {g : Rng}
  {x y z : SV} {d : D} {b b' : Bool} {a c : M SV} {m : M D} {i j n : Nat} {ds : List D} {dss : List (List D)}
/-! values -/
def vK (Q : SV → Env → Rng → Prop) (e : Env) (g : Rng) (x : SV) : Prop := Q x e g
theorem vK_ap : vK Q e g x = Q x e g := rfl
theorem q_varP : Wp (mVarP i e g) Q = onV e[i]? (vK Q e g) := wp_varP
theorem q_varF : Wp (mVarF i e g) Q = onV e[i]? (frzK i e g Q) := wp_varF
theorem q_varR : Wp (mVarR i e g) Q = onV e[i]? (retK e g Q) := wp_varR
theorem onV_0 {k : SV → Prop} {l : Env} : onV ((some x :: l)[0]?) k = k x := rfl
theorem onV_s {k : SV → Prop} {l : Env} {o : Option SV} : onV ((o :: l)[n + 1]?) k = onV (l[n]?) k := rfl
def fzK (QD : D → Env → Rng → Prop) (x : SV) (e : Env) (g : Rng) : Prop := match x with
  | .dat d => QD d e g
  | .own ds => QD (.lst ds) e g
  | _ => False
theorem q_frz {m : M SV} : Wp (mFrz m e g) QD = Wp (m e g) (fzK QD) := by
  rw [wp_frz]
  congr; funext x e g
  cases x <;> rfl
theorem fzK_dat : fzK QD (.dat d) e g = QD d e g := rfl
theorem fzK_own : fzK QD (.own ds) e g = QD (.lst ds) e g := rfl
def alK1 {α : Type} (ms : List (M α)) (Q : List α → Env → Rng → Prop) (a : α) (e : Env) (g : Rng) : Prop := Wp (mAll ms e g) fun as e g => Q (a :: as) e g
def alK2 {α : Type} (a : α) (Q : List α → Env → Rng → Prop) (as : List α) (e : Env) (g : Rng) : Prop := Q (a :: as) e g
theorem q_all_nil {Q : List α → Env → Rng → Prop} : Wp (mAll ([] : List (M α)) e g) Q = Q [] e g := rfl
theorem q_all {m : M α} {ms : List (M α)} {Q : List α → Env → Rng → Prop} : Wp (mAll (m :: ms) e g) Q = Wp (m e g) (alK1 ms Q) := wp_all_cons
theorem alK1_ap {a : α} {ms : List (M α)} {Q : List α → Env → Rng → Prop} : alK1 ms Q a e g = Wp (mAll ms e g) (alK2 a Q) := rfl
theorem alK2_ap {a : α} {as : List α} {Q : List α → Env → Rng → Prop} : alK2 a Q as e g = Q (a :: as) e g := rfl
def biK1 (o : Op) (b : M SV) (Q : SV → Env → Rng → Prop) (x : SV) (e : Env) (g : Rng) : Prop := Wp (b e g) fun y e g => WO (opBin o x y) fun z => Q z e g
def biK2 (o : Op) (x : SV) (Q : SV → Env → Rng → Prop) (y : SV) (e : Env) (g : Rng) : Prop := WO (opBin o x y) fun z => Q z e g
theorem q_bin {o : Op} : Wp (mBin o a c e g) Q = Wp (a e g) (biK1 o c Q) := wp_bin
theorem biK1_ap {o : Op} : biK1 o a Q x e g = Wp (a e g) (biK2 o x Q) := rfl
theorem biK2_ap {o : Op} : biK2 o x Q y e g = WO (opBin o x y) (vK Q e g) := rfl
def bK (Q : Bool → Env → Rng → Prop) (e : Env) (g : Rng) (x : Bool) : Prop := Q x e g
theorem bK_ap : bK QB e g b = QB b e g := rfl
def cmK1 (o : Cmp) (b : M SV) (Q : Bool → Env → Rng → Prop) (x : SV) (e : Env) (g : Rng) : Prop := Wp (b e g) fun y e g => WO (opCmp o x y) fun z => Q z e g
def cmK2 (o : Cmp) (x : SV) (Q : Bool → Env → Rng → Prop) (y : SV) (e : Env) (g : Rng) : Prop := WO (opCmp o x y) fun z => Q z e g
theorem q_cmp {o : Cmp} : Wp (mCmp o a c e g) QB = Wp (a e g) (cmK1 o c QB) := wp_cmp
theorem cmK1_ap {o : Cmp} : cmK1 o a QB x e g = Wp (a e g) (cmK2 o x QB) := rfl
theorem cmK2_ap {o : Cmp} : cmK2 o x QB y e g = WO (opCmp o x y) (bK QB e g) := rfl
def chK1 (o1 o2 : Cmp) (b c : M SV) (Q : Bool → Env → Rng → Prop) (x : SV) (e : Env) (g : Rng) : Prop := Wp (b e g) fun y e g => WO (opCmp o1 x y) fun k => (k = true → Wp (c e g) fun z e g => WO (opCmp o2 y z) fun r => Q r e g) ∧ (k = false → Q false e g)
def chK2 (o1 o2 : Cmp) (c : M SV) (x : SV) (Q : Bool → Env → Rng → Prop) (y : SV) (e : Env) (g : Rng) : Prop := WO (opCmp o1 x y) fun k => (k = true → Wp (c e g) fun z e g => WO (opCmp o2 y z) fun r => Q r e g) ∧ (k = false → Q false e g)
def chK3 (o2 : Cmp) (c : M SV) (y : SV) (Q : Bool → Env → Rng → Prop) (e : Env) (g : Rng) (k : Bool) : Prop := (k = true → Wp (c e g) fun z e g => WO (opCmp o2 y z) fun r => Q r e g) ∧ (k = false → Q false e g)
theorem q_chain {o1 o2 : Cmp} {a b c : M SV} : Wp (mChain o1 o2 a b c e g) QB = Wp (a e g) (chK1 o1 o2 b c QB) := wp_chain
theorem chK1_ap {o1 o2 : Cmp} {b c : M SV} : chK1 o1 o2 b c QB x e g = Wp (b e g) (chK2 o1 o2 c x QB) := rfl
theorem chK2_ap {o1 o2 : Cmp} {c : M SV} : chK2 o1 o2 c x QB y e g = WO (opCmp o1 x y) (chK3 o2 c y QB e g) := rfl
theorem chK3_dec {o2 : Cmp} {p : Prop} [Decidable p] : chK3 o2 c y QB e g (decide p) = ((p → Wp (c e g) (cmK2 o2 y QB)) ∧ (¬ p → QB false e g)) := by
  unfold chK3
  rw [decide_eq_true_eq, decide_eq_false_iff_not]; rfl
def noK (Q : Bool → Env → Rng → Prop) (b : Bool) (e : Env) (g : Rng) : Prop := Q (!b) e g
theorem q_not {a : M Bool} : Wp (mNot a e g) QB = Wp (a e g) (noK QB) := wp_not
theorem noK_ap : noK QB b e g = QB (!b) e g := rfl
theorem q_if {α : Type} {c : M Bool} {a b : M α} {Q : α → Env → Rng → Prop} : Wp (mIf c a b e g) Q = Wp (c e g) (ifK a b Q) := wp_if
theorem q_sIf {c : M Bool} {a b : S} : Wp (sIf c a b e g) QS = Wp (c e g) (ifK a b QS) := wp_sIf
theorem ifK_b {α : Type} {a b : M α} {Q : α → Env → Rng → Prop} {v : Bool} : ifK a b Q v e g = ((v = true → Wp (a e g) Q) ∧ (v = false → Wp (b e g) Q)) := rfl
theorem q_and {a b : M Bool} : Wp (mAnd a b e g) QB = Wp (a e g) (ifK b (mRet false) QB) := wp_and
theorem q_or {a b : M Bool} : Wp (mOr a b e g) QB = Wp (a e g) (ifK (mRet true) b QB) := wp_or
theorem q_ret {a : α} {Q : α → Env → Rng → Prop} : Wp (mRet a e g) Q = Q a e g := rfl
def mbK (Q : SV → Env → Rng → Prop) (b : Bool) (e : Env) (g : Rng) : Prop := Q (.dat (.bl b)) e g
theorem q_b {a : M Bool} : Wp (mB a e g) Q = Wp (a e g) (mbK Q) := wp_b
theorem mbK_ap : mbK Q b e g = Q (.dat (.bl b)) e g := rfl
def mtK (Q : Bool → Env → Rng → Prop) (x : SV) (e : Env) (g : Rng) : Prop := WO (isB x) fun b => Q b e g
theorem q_t {a : M SV} : Wp (mT a e g) QB = Wp (a e g) (mtK QB) := wp_t
theorem mtK_ap : mtK QB (.dat (.bl b)) e g = QB b e g := rfl
def neK (Q : SV → Env → Rng → Prop) (x : SV) (e : Env) (g : Rng) : Prop := WO x.int fun i => Q (.dat (.int (-i))) e g
theorem q_neg : Wp (mNeg a e g) Q = Wp (a e g) (neK Q) := wp_neg
theorem neK_ap {i : Int} : neK Q (.dat (.int i)) e g = Q (.dat (.int (-i))) e g := rfl
theorem q_c : Wp (mC d e g) Q = Q (.dat d) e g := rfl
def tuK (Q : SV → Env → Rng → Prop) (ds : List D) (e : Env) (g : Rng) : Prop := ds.length ≤ line ∧ Q (.dat (.tup ds)) e g
theorem q_tup {ms : List (M D)} : Wp (mTup ms e g) Q = Wp (mAll ms e g) (tuK Q) := wp_tup
theorem tuK_ap : tuK Q ds e g = (ds.length ≤ line ∧ Q (.dat (.tup ds)) e g) := rfl
def liK (Q : SV → Env → Rng → Prop) (ds : List D) (e : Env) (g : Rng) : Prop := ds.length ≤ line ∧ Q (.own ds) e g
theorem q_lst {ms : List (M D)} : Wp (mLst ms e g) Q = Wp (mAll ms e g) (liK Q) := wp_lst
theorem liK_ap : liK Q ds e g = (ds.length ≤ line ∧ Q (.own ds) e g) := rfl
def ixK1 (i : M SV) (Q : SV → Env → Rng → Prop) (x : SV) (e : Env) (g : Rng) : Prop := Wp (i e g) fun y e g => WO (opIdx x y) fun z => Q z e g
def ixK2 (x : SV) (Q : SV → Env → Rng → Prop) (y : SV) (e : Env) (g : Rng) : Prop := WO (opIdx x y) fun z => Q z e g
theorem q_idx : Wp (mIdx a c e g) Q = Wp (a e g) (ixK1 c Q) := wp_idx
theorem ixK1_ap : ixK1 a Q x e g = Wp (a e g) (ixK2 x Q) := rfl
theorem ixK2_ap : ixK2 x Q y e g = WO (opIdx x y) (vK Q e g) := rfl
def dK (k : SV → Prop) (d : D) : Prop := k (.dat d)
theorem dK_ap {k : SV → Prop} : dK k d = k (.dat d) := rfl
theorem q_idxT {i : Int} {k : SV → Prop} : WO (opIdx (.dat (.tup ds)) (.dat (.int i))) k = WO (ixGet ds i) (dK k) := wo_idxT
theorem q_idxL {i : Int} {k : SV → Prop} : WO (opIdx (.dat (.lst ds)) (.dat (.int i))) k = WO (ixGet ds i) (dK k) := wo_idxT
theorem q_idxO {i : Int} {k : SV → Prop} : WO (opIdx (.own ds) (.dat (.int i))) k = WO (ixGet ds i) (dK k) := wo_idxT
def coK {α β : Type} (f : α → β) (k : β → Prop) (a : α) : Prop := k (f a)
theorem coK_ap {f : α → β} {k : β → Prop} {a : α} : coK f k a = k (f a) := rfl
theorem q_ixMap {xs : List α} {f : α → β} {k : β → Prop} {i : Int} : WO (ixGet (xs.map f) i) k = WO (ixGet xs i) (coK f k) := wo_ixMap
theorem q_ix0 {a : α} {l : List α} {k : α → Prop} : WO (ixGet (a :: l) 0) k = k a := by rw [ixGet_0]; rfl
theorem q_ix1 {a b : α} {l : List α} {k : α → Prop} : WO (ixGet (a :: b :: l) 1) k = k b := by rw [ixGet_1]; rfl
theorem q_ix2 {a b c : α} {l : List α} {k : α → Prop} : WO (ixGet (a :: b :: c :: l) 2) k = k c := by rw [ixGet_2]; rfl
theorem q_ix3 {a b c d : α} {l : List α} {k : α → Prop} : WO (ixGet (a :: b :: c :: d :: l) 3) k = k d := by rw [ixGet_3]; rfl
theorem ix_use {xs : List α} {i : Nat} {v : α} {k : α → Prop} (h : xs[i]? = some v) (hk : k v) : WO (ixGet xs (i : Int)) k := by rw [ixGet_of h]; exact hk
theorem ix_useI {xs : List α} {z : Int} {i : Nat} {v : α} {k : α → Prop} (hz : z = (i : Int)) (h : xs[i]? = some v) (hk : k v) : WO (ixGet xs z) k := by subst hz; exact ix_use h hk
def owK (k : SV → Prop) (ds : List D) : Prop := k (.own ds)
theorem owK_ap {k : SV → Prop} : owK k ds = k (.own ds) := rfl
theorem q_rowsI {i : Int} {k : SV → Prop} : WO (opRow (.owns dss) (.dat (.int i))) k = WO (ixGet dss i) (owK k) := wo_rowsI
def rpK1 (x : Nat) (i : M SV) (Q : SV → Env → Rng → Prop) (e : Env) (g : Rng) (_ : SV) : Prop := Wp (i e g) fun y e g => onV e[x]? fun sv => WO (opRow sv y) fun z => Q z e g
def rpK2 (x : Nat) (Q : SV → Env → Rng → Prop) (y : SV) (e : Env) (g : Rng) : Prop := onV e[x]? fun sv => WO (opRow sv y) fun z => Q z e g
def rpK3 (y : SV) (Q : SV → Env → Rng → Prop) (e : Env) (g : Rng) (sv : SV) : Prop := WO (opRow sv y) fun z => Q z e g
theorem q_rowP {i : M SV} : Wp (mRowP n i e g) Q = onV e[n]? (rpK1 n i Q e g) := wp_rowP
theorem rpK1_ap {i : M SV} : rpK1 n i Q e g x = Wp (i e g) (rpK2 n Q) := rfl
theorem rpK2_ap : rpK2 n Q y e g = onV e[n]? (rpK3 y Q e g) := rfl
theorem rpK3_ap : rpK3 y Q e g x = WO (opRow x y) (vK Q e g) := rfl
theorem q_part0 : Wp (mPart none e g) QO = QO none e g := rfl
def ptK (Q : Option Int → Env → Rng → Prop) (x : SV) (e : Env) (g : Rng) : Prop := WO x.int fun i => Q (some i) e g
theorem q_part1 : Wp (mPart (some a) e g) QO = Wp (a e g) (ptK QO) := wp_part_some
theorem ptK_ap {i : Int} : ptK QO (.dat (.int i)) e g = QO (some i) e g := rfl
def slK1 (lo hi : Option (M SV)) (Q : SV → Env → Rng → Prop) (x : SV) (e : Env) (g : Rng) : Prop := Wp (mPart lo e g) fun l e g => Wp (mPart hi e g) fun h e g => WO (opSlice x l h) fun z => Q z e g
def slK2 (hi : Option (M SV)) (x : SV) (Q : SV → Env → Rng → Prop) (l : Option Int) (e : Env) (g : Rng) : Prop := Wp (mPart hi e g) fun h e g => WO (opSlice x l h) fun z => Q z e g
def slK3 (x : SV) (l : Option Int) (Q : SV → Env → Rng → Prop) (h : Option Int) (e : Env) (g : Rng) : Prop := WO (opSlice x l h) fun z => Q z e g
theorem q_slice {lo hi : Option (M SV)} : Wp (mSlice a lo hi e g) Q = Wp (a e g) (slK1 lo hi Q) := wp_slice
theorem slK1_ap {lo hi : Option (M SV)} : slK1 lo hi Q x e g = Wp (mPart lo e g) (slK2 hi x Q) := rfl
theorem slK2_ap {hi : Option (M SV)} {l : Option Int} : slK2 hi x Q l e g = Wp (mPart hi e g) (slK3 x l Q) := rfl
theorem slK3_ap {l h : Option Int} : slK3 x l Q h e g = WO (opSlice x l h) (vK Q e g) := rfl
/-! sources -/
def lK (Q : List D → Env → Rng → Prop) (e : Env) (g : Rng) (ds : List D) : Prop := Q ds e g
theorem lK_ap : lK QL e g ds = QL ds e g := rfl
def sqK (Q : List D → Env → Rng → Prop) (x : SV) (e : Env) (g : Rng) : Prop := WO (strItems x) fun ds => Q ds e g
theorem q_seq : Wp ((Src.seq a).items e g) QL = Wp (a e g) (sqK QL) := wp_seq
theorem sqK_lst : sqK QL (.dat (.lst ds)) e g = QL ds e g := rfl
theorem sqK_tup : sqK QL (.dat (.tup ds)) e g = QL ds e g := rfl
theorem sqK_own : sqK QL (.own ds) e g = QL ds e g := rfl
def rgK (x : SV) (Q : List D → Env → Rng → Prop) (y : SV) (e : Env) (g : Rng) : Prop := WO (opRange x y) fun ds => Q ds e g
def rgK0 (b : M SV) (Q : List D → Env → Rng → Prop) (x : SV) (e : Env) (g : Rng) : Prop := Wp (b e g) fun y e g => WO (opRange x y) fun ds => Q ds e g
theorem q_rng1 : Wp ((Src.rng1 a).items e g) QL = Wp (a e g) (rgK (.dat (.int 0)) QL) := wp_rng1
theorem q_rng2 : Wp ((Src.rng2 a c).items e g) QL = Wp (a e g) (rgK0 c QL) := wp_rng2
theorem rgK0_ap : rgK0 a QL x e g = Wp (a e g) (rgK x QL) := rfl
theorem rgK_ap : rgK x QL y e g = WO (opRange x y) (lK QL e g) := rfl
def enK (k : Int) (Q : List D → Env → Rng → Prop) (x : SV) (e : Env) (g : Rng) : Prop := WO x.seq fun ds => Q (enumD k ds) e g
theorem q_enum : Wp ((Src.enum a).items e g) QL = Wp (a e g) (enK 0 QL) := wp_enum
theorem q_enumK {k : Int} : Wp ((Src.enumFrom a k).items e g) QL = Wp (a e g) (enK k QL) := wp_enumK
theorem enK_lst {k : Int} : enK k QL (.dat (.lst ds)) e g = QL (enumD k ds) e g := rfl
theorem enK_tup {k : Int} : enK k QL (.dat (.tup ds)) e g = QL (enumD k ds) e g := rfl
theorem enK_own {k : Int} : enK k QL (.own ds) e g = QL (enumD k ds) e g := rfl
def zpK1 (b : M SV) (Q : List D → Env → Rng → Prop) (x : SV) (e : Env) (g : Rng) : Prop := Wp (b e g) fun y e g => WO x.seq fun xs => WO y.seq fun ys => Q (zipD2 xs ys) e g
def zpK2 (x : SV) (Q : List D → Env → Rng → Prop) (y : SV) (e : Env) (g : Rng) : Prop := WO x.seq fun xs => WO y.seq fun ys => Q (zipD2 xs ys) e g
def zpK3 (xs : List D) (Q : List D → Env → Rng → Prop) (y : SV) (e : Env) (g : Rng) : Prop := WO y.seq fun ys => Q (zipD2 xs ys) e g
theorem q_zip2 : Wp ((Src.zip2 a c).items e g) QL = Wp (a e g) (zpK1 c QL) := wp_zip2
theorem zpK1_ap : zpK1 a QL x e g = Wp (a e g) (zpK2 x QL) := rfl
theorem zpK2_lst : zpK2 (.dat (.lst ds)) QL y e g = zpK3 ds QL y e g := rfl
theorem zpK2_tup : zpK2 (.dat (.tup ds)) QL y e g = zpK3 ds QL y e g := rfl
theorem zpK2_own : zpK2 (.own ds) QL y e g = zpK3 ds QL y e g := rfl
theorem zpK3_lst {xs : List D} : zpK3 xs QL (.dat (.lst ds)) e g = QL (zipD2 xs ds) e g := rfl
theorem zpK3_tup {xs : List D} : zpK3 xs QL (.dat (.tup ds)) e g = QL (zipD2 xs ds) e g := rfl
theorem zpK3_own {xs : List D} : zpK3 xs QL (.own ds) e g = QL (zipD2 xs ds) e g := rfl
def z3K1 (b c : M SV) (Q : List D → Env → Rng → Prop) (x : SV) (e : Env) (g : Rng) : Prop := Wp (b e g) fun y e g => Wp (c e g) fun z e g => WO x.seq fun xs => WO y.seq fun ys => WO z.seq fun zs => Q (zipD3 xs ys zs) e g
def z3K2 (c : M SV) (x : SV) (Q : List D → Env → Rng → Prop) (y : SV) (e : Env) (g : Rng) : Prop := Wp (c e g) fun z e g => WO x.seq fun xs => WO y.seq fun ys => WO z.seq fun zs => Q (zipD3 xs ys zs) e g
def z3K3 (x y : SV) (Q : List D → Env → Rng → Prop) (z : SV) (e : Env) (g : Rng) : Prop := WO x.seq fun xs => WO y.seq fun ys => WO z.seq fun zs => Q (zipD3 xs ys zs) e g
def z3K4 (xs : List D) (y : SV) (Q : List D → Env → Rng → Prop) (z : SV) (e : Env) (g : Rng) : Prop := WO y.seq fun ys => WO z.seq fun zs => Q (zipD3 xs ys zs) e g
def z3K5 (xs ys : List D) (Q : List D → Env → Rng → Prop) (z : SV) (e : Env) (g : Rng) : Prop := WO z.seq fun zs => Q (zipD3 xs ys zs) e g
theorem q_zip3 {b : M SV} : Wp ((Src.zip3 a b c).items e g) QL = Wp (a e g) (z3K1 b c QL) := wp_zip3
theorem z3K1_ap : z3K1 a c QL x e g = Wp (a e g) (z3K2 c x QL) := rfl
theorem z3K2_ap : z3K2 a x QL y e g = Wp (a e g) (z3K3 x y QL) := rfl
theorem z3K3_tup : z3K3 (.dat (.tup ds)) y QL z e g = z3K4 ds y QL z e g := rfl
theorem z3K3_lst : z3K3 (.dat (.lst ds)) y QL z e g = z3K4 ds y QL z e g := rfl
theorem z3K3_own : z3K3 (.own ds) y QL z e g = z3K4 ds y QL z e g := rfl
theorem z3K4_tup {xs : List D} : z3K4 xs (.dat (.tup ds)) QL z e g = z3K5 xs ds QL z e g := rfl
theorem z3K4_lst {xs : List D} : z3K4 xs (.dat (.lst ds)) QL z e g = z3K5 xs ds QL z e g := rfl
theorem z3K4_own {xs : List D} : z3K4 xs (.own ds) QL z e g = z3K5 xs ds QL z e g := rfl
theorem z3K5_tup {xs ys : List D} : z3K5 xs ys QL (.dat (.tup ds)) e g = QL (zipD3 xs ys ds) e g := rfl
theorem z3K5_lst {xs ys : List D} : z3K5 xs ys QL (.dat (.lst ds)) e g = QL (zipD3 xs ys ds) e g := rfl
theorem z3K5_own {xs ys : List D} : z3K5 xs ys QL (.own ds) e g = QL (zipD3 xs ys ds) e g := rfl
/-! calls -/
def caK (n : Nat) (f : SemF) (Q : SV → Env → Rng → Prop) (ds : List D) (e : Env) (g : Rng) : Prop := ds.length = n ∧ WF (f ds g) fun sv g => Q sv e g
def reK (Q : SV → Env → Rng → Prop) (e : Env) (sv : SV) (g : Rng) : Prop := Q sv e g
theorem reK_ap : reK Q e x g = Q x e g := rfl
theorem q_call {f : SemF} {ms : List (M D)} : Wp (mCall n f ms e g) Q = Wp (mAll ms e g) (caK n f Q) := wp_call
theorem caK_ap {f : SemF} : caK n f Q ds e g = (ds.length = n ∧ WF (f ds g) (reK Q e)) := rfl
theorem wf_of {r : FRes} {v : SV} {k : SV → Rng → Prop} (h : r = .ok v g) (hk : k v g) : WF r k := by rw [h]; exact hk
def bnK (b : Bn) (Q : SV → Env → Rng → Prop) (xs : List SV) (e : Env) (g : Rng) : Prop := WO (opBn b xs) fun z => Q z e g
theorem q_bn {b : Bn} {ms : List (M SV)} : Wp (mBn b ms e g) Q = Wp (mAll ms e g) (bnK b Q) := wp_bn
theorem bnK_ap {b : Bn} {xs : List SV} : bnK b Q xs e g = WO (opBn b xs) (vK Q e g) := rfl
def sqV (k : List D → Prop) (x : SV) : Prop := WO x.seq k
theorem sqV_lst {k : List D → Prop} : sqV k (.dat (.lst ds)) = k ds := rfl
theorem sqV_tup {k : List D → Prop} : sqV k (.dat (.tup ds)) = k ds := rfl
theorem sqV_own {k : List D → Prop} : sqV k (.own ds) = k ds := rfl
def liV (k : List D → Prop) (x : SV) : Prop := WO x.list k
theorem liV_lst {k : List D → Prop} : liV k (.dat (.lst ds)) = k ds := rfl
theorem liV_own {k : List D → Prop} : liV k (.own ds) = k ds := rfl
def suK (k : SV → Prop) (ds : List D) : Prop := WO (D.ints ds) fun ns => k (.dat (.int ns.sum))
theorem q_sum {k : SV → Prop} : WO (opBn .sum [x]) k = sqV (suK k) x := wo_sum
theorem suK_ap {k : SV → Prop} {ns : List Int} : suK k (ns.map D.int) = k (.dat (.int ns.sum)) := by unfold suK; rw [wo_ints]
def mxK (k : SV → Prop) (ds : List D) : Prop := WO (D.ints ds) fun ns => WO (opMax ns) k
theorem q_max {k : SV → Prop} : WO (opBn .max [x]) k = sqV (mxK k) x := wo_max
theorem mxK_ap {k : SV → Prop} {ns : List Int} : mxK k (ns.map D.int) = WO (opMax ns) k := by unfold mxK; rw [wo_ints]
def mnK (k : SV → Prop) (ds : List D) : Prop := WO (D.ints ds) fun ns => WO (opMin ns) k
theorem q_min {k : SV → Prop} : WO (opBn .min [x]) k = sqV (mnK k) x := wo_min
theorem mnK_ap {k : SV → Prop} {ns : List Int} : mnK k (ns.map D.int) = WO (opMin ns) k := by unfold mnK; rw [wo_ints]
def aaK (k : SV → Prop) (ds : List D) : Prop := WO (D.bls ds) fun bs => k (.dat (.bl (bs.all id)))
theorem q_allB {k : SV → Prop} : WO (opBn .all [x]) k = liV (aaK k) x := wo_all
theorem aaK_ap {k : SV → Prop} {bs : List Bool} : aaK k (bs.map D.bl) = k (.dat (.bl (bs.all id))) := by unfold aaK; rw [wo_bls]
def anK (k : SV → Prop) (ds : List D) : Prop := WO (D.bls ds) fun bs => k (.dat (.bl (bs.any id)))
theorem q_anyB {k : SV → Prop} : WO (opBn .any [x]) k = liV (anK k) x := wo_any
theorem anK_ap {k : SV → Prop} {bs : List Bool} : anK k (bs.map D.bl) = k (.dat (.bl (bs.any id))) := by unfold anK; rw [wo_bls]
def isK (ts : List Ty) (Q : Bool → Env → Rng → Prop) (x : SV) (e : Env) (g : Rng) : Prop := WO x.kind fun d => Q (ts.any fun t => d.isa t) e g
theorem q_isa {ts : List Ty} : Wp (mIsa a ts e g) QB = Wp (a e g) (isK ts QB) := wp_isa
def isaB (d : D) (ts : List Ty) : Bool := ts.any fun t => d.isa t
theorem isaB_1 {t : Ty} : isaB d [t] = d.isa t := by unfold isaB; simp
theorem isK_int {ts : List Ty} {i : Int} : isK ts QB (.dat (.int i)) e g = QB (isaB (.int i) ts) e g := rfl
theorem isK_bl {ts : List Ty} : isK ts QB (.dat (.bl b)) e g = QB (isaB (.bl b) ts) e g := rfl
theorem isK_non {ts : List Ty} : isK ts QB (.dat .non) e g = QB (isaB .non ts) e g := rfl
theorem isK_str {ts : List Ty} {s : Str} : isK ts QB (.dat (.str s)) e g = QB (isaB (.str s) ts) e g := rfl
theorem isK_tup {ts : List Ty} : isK ts QB (.dat (.tup ds)) e g = QB (isaB (.tup ds) ts) e g := rfl
theorem isK_lst {ts : List Ty} : isK ts QB (.dat (.lst ds)) e g = QB (isaB (.lst ds) ts) e g := rfl
theorem isK_mdl {ts : List Ty} : isK ts QB (.dat (.mdl d)) e g = QB (isaB (.mdl d) ts) e g := rfl
theorem isK_own {ts : List Ty} : isK ts QB (.own ds) e g = QB (isaB (.lst ds) ts) e g := rfl
def idK1 (x : M D) (Q : SV → Env → Rng → Prop) (l : SV) (e : Env) (g : Rng) : Prop := WO l.list fun _ => Wp (x e g) fun d e g => WO (opIndex l d) fun z => Q z e g
def idK2 (l : SV) (Q : SV → Env → Rng → Prop) (d : D) (e : Env) (g : Rng) : Prop := WO (opIndex l d) fun z => Q z e g
theorem q_index : Wp (mIndex a m e g) Q = Wp (a e g) (idK1 m Q) := wp_index
theorem idK1_own : idK1 m Q (.own ds) e g = Wp (m e g) (idK2 (.own ds) Q) := rfl
theorem idK2_ap : idK2 x Q d e g = WO (opIndex x d) (vK Q e g) := rfl
def taK (Q : SV → Env → Rng → Prop) (v : SV) (e : Env) (g : Rng) : Prop := WO (opTabs v) fun z => Q z e g
theorem q_tabs : Wp (mTabs a e g) Q = Wp (a e g) (taK Q) := wp_tabs
theorem taK_ap : taK Q (.dat (.mdl d)) e g = Q (.dat d) e g := rfl
def prK (f : SemF) (Q : SV → Env → Rng → Prop) (v : SV) (e : Env) (g : Rng) : Prop := WO (asMdl v) fun t => WF (f [.mdl t] g) fun sv g => Q sv e g
theorem q_prop {f : SemF} : Wp (mProp f a e g) Q = Wp (a e g) (prK f Q) := wp_prop
theorem prK_ap {f : SemF} : prK f Q (.dat (.mdl d)) e g = WF (f [.mdl d] g) (reK Q e) := rfl
def cpK (own : List Nat) (t : Tgt) (cd : M Bool) (el : M D) (Q : SV → Env → Rng → Prop) (items : List D) (e : Env) (g : Rng) : Prop := still e own = true ∧ Wp (compLoop own t cd el items [] (wipe e own) g) fun ys e' g' => Q (.own ys) (unwipe e e' own) g'
def cpK2 (own : List Nat) (e : Env) (Q : SV → Env → Rng → Prop) (ys : List D) (e' : Env) (g' : Rng) : Prop := Q (.own ys) (unwipe e e' own) g'
theorem q_comp {own : List Nat} {t : Tgt} {src : Src} {cd : M Bool} {el : M D} : Wp (mComp own t src cd el e g) Q = Wp (src.items e g) (cpK own t cd el Q) := wp_comp
theorem cpK_ap {own : List Nat} {t : Tgt} {cd : M Bool} {el : M D} : cpK own t cd el Q ds e g = (still e own = true ∧ Wp (compLoop own t cd el ds [] (wipe e own) g) (cpK2 own e Q)) := rfl
theorem cpK2_ap {own : List Nat} : cpK2 own e0 Q ds e g = Q (.own ds) (unwipe e0 e own) g := rfl
def rcK (own : List Nat) (t : Tgt) (Q : SV → Env → Rng → Prop) (items : List D) (e : Env) (g : Rng) : Prop := still e own = true ∧ Wp (compLoop own t (mRet true) (mRet (.lst [])) items [] (wipe e own) g) fun ys e' g' => Q (.owns (ys.map fun _ => [])) (unwipe e e' own) g'
def rcK2 (own : List Nat) (e : Env) (Q : SV → Env → Rng → Prop) (ys : List D) (e' : Env) (g' : Rng) : Prop := Q (.owns (ys.map fun _ => [])) (unwipe e e' own) g'
theorem q_rowsC {own : List Nat} {t : Tgt} {src : Src} : Wp (mRowsC own t src e g) Q = Wp (src.items e g) (rcK own t Q) := wp_rowsC
theorem rcK_ap {own : List Nat} {t : Tgt} : rcK own t Q ds e g = (still e own = true ∧ Wp (compLoop own t (mRet true) (mRet (.lst [])) ds [] (wipe e own) g) (rcK2 own e Q)) := rfl
theorem rcK2_ap {own : List Nat} : rcK2 own e0 Q ds e g = Q (.owns (ds.map fun _ => [])) (unwipe e0 e own) g := rfl
theorem still_nil : still e [] = true := rfl
def okAt : Option (Option SV) → Bool
  | some (some (.dat _)) => true
  | some none => true
  | none => true
  | _ => false
theorem still_cons {is : List Nat} : still e (i :: is) = (okAt e[i]? && still e is) := by
  unfold still okAt
  first | (rw [List.all_cons]; done) | (rw [List.all_cons]; congr 1; done)
theorem okAt_0 {l : Env} : okAt ((some (.dat d) :: l)[0]?) = true := rfl
theorem okAt_m {l : Env} {v : Option D} : okAt ((v.map SV.dat :: l)[0]?) = true := by cases v <;> rfl
theorem okAt_n {l : Env} : okAt ((none :: l)[0]?) = true := rfl
theorem okAt_s {l : Env} {o : Option SV} : okAt ((o :: l)[n + 1]?) = okAt (l[n]?) := rfl
theorem wipe_nil : wipe e [] = e := rfl
theorem wipe_cons {is : List Nat} : wipe e (i :: is) = (wipe e is).set i none := rfl
theorem unwipe_nil : unwipe e0 e [] = e := rfl
theorem unwipe_cons {is : List Nat} : unwipe e0 e (i :: is) = (unwipe e0 e is).set i (e0[i]?.join) := rfl
theorem join_0 {l : Env} {o : Option SV} : ((o :: l)[0]?).join = o := rfl
theorem join_s {l : Env} {o : Option SV} : ((o :: l)[n + 1]?).join = (l[n]?).join := rfl
theorem set_0 {l : Env} {o p : Option SV} : (o :: l).set 0 p = p :: l := rfl
theorem set_s {l : Env} {o p : Option SV} : (o :: l).set (n + 1) p = o :: l.set n p := rfl
/-! statements -/
theorem q_nil : Wp (sNil e g) QS = QS none e g := rfl
theorem q_seqS {a b : S} : Wp (sSeq a b e g) QS = Wp (a e g) (seqK b QS) := wp_sSeq
def seK (i : Nat) (Q : Option SV → Env → Rng → Prop) (sv : SV) (e : Env) (g : Rng) : Prop := i < e.length ∧ Q none (e.set i (some sv)) g
theorem q_set : Wp (sSet i a e g) QS = Wp (a e g) (seK i QS) := wp_sSet
theorem seK_ap : seK i QS x e g = (i < e.length ∧ QS none (e.set i (some x)) g) := rfl
def p2K1 (i j : Nat) (b : M SV) (Q : Option SV → Env → Rng → Prop) (x : SV) (e : Env) (g : Rng) : Prop := Wp (b e g) fun y e g => i < e.length ∧ j < e.length ∧ Q none ((e.set i (some x)).set j (some y)) g
def p2K2 (i j : Nat) (x : SV) (Q : Option SV → Env → Rng → Prop) (y : SV) (e : Env) (g : Rng) : Prop := i < e.length ∧ j < e.length ∧ Q none ((e.set i (some x)).set j (some y)) g
theorem q_par2 : Wp (sPar2 i j a c e g) QS = Wp (a e g) (p2K1 i j c QS) := wp_sPar2
theorem p2K1_ap : p2K1 i j a QS x e g = Wp (a e g) (p2K2 i j x QS) := rfl
theorem p2K2_ap : p2K2 i j x QS y e g = (i < e.length ∧ j < e.length ∧ QS none ((e.set i (some x)).set j (some y)) g) := rfl
def p3K1 (i j k : Nat) (b c : M SV) (Q : Option SV → Env → Rng → Prop) (x : SV) (e : Env) (g : Rng) : Prop := Wp (b e g) fun y e g => Wp (c e g) fun z e g => i < e.length ∧ j < e.length ∧ k < e.length ∧ Q none (((e.set i (some x)).set j (some y)).set k (some z)) g
def p3K2 (i j k : Nat) (c : M SV) (x : SV) (Q : Option SV → Env → Rng → Prop) (y : SV) (e : Env) (g : Rng) : Prop := Wp (c e g) fun z e g => i < e.length ∧ j < e.length ∧ k < e.length ∧ Q none (((e.set i (some x)).set j (some y)).set k (some z)) g
def p3K3 (i j k : Nat) (x y : SV) (Q : Option SV → Env → Rng → Prop) (z : SV) (e : Env) (g : Rng) : Prop := i < e.length ∧ j < e.length ∧ k < e.length ∧ Q none (((e.set i (some x)).set j (some y)).set k (some z)) g
theorem q_par3 {b : M SV} {k : Nat} : Wp (sPar3 i j k a b c e g) QS = Wp (a e g) (p3K1 i j k b c QS) := wp_sPar3
theorem p3K1_ap {k : Nat} : p3K1 i j k a c QS x e g = Wp (a e g) (p3K2 i j k c x QS) := rfl
theorem p3K2_ap {k : Nat} : p3K2 i j k a x QS y e g = Wp (a e g) (p3K3 i j k x y QS) := rfl
theorem p3K3_ap {k : Nat} : p3K3 i j k x y QS z e g = (i < e.length ∧ j < e.length ∧ k < e.length ∧ QS none (((e.set i (some x)).set j (some y)).set k (some z)) g) := rfl
def unK (t : Tgt) (Q : Option SV → Env → Rng → Prop) (d : D) (e : Env) (g : Rng) : Prop := WO (t.bind d e) fun e' => Q none e' g
theorem q_unp {t : Tgt} : Wp (sUnp t m e g) QS = Wp (m e g) (unK t QS) := wp_sUnp
theorem unK_ap {is : List Nat} : unK (.names is) QS (.tup ds) e g = (ds.length = is.length ∧ QS none (setAll e is ds) g) := wo_if
theorem setAll_nil : setAll e [] ds = e := by cases ds <;> rfl
theorem setAll_cons {is : List Nat} : setAll e (i :: is) (d :: ds) = setAll (e.set i (some (.dat d))) is ds := rfl
def drK (Q : Option SV → Env → Rng → Prop) (_ : SV) (e : Env) (g : Rng) : Prop := Q none e g
theorem q_drop : Wp (sDrop a e g) QS = Wp (a e g) (drK QS) := wp_sDrop
theorem drK_ap : drK QS x e g = QS none e g := rfl
def rtK (Q : Option SV → Env → Rng → Prop) (x : SV) (e : Env) (g : Rng) : Prop := Q (some x) e g
theorem q_rets : Wp (sRet a e g) QS = Wp (a e g) (rtK QS) := wp_sRet
theorem rtK_ap : rtK QS x e g = QS (some x) e g := rfl
theorem ownK_0 {k : List D → Prop} {l : Env} : ownK ((some (.own ds) :: l)[0]?) k = k ds := rfl
theorem ownK_s {k : List D → Prop} {l : Env} {o : Option SV} : ownK ((o :: l)[n + 1]?) k = ownK (l[n]?) k := rfl
def apK1 (i : Nat) (m : M D) (Q : Option SV → Env → Rng → Prop) (e : Env) (g : Rng) (_ : List D) : Prop := Wp (m e g) fun d e g => ownK e[i]? fun ds => ds.length < line ∧ Q none (e.set i (some (.own (ds ++ [d])))) g
def apK2 (i : Nat) (Q : Option SV → Env → Rng → Prop) (d : D) (e : Env) (g : Rng) : Prop := ownK e[i]? fun ds => ds.length < line ∧ Q none (e.set i (some (.own (ds ++ [d])))) g
def apK3 (i : Nat) (d : D) (Q : Option SV → Env → Rng → Prop) (e : Env) (g : Rng) (ds : List D) : Prop := ds.length < line ∧ Q none (e.set i (some (.own (ds ++ [d])))) g
theorem q_app : Wp (sApp i m e g) QS = ownK e[i]? (apK1 i m QS e g) := wp_sApp
theorem apK1_ap : apK1 i m QS e g ds = Wp (m e g) (apK2 i QS) := rfl
theorem apK2_ap : apK2 i QS d e g = ownK e[i]? (apK3 i d QS e g) := rfl
theorem apK3_ap : apK3 i d QS e g ds = (ds.length < line ∧ QS none (e.set i (some (.own (ds ++ [d])))) g) := rfl
def puK1 (i : Nat) (k : M SV) (Q : Option SV → Env → Rng → Prop) (d : D) (e : Env) (g : Rng) : Prop := ownK e[i]? fun _ => Wp (k e g) fun kv e g => WO kv.int fun z => ownK e[i]? fun ds => WO (ixAt ds.length z) fun j => Q none (e.set i (some (.own (ds.set j d)))) g
def puK2 (i : Nat) (k : M SV) (d : D) (Q : Option SV → Env → Rng → Prop) (e : Env) (g : Rng) (_ : List D) : Prop := Wp (k e g) fun kv e g => WO kv.int fun z => ownK e[i]? fun ds => WO (ixAt ds.length z) fun j => Q none (e.set i (some (.own (ds.set j d)))) g
def puK3 (i : Nat) (d : D) (Q : Option SV → Env → Rng → Prop) (kv : SV) (e : Env) (g : Rng) : Prop := WO kv.int fun z => ownK e[i]? fun ds => WO (ixAt ds.length z) fun j => Q none (e.set i (some (.own (ds.set j d)))) g
def puK4 (i : Nat) (d : D) (z : Int) (Q : Option SV → Env → Rng → Prop) (e : Env) (g : Rng) (ds : List D) : Prop := WO (ixAt ds.length z) fun j => Q none (e.set i (some (.own (ds.set j d)))) g
def puK5 (i : Nat) (d : D) (ds : List D) (Q : Option SV → Env → Rng → Prop) (e : Env) (g : Rng) (j : Nat) : Prop := Q none (e.set i (some (.own (ds.set j d)))) g
theorem q_put : Wp (sPut i a m e g) QS = Wp (m e g) (puK1 i a QS) := wp_sPut
theorem puK1_ap : puK1 i a QS d e g = ownK e[i]? (puK2 i a d QS e g) := rfl
theorem puK2_ap : puK2 i a d QS e g ds = Wp (a e g) (puK3 i d QS) := rfl
theorem puK3_ap {z : Int} : puK3 i d QS (.dat (.int z)) e g = ownK e[i]? (puK4 i d z QS e g) := rfl
theorem puK4_ap {z : Int} : puK4 i d z QS e g ds = WO (ixAt ds.length z) (puK5 i d ds QS e g) := rfl
theorem puK5_ap : puK5 i d ds QS e g j = QS none (e.set i (some (.own (ds.set j d)))) g := rfl
theorem ixAt_use {z : Int} {k : Nat → Prop} (hz : z = (i : Int)) (h : i < n) (hk : k i) : WO (ixAt n z) k := by
  subst hz
  rw [show ixAt n (i : Int) = some i from ix_nat h]; exact hk
def aiK1 (i : Nat) (k m : M SV) (Q : Option SV → Env → Rng → Prop) (e : Env) (g : Rng) (_ : List D) : Prop := Wp (k e g) fun kv e g => WO kv.int fun z => ownK e[i]? fun ds => WO (ixAt ds.length z) fun j => WO (getI ds j) fun x => Wp (m e g) fun mv e g => WO mv.int fun y => ownK e[i]? fun ds' => ds'.length = ds.length ∧ Q none (e.set i (some (.own (ds'.set j (.int (x + y)))))) g
def aiK2 (i : Nat) (m : M SV) (Q : Option SV → Env → Rng → Prop) (kv : SV) (e : Env) (g : Rng) : Prop := WO kv.int fun z => ownK e[i]? fun ds => WO (ixAt ds.length z) fun j => WO (getI ds j) fun x => Wp (m e g) fun mv e g => WO mv.int fun y => ownK e[i]? fun ds' => ds'.length = ds.length ∧ Q none (e.set i (some (.own (ds'.set j (.int (x + y)))))) g
def aiK3 (i : Nat) (m : M SV) (z : Int) (Q : Option SV → Env → Rng → Prop) (e : Env) (g : Rng) (ds : List D) : Prop := WO (ixAt ds.length z) fun j => WO (getI ds j) fun x => Wp (m e g) fun mv e g => WO mv.int fun y => ownK e[i]? fun ds' => ds'.length = ds.length ∧ Q none (e.set i (some (.own (ds'.set j (.int (x + y)))))) g
def aiK4 (i : Nat) (m : M SV) (ds : List D) (Q : Option SV → Env → Rng → Prop) (e : Env) (g : Rng) (j : Nat) : Prop := WO (getI ds j) fun x => Wp (m e g) fun mv e g => WO mv.int fun y => ownK e[i]? fun ds' => ds'.length = ds.length ∧ Q none (e.set i (some (.own (ds'.set j (.int (x + y)))))) g
def aiK5 (i : Nat) (m : M SV) (ds : List D) (j : Nat) (Q : Option SV → Env → Rng → Prop) (e : Env) (g : Rng) (x : Int) : Prop := Wp (m e g) fun mv e g => WO mv.int fun y => ownK e[i]? fun ds' => ds'.length = ds.length ∧ Q none (e.set i (some (.own (ds'.set j (.int (x + y)))))) g
def aiK6 (i : Nat) (ds : List D) (j : Nat) (x : Int) (Q : Option SV → Env → Rng → Prop) (mv : SV) (e : Env) (g : Rng) : Prop := WO mv.int fun y => ownK e[i]? fun ds' => ds'.length = ds.length ∧ Q none (e.set i (some (.own (ds'.set j (.int (x + y)))))) g
def aiK7 (i : Nat) (ds : List D) (j : Nat) (x y : Int) (Q : Option SV → Env → Rng → Prop) (e : Env) (g : Rng) (ds' : List D) : Prop := ds'.length = ds.length ∧ Q none (e.set i (some (.own (ds'.set j (.int (x + y)))))) g
theorem q_augI : Wp (sAugI i a c e g) QS = ownK e[i]? (aiK1 i a c QS e g) := wp_sAugI
theorem aiK1_ap : aiK1 i a c QS e g ds = Wp (a e g) (aiK2 i c QS) := rfl
theorem aiK2_ap {z : Int} : aiK2 i a QS (.dat (.int z)) e g = ownK e[i]? (aiK3 i a z QS e g) := rfl
theorem aiK3_ap {z : Int} : aiK3 i a z QS e g ds = WO (ixAt ds.length z) (aiK4 i a ds QS e g) := rfl
theorem aiK4_ap : aiK4 i a ds QS e g j = WO (getI ds j) (aiK5 i a ds j QS e g) := rfl
theorem aiK5_ap {x : Int} : aiK5 i a ds j QS e g x = Wp (a e g) (aiK6 i ds j x QS) := rfl
theorem aiK6_ap {x y : Int} : aiK6 i ds j x QS (.dat (.int y)) e g = ownK e[i]? (aiK7 i ds j x y QS e g) := rfl
theorem aiK7_ap {x y : Int} {ds' : List D} : aiK7 i ds j x y QS e g ds' = (ds'.length = ds.length ∧ QS none (e.set i (some (.own (ds'.set j (.int (x + y)))))) g) := rfl
def auK1 (i : Nat) (m : M SV) (Q : Option SV → Env → Rng → Prop) (e : Env) (g : Rng) (sv : SV) : Prop := WO sv.int fun x => Wp (m e g) fun mv e g => WO mv.int fun y => i < e.length ∧ Q none (e.set i (some (.dat (.int (x + y))))) g
def auK2 (i : Nat) (x : Int) (Q : Option SV → Env → Rng → Prop) (mv : SV) (e : Env) (g : Rng) : Prop := WO mv.int fun y => i < e.length ∧ Q none (e.set i (some (.dat (.int (x + y))))) g
theorem q_aug : Wp (sAug i a e g) QS = onV e[i]? (auK1 i a QS e g) := wp_sAug
theorem auK1_ap {x : Int} : auK1 i a QS e g (.dat (.int x)) = Wp (a e g) (auK2 i x QS) := rfl
theorem auK2_ap {x y : Int} : auK2 i x QS (.dat (.int y)) e g = (i < e.length ∧ QS none (e.set i (some (.dat (.int (x + y))))) g) := rfl
def alK3 (i : Nat) (m : M SV) (Q : Option SV → Env → Rng → Prop) (e : Env) (g : Rng) (_ : List D) : Prop := Wp (m e g) fun dv e g => WO dv.list fun ys => ownK e[i]? fun xs => xs.length + ys.length ≤ line ∧ Q none (e.set i (some (.own (xs ++ ys)))) g
def alK4 (i : Nat) (Q : Option SV → Env → Rng → Prop) (dv : SV) (e : Env) (g : Rng) : Prop := WO dv.list fun ys => ownK e[i]? fun xs => xs.length + ys.length ≤ line ∧ Q none (e.set i (some (.own (xs ++ ys)))) g
def alK5 (i : Nat) (ys : List D) (Q : Option SV → Env → Rng → Prop) (e : Env) (g : Rng) (xs : List D) : Prop := xs.length + ys.length ≤ line ∧ Q none (e.set i (some (.own (xs ++ ys)))) g
theorem q_augL : Wp (sAugL i a e g) QS = ownK e[i]? (alK3 i a QS e g) := wp_sAugL
theorem alK3_ap : alK3 i a QS e g ds = Wp (a e g) (alK4 i QS) := rfl
theorem alK4_own : alK4 i QS (.own ds) e g = ownK e[i]? (alK5 i ds QS e g) := rfl
theorem alK5_ap {xs : List D} : alK5 i ds QS e g xs = (xs.length + ds.length ≤ line ∧ QS none (e.set i (some (.own (xs ++ ds)))) g) := rfl
def foK (t : Tgt) (b : S) (Q : Option SV → Env → Rng → Prop) (items : List D) (e : Env) (g : Rng) : Prop := Wp (sForGo t b items e g) Q
theorem q_for {t : Tgt} {src : Src} {b : S} : Wp (sFor t src b e g) QS = Wp (src.items e g) (foK t b QS) := wp_sFor
theorem foK_ap {t : Tgt} {b : S} : foK t b QS ds e g = Wp (sForGo t b ds e g) QS := rfl
def arK1 (i : Nat) (k : M SV) (m : M D) (Q : Option SV → Env → Rng → Prop) (e : Env) (g : Rng) (_ : SV) : Prop := Wp (k e g) fun kv e g => WO kv.int fun z => WO (rowAt e i z) fun _ => Wp (m e g) fun d e g => WO (rowAt e i z) fun p => p.2.2.length < line ∧ Q none (e.set i (some (.owns (p.1.set p.2.1 (p.2.2 ++ [d]))))) g
def arK2 (i : Nat) (m : M D) (Q : Option SV → Env → Rng → Prop) (kv : SV) (e : Env) (g : Rng) : Prop := WO kv.int fun z => WO (rowAt e i z) fun _ => Wp (m e g) fun d e g => WO (rowAt e i z) fun p => p.2.2.length < line ∧ Q none (e.set i (some (.owns (p.1.set p.2.1 (p.2.2 ++ [d]))))) g
abbrev Row := List (List D) × Nat × List D
def arK3 (i : Nat) (m : M D) (z : Int) (Q : Option SV → Env → Rng → Prop) (e : Env) (g : Rng) (_ : Row) : Prop := Wp (m e g) fun d e g => WO (rowAt e i z) fun p => p.2.2.length < line ∧ Q none (e.set i (some (.owns (p.1.set p.2.1 (p.2.2 ++ [d]))))) g
def arK4 (i : Nat) (z : Int) (Q : Option SV → Env → Rng → Prop) (d : D) (e : Env) (g : Rng) : Prop := WO (rowAt e i z) fun p => p.2.2.length < line ∧ Q none (e.set i (some (.owns (p.1.set p.2.1 (p.2.2 ++ [d]))))) g
def arK5 (i : Nat) (d : D) (Q : Option SV → Env → Rng → Prop) (e : Env) (g : Rng) (p : Row) : Prop := p.2.2.length < line ∧ Q none (e.set i (some (.owns (p.1.set p.2.1 (p.2.2 ++ [d]))))) g
theorem q_appR : Wp (sAppR i a m e g) QS = onV e[i]? (arK1 i a m QS e g) := wp_sAppR
theorem arK1_ap : arK1 i a m QS e g x = Wp (a e g) (arK2 i m QS) := rfl
theorem arK2_ap {z : Int} : arK2 i m QS (.dat (.int z)) e g = WO (rowAt e i z) (arK3 i m z QS e g) := rfl
theorem arK3_ap {z : Int} {p : Row} : arK3 i m z QS e g p = Wp (m e g) (arK4 i z QS) := rfl
theorem arK4_ap {z : Int} : arK4 i z QS d e g = WO (rowAt e i z) (arK5 i d QS e g) := rfl
theorem arK5_ap {p : Row} : arK5 i d QS e g p = (p.2.2.length < line ∧ QS none (e.set i (some (.owns (p.1.set p.2.1 (p.2.2 ++ [d]))))) g) := rfl
def prK1 (i : Nat) (k k2 : M SV) (Q : Option SV → Env → Rng → Prop) (d : D) (e : Env) (g : Rng) : Prop := onV e[i]? fun _ => Wp (k e g) fun kv e g => WO kv.int fun z => WO (rowAt e i z) fun _ => Wp (k2 e g) fun kv2 e g => WO kv2.int fun z2 => WO (rowAt e i z) fun p => WO (ixAt p.2.2.length z2) fun j => Q none (e.set i (some (.owns (p.1.set p.2.1 (p.2.2.set j d))))) g
def prK2 (i : Nat) (k k2 : M SV) (d : D) (Q : Option SV → Env → Rng → Prop) (e : Env) (g : Rng) (_ : SV) : Prop := Wp (k e g) fun kv e g => WO kv.int fun z => WO (rowAt e i z) fun _ => Wp (k2 e g) fun kv2 e g => WO kv2.int fun z2 => WO (rowAt e i z) fun p => WO (ixAt p.2.2.length z2) fun j => Q none (e.set i (some (.owns (p.1.set p.2.1 (p.2.2.set j d))))) g
def prK3 (i : Nat) (k2 : M SV) (d : D) (Q : Option SV → Env → Rng → Prop) (kv : SV) (e : Env) (g : Rng) : Prop := WO kv.int fun z => WO (rowAt e i z) fun _ => Wp (k2 e g) fun kv2 e g => WO kv2.int fun z2 => WO (rowAt e i z) fun p => WO (ixAt p.2.2.length z2) fun j => Q none (e.set i (some (.owns (p.1.set p.2.1 (p.2.2.set j d))))) g
def prK4 (i : Nat) (k2 : M SV) (d : D) (z : Int) (Q : Option SV → Env → Rng → Prop) (e : Env) (g : Rng) (_ : Row) : Prop := Wp (k2 e g) fun kv2 e g => WO kv2.int fun z2 => WO (rowAt e i z) fun p => WO (ixAt p.2.2.length z2) fun j => Q none (e.set i (some (.owns (p.1.set p.2.1 (p.2.2.set j d))))) g
def prK5 (i : Nat) (d : D) (z : Int) (Q : Option SV → Env → Rng → Prop) (kv2 : SV) (e : Env) (g : Rng) : Prop := WO kv2.int fun z2 => WO (rowAt e i z) fun p => WO (ixAt p.2.2.length z2) fun j => Q none (e.set i (some (.owns (p.1.set p.2.1 (p.2.2.set j d))))) g
def prK6 (i : Nat) (d : D) (z2 : Int) (Q : Option SV → Env → Rng → Prop) (e : Env) (g : Rng) (p : Row) : Prop := WO (ixAt p.2.2.length z2) fun j => Q none (e.set i (some (.owns (p.1.set p.2.1 (p.2.2.set j d))))) g
def prK7 (i : Nat) (d : D) (p : Row) (Q : Option SV → Env → Rng → Prop) (e : Env) (g : Rng) (j : Nat) : Prop := Q none (e.set i (some (.owns (p.1.set p.2.1 (p.2.2.set j d))))) g
theorem q_putR : Wp (sPutR i a c m e g) QS = Wp (m e g) (prK1 i a c QS) := wp_sPutR
theorem prK1_ap : prK1 i a c QS d e g = onV e[i]? (prK2 i a c d QS e g) := rfl
theorem prK2_ap : prK2 i a c d QS e g x = Wp (a e g) (prK3 i c d QS) := rfl
theorem prK3_ap {z : Int} : prK3 i a d QS (.dat (.int z)) e g = WO (rowAt e i z) (prK4 i a d z QS e g) := rfl
theorem prK4_ap {z : Int} {p : Row} : prK4 i a d z QS e g p = Wp (a e g) (prK5 i d z QS) := rfl
theorem prK5_ap {z z2 : Int} : prK5 i d z QS (.dat (.int z2)) e g = WO (rowAt e i z) (prK6 i d z2 QS e g) := rfl
theorem prK6_ap {z2 : Int} {p : Row} : prK6 i d z2 QS e g p = WO (ixAt p.2.2.length z2) (prK7 i d p QS e g) := rfl
theorem prK7_ap {p : Row} : prK7 i d p QS e g j = QS none (e.set i (some (.owns (p.1.set p.2.1 (p.2.2.set j d))))) g := rfl
def rowOf (dss : List (List D)) (z : Int) : Option Row := (ixAt dss.length z).bind fun j => (dss[j]?).map fun ds => (dss, j, ds)
def onRow (o : Option (Option SV)) (z : Int) : Option Row := match o with
  | some (some (.owns dss)) => rowOf dss z
  | _ => none
theorem q_rowAt {z : Int} : rowAt e i z = onRow e[i]? z := by
  unfold rowAt onRow rowOf
  cases e[i]? with
  | none => rfl
  | some o =>
    cases o with
    | none => rfl
    | some sv =>
      cases sv with
      | owns dss =>
        dsimp only
        cases ixAt dss.length z <;> rfl
      | _ => rfl
theorem onRow_0 {z : Int} {l : Env} : onRow ((some (.owns dss) :: l)[0]?) z = rowOf dss z := rfl
theorem onRow_s {z : Int} {l : Env} {o : Option SV} : onRow ((o :: l)[n + 1]?) z = onRow (l[n]?) z := rfl
theorem row_use {z : Int} {r : List D} {k : Row → Prop} (hz : z = (i : Int)) (h : dss[i]? = some r) (hk : k (dss, i, r)) : WO (rowOf dss z) k := by
  subst hz
  unfold rowOf
  rw [show ixAt dss.length (i : Int) = some i from ix_nat (List.getElem?_eq_some_iff.mp h).1]
  show WO ((dss[i]?).map _) k
  rw [h]; exact hk
theorem q_move : Wp (sMove i j e g) QS = onV e[j]? fun sv => (i < e.length ∧ i ≠ j) ∧ QS none ((e.set j none).set i (some sv)) g := by
  unfold sMove onV
  cases e[j]? with
  | none => rfl
  | some o =>
    cases o with
    | none => rfl
    | some sv =>
      by_cases h : i < e.length ∧ i ≠ j
      · exact propext ⟨fun z => by
          have z : Wp (if i < e.length ∧ i ≠ j then _ else _) QS := z
          rw [if_pos h] at z; exact ⟨h, z⟩, fun z => by
          show Wp (if i < e.length ∧ i ≠ j then _ else _) QS
          rw [if_pos h]; exact z.2⟩
      · exact propext ⟨fun z => by
          have z : Wp (if i < e.length ∧ i ≠ j then _ else _) QS := z
          rw [if_neg h] at z; exact z.elim, fun z => absurd z.1 h⟩
theorem wp_sPar4 {i j k l : Nat} {a b c d : M SV} : Wp (sPar4 i j k l a b c d e g) QS = Wp (a e g) fun x e g => Wp (b e g) fun y e g => Wp (c e g) fun z e g => Wp (d e g) fun u e g => i < e.length ∧ j < e.length ∧ k < e.length ∧ l < e.length ∧ QS none ((((e.set i (some x)).set j (some y)).set k (some z)).set l (some u)) g := by
  unfold sPar4
  rw [wp_bind]
  congr; funext x e g
  rw [wp_bind]
  congr; funext y e g
  rw [wp_bind]
  congr; funext z e g
  rw [wp_bind]
  congr; funext u e g
  rw [wp_bind, wp_put, wp_bind, wp_put, wp_bind, wp_put, wp_bind, wp_put, List.length_set, List.length_set, List.length_set, List.length_set, List.length_set, List.length_set]; rfl
def p4K1 (i j k l : Nat) (b c d : M SV) (Q : Option SV → Env → Rng → Prop) (x : SV) (e : Env) (g : Rng) : Prop := Wp (b e g) fun y e g => Wp (c e g) fun z e g => Wp (d e g) fun u e g => i < e.length ∧ j < e.length ∧ k < e.length ∧ l < e.length ∧ Q none ((((e.set i (some x)).set j (some y)).set k (some z)).set l (some u)) g
def p4K2 (i j k l : Nat) (c d : M SV) (x : SV) (Q : Option SV → Env → Rng → Prop) (y : SV) (e : Env) (g : Rng) : Prop := Wp (c e g) fun z e g => Wp (d e g) fun u e g => i < e.length ∧ j < e.length ∧ k < e.length ∧ l < e.length ∧ Q none ((((e.set i (some x)).set j (some y)).set k (some z)).set l (some u)) g
def p4K3 (i j k l : Nat) (d : M SV) (x y : SV) (Q : Option SV → Env → Rng → Prop) (z : SV) (e : Env) (g : Rng) : Prop := Wp (d e g) fun u e g => i < e.length ∧ j < e.length ∧ k < e.length ∧ l < e.length ∧ Q none ((((e.set i (some x)).set j (some y)).set k (some z)).set l (some u)) g
def p4K4 (i j k l : Nat) (x y z : SV) (Q : Option SV → Env → Rng → Prop) (u : SV) (e : Env) (g : Rng) : Prop := i < e.length ∧ j < e.length ∧ k < e.length ∧ l < e.length ∧ Q none ((((e.set i (some x)).set j (some y)).set k (some z)).set l (some u)) g
theorem q_par4 {k l : Nat} {b d : M SV} : Wp (sPar4 i j k l a b c d e g) QS = Wp (a e g) (p4K1 i j k l b c d QS) := wp_sPar4
theorem p4K1_ap {k l : Nat} {d : M SV} : p4K1 i j k l a c d QS x e g = Wp (a e g) (p4K2 i j k l c d x QS) := rfl
theorem p4K2_ap {k l : Nat} : p4K2 i j k l a c x QS y e g = Wp (a e g) (p4K3 i j k l c x y QS) := rfl
theorem p4K3_ap {k l : Nat} : p4K3 i j k l a x y QS z e g = Wp (a e g) (p4K4 i j k l x y z QS) := rfl
theorem p4K4_ap {k l : Nat} {u : SV} : p4K4 i j k l x y z QS u e g = (i < e.length ∧ j < e.length ∧ k < e.length ∧ l < e.length ∧ QS none ((((e.set i (some x)).set j (some y)).set k (some z)).set l (some u)) g) := rfl
/-! tuple(range(..)) -/
def trK (Q : SV → Env → Rng → Prop) (x : SV) (e : Env) (g : Rng) : Prop := WO (opRange (.dat (.int 0)) x) fun ds => Q (.dat (.tup ds)) e g
def tdK (Q : SV → Env → Rng → Prop) (e : Env) (g : Rng) (ds : List D) : Prop := Q (.dat (.tup ds)) e g
theorem q_tupR : Wp (mTupR a e g) Q = Wp (a e g) (trK Q) := by
  unfold mTupR
  rw [wp_bind]
  congr; funext x e g
  rw [wp_opt]
  unfold trK
  cases opRange (.dat (.int 0)) x <;> rfl
theorem trK_ap : trK Q x e g = WO (opRange (.dat (.int 0)) x) (tdK Q e g) := rfl
theorem tdK_ap : tdK Q e g ds = Q (.dat (.tup ds)) e g := rfl
/-! models -/
end
end PV
set_option Elab.async false
set_option linter.all false
set_option maxRecDepth 100000
set_option maxHeartbeats 4000000
/-! PW4: data of ints, tuples of ints, tables. -/
namespace PV
open PySem L2
theorem fine_int {n : Nat} {i : Int} : D.fine n (.int i) = true := by cases n <;> rfl
theorem fine_bl {n : Nat} {i : Bool} : D.fine n (.bl i) = true := by cases n <;> rfl
theorem fine_non {n : Nat} : D.fine n .non = true := by cases n <;> rfl
theorem fine_tup {n : Nat} {ds : List D} : D.fine (n + 1) (.tup ds) = ds.all (D.fine n) := rfl
theorem fine_lst {n : Nat} {ds : List D} : D.fine (n + 1) (.lst ds) = ds.all (D.fine n) := rfl
theorem eqv_ii {i j : Int} : D.eqv (.int i) (.int j) = decide (i = j) := by
  show (i == j) = _
  by_cases h : i = j <;> simp [h]
theorem eqv_bb {i j : Bool} : D.eqv (.bl i) (.bl j) = (i == j) := rfl
abbrev dTi (ns : List Int) : D := .tup (ns.map D.int)
abbrev dLi (ns : List Int) : D := .lst (ns.map D.int)
abbrev dTab (rows : List (List Int)) : D := .tup (rows.map dTi)
abbrev dQ (p : Int × Int) : D := .tup [.int p.1, .int p.2]
/-- what == says of things by their data is what = says -/
class EqD {α : Type} (f : α → D) [DecidableEq α] : Prop where
  eqv : ∀ x y, D.eqv (f x) (f y) = decide (x = y)
  fine : ∀ x, D.fine 50 (f x) = true
theorem eqvs_map {α : Type} [DecidableEq α] {f : α → D} (h : ∀ x y, D.eqv (f x) (f y) = decide (x = y)) : ∀ xs ys : List α, D.eqvs (xs.map f) (ys.map f) = decide (xs = ys)
  | [], [] => by simp [D.eqvs]
  | [], y :: ys => by simp [D.eqvs]
  | x :: xs, [] => by simp [D.eqvs]
  | x :: xs, y :: ys => by
    rw [List.map_cons, List.map_cons, D.eqvs, h, eqvs_map h xs ys]
    by_cases h1 : x = y <;> by_cases h2 : xs = ys <;> simp [h1, h2]
theorem eqv_dTi {xs ys : List Int} : D.eqv (dTi xs) (dTi ys) = decide (xs = ys) := by
  show D.eqvs _ _ = _
  exact eqvs_map (fun x y => eqv_ii) xs ys
theorem eqv_dLi {xs ys : List Int} : D.eqv (dLi xs) (dLi ys) = decide (xs = ys) := by
  show D.eqvs _ _ = _
  exact eqvs_map (fun x y => eqv_ii) xs ys
theorem eqv_dTab {xs ys : List (List Int)} : D.eqv (dTab xs) (dTab ys) = decide (xs = ys) := by
  show D.eqvs _ _ = _
  exact eqvs_map (fun x y => eqv_dTi) xs ys
theorem fine_map {α : Type} {f : α → D} {n : Nat} (h : ∀ x, D.fine n (f x) = true) (xs : List α) : (xs.map f).all (D.fine n) = true := by
  rw [List.all_eq_true]
  intro d hd
  obtain ⟨x, _, rfl⟩ := List.mem_map.mp hd
  exact h x
theorem fine_dTi {n : Nat} {xs : List Int} : D.fine (n + 1) (dTi xs) = true := fine_map (fun _ => fine_int) xs
theorem fine_dLi {n : Nat} {xs : List Int} : D.fine (n + 1) (dLi xs) = true := fine_map (fun _ => fine_int) xs
theorem fine_dTab {n : Nat} {xs : List (List Int)} : D.fine (n + 2) (dTab xs) = true := fine_map (fun _ => fine_dTi) xs
/-- the greatest of ints, one at least -/
def maxL (ns : List Int) : Int := match ns with
  | [] => 0
  | n :: ns => ns.foldl max n
def minL (ns : List Int) : Int := match ns with
  | [] => 0
  | n :: ns => ns.foldl min n
theorem opMax_of {ns : List Int} (h : ns ≠ []) {k : SV → Prop} (hk : k (.dat (.int (maxL ns)))) : WO (opMax ns) k := by
  cases ns with
  | nil => exact absurd rfl h
  | cons n ns => exact hk
theorem opMin_of {ns : List Int} (h : ns ≠ []) {k : SV → Prop} (hk : k (.dat (.int (minL ns)))) : WO (opMin ns) k := by
  cases ns with
  | nil => exact absurd rfl h
  | cons n ns => exact hk
theorem foldl_max_le : ∀ (ns : List Int) (n m : Int), ns.foldl max n ≤ m ↔ n ≤ m ∧ ∀ x ∈ ns, x ≤ m
  | [], n, m => by simp
  | x :: ns, n, m => by
    rw [List.foldl_cons, foldl_max_le ns]
    simp only [List.mem_cons, forall_eq_or_imp]
    constructor
    · rintro ⟨h1, h2⟩; exact ⟨by omega, by omega, h2⟩
    · rintro ⟨h1, h2, h3⟩; exact ⟨by omega, h3⟩
theorem foldl_max_mem : ∀ (ns : List Int) (n : Int), ns.foldl max n = n ∨ ns.foldl max n ∈ ns
  | [], n => .inl rfl
  | x :: ns, n => by
    rw [List.foldl_cons]
    rcases foldl_max_mem ns (max n x) with h | h
    · rw [h]
      rcases Int.le_total n x with q | q
      · right; rw [Int.max_eq_right q]; simp
      · left; exact Int.max_eq_left q
    · exact .inr (List.mem_cons_of_mem _ h)
theorem maxL_mem {ns : List Int} (h : ns ≠ []) : maxL ns ∈ ns := by
  cases ns with
  | nil => exact absurd rfl h
  | cons n ns =>
    rcases foldl_max_mem ns n with q | q
    · show ns.foldl max n ∈ _
      rw [q]; simp
    · exact List.mem_cons_of_mem _ q
theorem le_maxL {ns : List Int} {x : Int} (h : x ∈ ns) : x ≤ maxL ns := by
  cases ns with
  | nil => cases h
  | cons n ns =>
    have := (foldl_max_le ns n (ns.foldl max n)).mp (Int.le_refl _)
    rcases List.mem_cons.mp h with rfl | q
    · exact this.1
    · exact this.2 x q
theorem maxL_pos {ns : List Int} (h : ns ≠ []) : 0 < maxL ns ↔ ∃ x ∈ ns, 0 < x := by
  constructor
  · intro q; exact ⟨_, maxL_mem h, q⟩
  · rintro ⟨x, hx, q⟩
    have := le_maxL hx
    omega
/-! the names of a def at its start -/
def mkEnv : Nat → List D → Env
  | 0, _ => []
  | n + 1, [] => none :: mkEnv n []
  | n + 1, d :: ds => some (.dat d) :: mkEnv n ds
theorem mkEnv_0 {ds : List D} : mkEnv 0 ds = [] := rfl
theorem mkEnv_n {n : Nat} : mkEnv (n + 1) [] = none :: mkEnv n [] := rfl
theorem mkEnv_c {n : Nat} {d : D} {ds : List D} : mkEnv (n + 1) (d :: ds) = some (.dat d) :: mkEnv n ds := rfl
theorem mkEnv_is : ∀ {n : Nat} {ds : List D}, ds.length ≤ n → mkEnv n ds = ds.map (fun d => some (.dat d)) ++ List.replicate (n - ds.length) none
  | 0, [], _ => rfl
  | 0, _ :: _, h => absurd h (by simp)
  | n + 1, [], _ => by
    rw [mkEnv_n, mkEnv_is (n := n) (ds := []) (by simp)]; rfl
  | n + 1, d :: ds, h => by
    rw [mkEnv_c, mkEnv_is (n := n) (ds := ds) (by simpa using h)]
    simp
theorem run_is {n : Nat} {b : S} {ds : List D} {g : Rng} {v : SV} (hl : ds.length ≤ n) (h : Wp (b (mkEnv n ds) g) (outK fun sv g' => sv = v ∧ g' = g)) : runFn n b ds g = .ok v g := run_eq (mkEnv_is hl) h
theorem run_wf {n : Nat} {b : S} {ds : List D} {g : Rng} {k : SV → Rng → Prop} (hl : ds.length ≤ n) (h : Wp (b (mkEnv n ds) g) (outK k)) : WF (runFn n b ds g) k := by
  rw [wf_run, ← mkEnv_is hl]; exact h
theorem isaB_nil {d : D} : isaB d [] = false := rfl
theorem isaB_cons {d : D} {t : Ty} {ts : List Ty} : isaB d (t :: ts) = (d.isa t || isaB d ts) := by unfold isaB; rw [List.any_cons]
section
variable {α : Type} {xs : List α} {k : SV → Prop}
theorem map_int {p : α → Int} : (xs.map fun x => D.int (p x)) = (xs.map p).map D.int := by simp
theorem map_bl {p : α → Bool} : (xs.map fun x => D.bl (p x)) = (xs.map p).map D.bl := by simp
theorem suK_map {p : α → Int} : suK k (xs.map fun x => D.int (p x)) = k (.dat (.int (xs.map p).sum)) := by rw [map_int, suK_ap]
theorem mxK_map {p : α → Int} : mxK k (xs.map fun x => D.int (p x)) = WO (opMax (xs.map p)) k := by rw [map_int, mxK_ap]
theorem mnK_map {p : α → Int} : mnK k (xs.map fun x => D.int (p x)) = WO (opMin (xs.map p)) k := by rw [map_int, mnK_ap]
theorem aaK_map {p : α → Bool} : aaK k (xs.map fun x => D.bl (p x)) = k (.dat (.bl (xs.all p))) := by
  rw [map_bl, aaK_ap, List.all_map]; rfl
theorem anK_map {p : α → Bool} : anK k (xs.map fun x => D.bl (p x)) = k (.dat (.bl (xs.any p))) := by
  rw [map_bl, anK_ap, List.any_map]; rfl
end
/-- a list that may be fixed already -/
def lz (b : Bool) (ds : List D) : SV := if b then .own ds else .dat (.lst ds)
theorem frzK_lz {Q : SV → Env → Rng → Prop} {e : Env} {g : Rng} {i : Nat} {b : Bool} {ds : List D} (h : e[i]? = some (some (lz b ds))) : frzK i e g Q (lz b ds) = Q (.dat (.lst ds)) (e.set i (some (.dat (.lst ds)))) g := by
  cases b with
  | true => rfl
  | false =>
    show Q (.dat (.lst ds)) e g = _
    have : e.set i (some (.dat (.lst ds))) = e := by
      apply List.ext_getElem?
      intro j
      by_cases hj : i = j
      · subst hj
        rw [List.getElem?_set_self (List.getElem?_eq_some_iff.mp h).1]
        exact h.symm
      · rw [List.getElem?_set_ne hj]
    rw [this]
theorem sqK_lz {QL : List D → Env → Rng → Prop} {e : Env} {g : Rng} {b : Bool} {ds : List D} : sqK QL (lz b ds) e g = QL ds e g := by cases b <;> rfl
theorem okAt_some {d : D} : okAt (some (some (.dat d))) = true := rfl
theorem okAt_none : okAt (some none) = true := rfl
theorem okAt_mapd {v : Option D} : okAt (some (v.map SV.dat)) = true := by cases v <;> rfl
theorem onRow_some {dss : List (List D)} {z : Int} : onRow (some (some (.owns dss))) z = rowOf dss z := rfl
/-- a comprehension that leaves the names -/
theorem wp_clE {α : Type} {f : α → D} {t : Tgt} {cd : M Bool} {el : M D} {own : List Nat} {QL : List D → Env → Rng → Prop} {e : Env} {g : Rng} (I : List α → List D → Rng → Prop) (xs : List α) (h0 : I [] [] g)
    (hs : ∀ done x rest acc g, xs = done ++ x :: rest → I done acc g → WO (t.bind (f x) e) fun e1 => Wp (cd e1 g) fun b e2 g2 => (b = true → Wp (el e2 g2) fun y e3 g3 => acc.length < line ∧ wipe e3 own = e ∧ I (done ++ [x]) (acc ++ [y]) g3) ∧ (b = false → wipe e2 own = e ∧ I (done ++ [x]) acc g2))
    (hq : ∀ acc g, I xs acc g → QL acc e g) : Wp (compLoop own t cd el (xs.map f) [] e g) QL := by
  refine wp_cl (fun done acc e' g' => e' = e ∧ I done acc g') xs ⟨rfl, h0⟩ ?_ ?_
  · rintro done x rest acc e' g' hx ⟨rfl, hi⟩
    have := hs done x rest acc g' hx hi
    cases hb : t.bind (f x) e' with
    | none => rw [hb] at this; exact this.elim
    | some e1 => rw [hb] at this; exact this
  · rintro acc e' g' ⟨rfl, hi⟩
    exact hq acc g' hi
theorem range_split {m j : Nat} {done rest : List Nat} (h : List.range m = done ++ j :: rest) : j = done.length ∧ j < m := by
  have h1 : (List.range m)[done.length]? = some j := by rw [h]; simp
  have h2 := (List.getElem?_eq_some_iff.mp h1).1
  rw [List.length_range] at h2
  rw [List.getElem?_range h2] at h1
  cases h1
  exact ⟨rfl, h2⟩
theorem ifK_nbeq {α : Type} {a b : M α} {Q : α → Env → Rng → Prop} {p q : Prop} [Decidable p] [Decidable q] {e : Env} {g : Rng} : ifK a b Q (!(decide p == decide q)) e g = ((¬ (p ↔ q) → Wp (a e g) Q) ∧ ((p ↔ q) → Wp (b e g) Q)) := by
  by_cases h1 : p <;> by_cases h2 : q <;> simp [ifK, h1, h2]
theorem ifK_beq {α : Type} {a b : M α} {Q : α → Env → Rng → Prop} {p q : Prop} [Decidable p] [Decidable q] {e : Env} {g : Rng} : ifK a b Q (decide p == decide q) e g = (((p ↔ q) → Wp (a e g) Q) ∧ (¬ (p ↔ q) → Wp (b e g) Q)) := by
  by_cases h1 : p <;> by_cases h2 : q <;> simp [ifK, h1, h2]
theorem eqv_lcn {d : D} {ds : List D} : D.eqv (.lst (d :: ds)) (.lst []) = false := rfl
theorem eqv_lnn : D.eqv (.lst []) (.lst []) = true := rfl
theorem eqv_lnc {d : D} {ds : List D} : D.eqv (.lst []) (.lst (d :: ds)) = false := rfl
theorem eqv_tcn {d : D} {ds : List D} : D.eqv (.tup (d :: ds)) (.tup []) = false := rfl
theorem eqv_tnn : D.eqv (.tup []) (.tup []) = true := rfl
theorem wo_is_str {x : Str} {kb : Bool → Prop} : WO (opCmp .is (.dat (.str x)) (.dat .non)) kb = kb false := rfl
theorem wo_is_bl {x : Bool} {kb : Bool → Prop} : WO (opCmp .is (.dat (.bl x)) (.dat .non)) kb = kb false := rfl
theorem wo_is_mdl {x : D} {kb : Bool → Prop} : WO (opCmp .is (.dat (.mdl x)) (.dat .non)) kb = kb false := rfl
theorem wo_isnot_int {x : Int} {kb : Bool → Prop} : WO (opCmp .isnot (.dat (.int x)) (.dat .non)) kb = kb true := rfl
theorem wo_isnot_mdl {x : D} {kb : Bool → Prop} : WO (opCmp .isnot (.dat (.mdl x)) (.dat .non)) kb = kb true := rfl
def mkK (f : SemF) (Q : SV → Env → Rng → Prop) (d : D) (e : Env) (g : Rng) : Prop := d.pl = true ∧ WF (f [d] g) fun sv g' => match sv with
  | .dat d' => d'.pl = true ∧ Q (.dat (.mdl d')) e g'
  | _ => False
def mkK2 (Q : SV → Env → Rng → Prop) (e : Env) (sv : SV) (g' : Rng) : Prop := match sv with
  | .dat d' => d'.pl = true ∧ Q (.dat (.mdl d')) e g'
  | _ => False
theorem q_make {f : SemF} {m : M D} {Q : SV → Env → Rng → Prop} {e : Env} {g : Rng} : Wp (mMake f m e g) Q = Wp (m e g) (mkK f Q) := by
  unfold mMake
  rw [wp_bind]
  congr; funext d e g
  unfold mkK
  by_cases h : d.pl = true
  · simp only [if_pos h, h, true_and]
    cases f [d] g with
    | ok sv g' =>
      cases sv with
      | dat d' =>
        show Wp (if d'.pl = true then _ else _) Q = (d'.pl = true ∧ _)
        by_cases h2 : d'.pl = true
        · rw [if_pos h2]; simp only [h2, true_and]; rfl
        · rw [if_neg h2]; exact propext ⟨fun z => z.elim, fun z => absurd z.1 h2⟩
      | _ => rfl
    | exc x g' =>
      show Wp (if x.pl = true then Res.exc x e g' else .stuck) Q = False
      split <;> rfl
    | stuck => rfl
  · rw [if_neg h]
    exact propext ⟨fun z => z.elim, fun z => absurd z.1 h⟩
theorem mkK_ap {f : SemF} {Q : SV → Env → Rng → Prop} {d : D} {e : Env} {g : Rng} : mkK f Q d e g = (d.pl = true ∧ WF (f [d] g) (mkK2 Q e)) := rfl
theorem mkK2_ap {Q : SV → Env → Rng → Prop} {d : D} {e : Env} {g : Rng} : mkK2 Q e (.dat d) g = (d.pl = true ∧ Q (.dat (.mdl d)) e g) := rfl
/-- __init__ by its run -/
def outI (k : SV → Rng → Prop) (r : Option SV) (e : Env) (g : Rng) : Prop := match r, e with
  | none, some (.dat (.fn x)) :: some (.dat d) :: _ => x = ("self" : Str) ∧ k (.dat d) g
  | _, _ => False
theorem outI_ap {k : SV → Rng → Prop} {x : Str} {d : D} {e : Env} {g : Rng} : outI k none (some (.dat (.fn x)) :: some (.dat d) :: e) g = (x = ("self" : Str) ∧ k (.dat d) g) := rfl
theorem runI_is {n : Nat} {b : S} {d : D} {g : Rng} {v : SV} (h : Wp (b (mkEnv (n + 2) [.fn "self", d]) g) (outI fun sv g' => sv = v ∧ g' = g)) : runInit (n + 2) b [d] g = .ok v g := by
  unfold runInit
  have e1 : (some (.dat (.fn "self")) :: ([d].map (fun d => some (SV.dat d)) ++ List.replicate (n + 2 - ([d].length + 1)) none) : Env) = mkEnv (n + 2) [.fn "self", d] := by
    rw [mkEnv_is (by simp)]; rfl
  rw [e1]
  cases hb : b (mkEnv (n + 2) [.fn "self", d]) g with
  | stuck => rw [hb] at h; exact h.elim
  | exc x e g' => rw [hb] at h; exact h.elim
  | ok r e g' =>
    rw [hb] at h
    cases r with
    | some sv => exact (show False from h).elim
    | none =>
      match e, h with
      | some (.dat (.fn x)) :: some (.dat d') :: rest, h =>
        obtain ⟨h1, h2, h3⟩ := h
        subst h2
        subst h3
        dsimp only
        rw [if_pos h1]
theorem eqv_nn   : D.eqv (.non) (.non) = true := rfl
theorem eqv_nb  {y : Bool} : D.eqv (.non) (.bl y) = false := rfl
theorem eqv_ni  {y : Int} : D.eqv (.non) (.int y) = false := rfl
theorem eqv_ns  {y : Str} : D.eqv (.non) (.str y) = false := rfl
theorem eqv_nt  {y : List D} : D.eqv (.non) (.tup y) = false := rfl
theorem eqv_nl  {y : List D} : D.eqv (.non) (.lst y) = false := rfl
theorem eqv_bn {x : Bool}  : D.eqv (.bl x) (.non) = false := rfl
theorem eqv_bi {x : Bool} {y : Int} : D.eqv (.bl x) (.int y) = ((if x then 1 else 0) == y) := rfl
theorem eqv_bs {x : Bool} {y : Str} : D.eqv (.bl x) (.str y) = false := rfl
theorem eqv_bt {x : Bool} {y : List D} : D.eqv (.bl x) (.tup y) = false := rfl
theorem eqv_bl {x : Bool} {y : List D} : D.eqv (.bl x) (.lst y) = false := rfl
theorem eqv_in {x : Int}  : D.eqv (.int x) (.non) = false := rfl
theorem eqv_ib {x : Int} {y : Bool} : D.eqv (.int x) (.bl y) = (x == (if y then 1 else 0)) := rfl
theorem eqv_is {x : Int} {y : Str} : D.eqv (.int x) (.str y) = false := rfl
theorem eqv_it {x : Int} {y : List D} : D.eqv (.int x) (.tup y) = false := rfl
theorem eqv_il {x : Int} {y : List D} : D.eqv (.int x) (.lst y) = false := rfl
theorem eqv_sn {x : Str}  : D.eqv (.str x) (.non) = false := rfl
theorem eqv_sb {x : Str} {y : Bool} : D.eqv (.str x) (.bl y) = false := rfl
theorem eqv_si {x : Str} {y : Int} : D.eqv (.str x) (.int y) = false := rfl
theorem eqv_ss {x : Str} {y : Str} : D.eqv (.str x) (.str y) = (x == y) := rfl
theorem eqv_st {x : Str} {y : List D} : D.eqv (.str x) (.tup y) = false := rfl
theorem eqv_sl {x : Str} {y : List D} : D.eqv (.str x) (.lst y) = false := rfl
theorem eqv_tn {x : List D}  : D.eqv (.tup x) (.non) = false := rfl
theorem eqv_tb {x : List D} {y : Bool} : D.eqv (.tup x) (.bl y) = false := rfl
theorem eqv_ti {x : List D} {y : Int} : D.eqv (.tup x) (.int y) = false := rfl
theorem eqv_ts {x : List D} {y : Str} : D.eqv (.tup x) (.str y) = false := rfl
theorem eqv_tl {x : List D} {y : List D} : D.eqv (.tup x) (.lst y) = false := rfl
theorem eqv_ln {x : List D}  : D.eqv (.lst x) (.non) = false := rfl
theorem eqv_lb {x : List D} {y : Bool} : D.eqv (.lst x) (.bl y) = false := rfl
theorem eqv_li {x : List D} {y : Int} : D.eqv (.lst x) (.int y) = false := rfl
theorem eqv_ls {x : List D} {y : Str} : D.eqv (.lst x) (.str y) = false := rfl
theorem eqv_lt {x : List D} {y : List D} : D.eqv (.lst x) (.tup y) = false := rfl
theorem range_use {j : Int} {kd : List D → Prop} (n : Nat) (h : j = (n : Int)) (hl : n ≤ 100000) (hk : kd ((List.range n).map fun (k : Nat) => .int k)) : WO (opRange (.dat (.int 0)) (.dat (.int j))) kd := by
  subst h
  rw [wo_rangeN]; exact ⟨hl, hk⟩
/-! the source of draws -/
abbrev Gd (g : Rng) : Prop := g.cells.length ≤ 1000
theorem wf_next {cap : Int} {g : Rng} {k : SV → Rng → Prop} (h0 : 0 < cap) (h1 : cap < 2 ^ 60) (hg : Gd g) (hk : ∀ (n : Nat) (g' : Rng), (n : Int) < cap → Gd g' → k (.dat (.int n)) g') : WF (nextF [.hnd, .int cap] g) k := by
  unfold nextF
  simp only
  rw [if_pos ⟨h0, h1, hg⟩]
  show k (.dat (.int (g.next cap).1)) (g.next cap).2
  have fm : ∀ z : Int, ∃ n : Nat, z.fmod cap = (n : Int) ∧ (n : Int) < cap := fun z => by
    have a := Int.fmod_nonneg_of_pos z h0
    have b := Int.fmod_lt_of_pos z h0
    exact ⟨(z.fmod cap).toNat, by omega, by omega⟩
  unfold Rng.next
  split
  · obtain ⟨n, hn, hl⟩ := fm g.at
    show k (.dat (.int (g.at.fmod cap))) _
    rw [hn]
    exact hk n _ hl (by show (g.cells.set _ _).length ≤ 1000; rw [List.length_set]; exact hg)
  · obtain ⟨n, hn, hl⟩ := fm (g.turn.fdiv 7)
    show k (.dat (.int ((g.turn.fdiv 7).fmod cap))) _
    rw [hn]
    exact hk n _ hl hg
/-! walks over pairs -/
theorem enumD_map {α : Type} {f : α → D} : ∀ (xs : List α) (k : Nat), enumD (k : Int) (xs.map f) = (xs.zipIdx k).map fun p => D.tup [.int p.2, f p.1]
  | [], _ => rfl
  | x :: xs, k => by
    rw [List.map_cons, enumD, List.zipIdx_cons, List.map_cons]
    congr 1
    have := enumD_map (f := f) xs (k + 1)
    simpa using this
theorem enumD_map0 {α : Type} {f : α → D} (xs : List α) : enumD 0 (xs.map f) = (xs.zipIdx 0).map fun p => D.tup [.int p.2, f p.1] := enumD_map xs 0
theorem zipD2_map {α β : Type} {f : α → D} {h : β → D} : ∀ (xs : List α) (ys : List β), zipD2 (xs.map f) (ys.map h) = (xs.zip ys).map fun p => D.tup [f p.1, h p.2]
  | [], _ => by simp [zipD2]
  | x :: xs, [] => by simp [zipD2]
  | x :: xs, y :: ys => by
    rw [List.map_cons, List.map_cons, zipD2, zipD2_map xs ys]; rfl
theorem zipD3_map {α β γ : Type} {f : α → D} {h : β → D} {k : γ → D} : ∀ (xs : List α) (ys : List β) (zs : List γ), zipD3 (xs.map f) (ys.map h) (zs.map k) = (xs.zip (ys.zip zs)).map fun p => D.tup [f p.1, h p.2.1, k p.2.2]
  | [], _, _ => by simp [zipD3]
  | x :: xs, [], _ => by simp [zipD3]
  | x :: xs, y :: ys, [] => by simp [zipD3]
  | x :: xs, y :: ys, z :: zs => by
    rw [List.map_cons, List.map_cons, List.map_cons, zipD3, zipD3_map xs ys zs]; rfl
end PV
set_option Elab.async false
set_option linter.all false
set_option maxRecDepth 100000
set_option maxHeartbeats 4000000
/-! PA1: equal and of the same structure, as the laws ask it. -/
namespace PV
open PySem L2
local macro_rules | `(tactic| trivial) => `(tactic| simp only [vK_ap, wo_some, q_varP, q_varF, q_varR, onV_0, onV_s, q_frz, fzK_dat, fzK_own, q_all_nil, q_all, alK1_ap, alK2_ap, q_bin, biK1_ap, biK2_ap, bK_ap, q_cmp, cmK1_ap, cmK2_ap, q_chain, chK1_ap, chK2_ap, chK3_dec, q_not, noK_ap, q_if, q_sIf, q_and, q_or, q_ret, q_b, mbK_ap, q_t, mtK_ap, q_neg, neK_ap, q_c, q_tup, tuK_ap, q_lst, liK_ap, q_idx, ixK1_ap, ixK2_ap, dK_ap, q_idxT, q_idxL, q_idxO, coK_ap, q_ixMap, q_ix0, q_ix1, q_ix2, q_ix3, owK_ap, q_rowsI, q_rowP, rpK1_ap, rpK2_ap, rpK3_ap, q_part0, q_part1, ptK_ap, q_slice, slK1_ap, slK2_ap, slK3_ap, lK_ap, q_seq, sqK_lst, sqK_tup, sqK_own, q_rng1, q_rng2, rgK0_ap, rgK_ap, q_enum, q_enumK, enK_lst, enK_tup, enK_own, q_zip2, zpK1_ap, zpK2_lst, zpK2_tup, zpK2_own, zpK3_lst, zpK3_tup, zpK3_own, q_zip3, z3K1_ap, z3K2_ap, z3K3_tup, z3K3_lst, z3K3_own, z3K4_tup, z3K4_lst, z3K4_own, z3K5_tup, z3K5_lst, z3K5_own, reK_ap, q_call, caK_ap, q_bn, bnK_ap, sqV_lst, sqV_tup, sqV_own, liV_lst, liV_own, q_sum, suK_ap, q_max, mxK_ap, q_min, mnK_ap, q_allB, aaK_ap, q_anyB, anK_ap, q_isa, isK_int, isK_bl, isK_non, isK_str, isK_tup, isK_lst, isK_mdl, isK_own, q_index, idK1_own, idK2_ap, q_tabs, taK_ap, q_prop, prK_ap, q_comp, cpK_ap, cpK2_ap, q_rowsC, rcK_ap, rcK2_ap, still_nil, still_cons, okAt_0, okAt_n, okAt_m, okAt_s, wipe_nil, wipe_cons, unwipe_nil, unwipe_cons, join_0, join_s, set_0, set_s, q_nil, q_seqS, q_set, seK_ap, q_par2, p2K1_ap, p2K2_ap, q_par3, p3K1_ap, p3K2_ap, p3K3_ap, q_unp, unK_ap, setAll_nil, setAll_cons, q_drop, drK_ap, q_rets, rtK_ap, ownK_0, ownK_s, q_app, apK1_ap, apK2_ap, apK3_ap, q_put, puK1_ap, puK2_ap, puK3_ap, puK4_ap, puK5_ap, q_augI, aiK1_ap, aiK2_ap, aiK3_ap, aiK4_ap, aiK5_ap, aiK6_ap, aiK7_ap, q_aug, auK1_ap, auK2_ap, q_augL, alK3_ap, alK4_own, alK5_ap, q_for, foK_ap, q_appR, arK1_ap, arK2_ap, arK3_ap, arK4_ap, arK5_ap, q_putR, prK1_ap, prK2_ap, prK3_ap, prK4_ap, prK5_ap, prK6_ap, prK7_ap, q_rowAt, onRow_0, onRow_s, ifK_true, ifK_false, ifK_dec, ifK_ndec, frzK_dat, frzK_own, frzK_owns, retK_dat, retK_own, retK_owns, seqK_none, seqK_some, wo_if, wo_add, wo_sub, wo_mul, wo_fdiv, wo_mod, wo_pow, wo_addT, wo_addOO, wo_addLO, wo_addOL, wo_addLL, wo_mulT, wo_mulO, wo_eqB, wo_neB, wo_eqD, wo_neD, wo_eqOO, wo_neOO, wo_eqDO, wo_neDO, wo_lt, wo_le, wo_gt, wo_ge, wo_inO, wo_ninO, opIn_own, opIn_lst, wo_is_non, wo_isnot_non, wo_is_int, wo_is_tup, wo_is_lst, wo_isnot_tup, wo_isnot_lst, wo_row_dat, wo_lenT, wo_lenL, wo_lenO, wo_lenOs, wo_max2, wo_min2, wo_abs, wo_tupO, wo_tupL, wo_tupT, wo_lstO, wo_lstL, wo_lstT, wo_intI, wo_maxC, wo_minC, wo_rangeN, wo_indexO, wo_sliceT, wo_sliceL, wo_sliceO, wo_bind_name, wo_bind_names, outK_none, outK_some, List.length_cons, List.length_nil, List.length_map, Nat.zero_add, Nat.reduceAdd, Nat.reduceLT, Nat.reduceLeDiff, line, true_and, and_true, Bool.and_self, Bool.true_and, Bool.and_true, Bool.not_true, Bool.not_false, if_true, if_false, fine_int, fine_bl, fine_non, eqv_ii, eqv_bb, mkEnv_0, mkEnv_n, mkEnv_c, isaB_nil, isaB_cons, D.isa, Bool.or_false, Bool.or_true, Bool.true_or, Bool.false_or, decide_eq_true_eq, decide_eq_false_iff_not, true_implies, false_implies, Bool.true_eq_false, Bool.false_eq_true, suK_map, mxK_map, mnK_map, aaK_map, anK_map, frzK_lz, okAt_some, okAt_none, okAt_mapd, onRow_some, onV_some, ownK_own, List.getElem?_cons_zero, List.getElem?_cons_succ, Option.join_some, ifK_nbeq, ifK_beq, eqv_lcn, eqv_lnn, eqv_lnc, eqv_tcn, eqv_tnn, List.map_nil, List.map_cons, wo_is_str, wo_is_bl, wo_is_mdl, wo_isnot_int, wo_isnot_mdl, q_make, mkK_ap, mkK2_ap, outI_ap, Bool.true_beq, Bool.false_beq, Bool.not_not, Bool.false_and, Bool.and_false, eqv_nn, eqv_nb, eqv_ni, eqv_ns, eqv_nt, eqv_nl, eqv_bn, eqv_bi, eqv_bs, eqv_bt, eqv_bl, eqv_in, eqv_ib, eqv_is, eqv_it, eqv_il, eqv_sn, eqv_sb, eqv_si, eqv_ss, eqv_st, eqv_sl, eqv_tn, eqv_tb, eqv_ti, eqv_ts, eqv_tl, eqv_ln, eqv_lb, eqv_li, eqv_ls, eqv_lt, q_par4, p4K1_ap, p4K2_ap, p4K3_ap, p4K4_ap, sqK_lz])
noncomputable def c_l_alike (f : SemF) : S := sSeq (sIf (mT (mB (mIsa (mVarP 1) [.tuple, .list]))) (sSeq (sIf (mOr (mNot (mT (mB (mIsa (mVarP 0) [.tuple, .list])))) (mCmp .ne (mB (mIsa (mVarP 0) [.list])) (mB (mIsa (mVarP 1) [.list])))) (sRet (mC (.bl false))) sNil) (sSeq (sIf (mCmp .ne (mBn .len [mVarP 0]) (mBn .len [mVarP 1])) (sRet (mC (.bl false))) sNil) (sRet (mB (mCmp .eq (mComp [2] (.name 2) (.rng1 (mBn .len [mVarP 1])) (mNot (mT (mCall 2 f [mFrz (mIdx (mVarP 0) (mVarP 2)), mFrz (mIdx (mVarP 1) (mVarP 2))]))) (mFrz (mVarF 2))) (mLst [])))))) sNil) (sSeq (sIf (mOr (mCmp .is (mVarP 1) (mC .non)) (mT (mB (mIsa (mVarP 1) [.str])))) (sRet (mIf (mT (mB (mCmp .eq (mVarP 0) (mVarP 1)))) (mB (mCmp .eq (mB (mIsa (mVarP 0) [.str])) (mB (mIsa (mVarP 1) [.str])))) (mC (.bl false)))) sNil) (sRet (mIf (mT (mB (mIsa (mVarP 0) [.int]))) (mIf (mT (mB (mCmp .eq (mB (mIsa (mVarP 0) [.bool])) (mB (mIsa (mVarP 1) [.bool]))))) (mB (mCmp .eq (mVarP 0) (mVarP 1))) (mC (.bl false))) (mC (.bl false)))))

/-- plain data of a depth -/
def D.lev : Nat → D → Bool
  | _, .non => true
  | _, .bl _ => true
  | _, .int _ => true
  | _, .str x => PyData.strOk x
  | n + 1, .tup ds => ds.all (D.lev n) && decide (ds.length ≤ 100000)
  | n + 1, .lst ds => ds.all (D.lev n) && decide (ds.length ≤ 100000)
  | _, _ => false
mutual
def alk : D → D → Bool
  | .tup xs, .tup ys => alks xs ys
  | .lst xs, .lst ys => alks xs ys
  | .non, .non => true
  | .str x, .str y => x == y
  | .int i, .int j => decide (i = j)
  | .bl a, .bl b => a == b
  | _, _ => false
def alks : List D → List D → Bool
  | [], [] => true
  | x :: xs, y :: ys => alk x y && alks xs ys
  | _, _ => false
end
def alikeN (n : Nat) : SemF := fun ds g => match ds with
  | [a, b] => if a.lev n ∧ b.lev n then .ok (.dat (.bl (alk a b))) g else .stuck
  | _ => .stuck
theorem lev_fine : ∀ {n m : Nat} {d : D}, n ≤ m → d.lev n = true → d.fine m = true
  | n, m, .non, _, _ => fine_non
  | n, m, .bl _, _, _ => fine_bl
  | n, m, .int _, _, _ => fine_int
  | n, m, .str x, _, h => by cases n <;> cases m <;> exact h
  | n + 1, m + 1, .tup ds, hl, h => by
    have h : (ds.all (D.lev n) && decide (ds.length ≤ 100000)) = true := h
    rw [Bool.and_eq_true, List.all_eq_true] at h
    show ds.all (D.fine m) = true
    rw [List.all_eq_true]
    exact fun d hd => lev_fine (by omega) (h.1 d hd)
  | n + 1, m + 1, .lst ds, hl, h => by
    have h : (ds.all (D.lev n) && decide (ds.length ≤ 100000)) = true := h
    rw [Bool.and_eq_true, List.all_eq_true] at h
    show ds.all (D.fine m) = true
    rw [List.all_eq_true]
    exact fun d hd => lev_fine (by omega) (h.1 d hd)
  | n + 1, 0, _, hl, _ => absurd hl (by omega)
  | 0, m, .tup _, _, h => by cases h
  | 0, m, .lst _, _, h => by cases h
  | n, m, .mdl _, _, h => by cases n <;> cases h
  | n, m, .hnd, _, h => by cases n <;> cases h
  | n, m, .fn _, _, h => by cases n <;> cases h
  | n, m, .exc _ _, _, h => by cases n <;> cases h
theorem alks_len : ∀ {xs ys : List D}, xs.length ≠ ys.length → alks xs ys = false
  | [], [], h => absurd rfl h
  | [], _ :: _, _ => rfl
  | _ :: _, [], _ => rfl
  | x :: xs, y :: ys, h => by
    show (alk x y && alks xs ys) = false
    rw [alks_len (by simpa using h), Bool.and_false]
theorem alks_iff : ∀ {xs ys : List D}, xs.length = ys.length → (alks xs ys = true ↔ ∀ (k : Nat) (x y : D), xs[k]? = some x → ys[k]? = some y → alk x y = true)
  | [], [], _ => by simp [alks]
  | [], _ :: _, h => by simp at h
  | _ :: _, [], h => by simp at h
  | x :: xs, y :: ys, h => by
    show (alk x y && alks xs ys) = true ↔ _
    rw [Bool.and_eq_true, alks_iff (by simpa using h)]
    constructor
    · rintro ⟨h1, h2⟩ k a b ha hb
      cases k with
      | zero => cases ha; cases hb; exact h1
      | succ k => exact h2 k a b (by simpa using ha) (by simpa using hb)
    · intro h3
      exact ⟨h3 0 x y rfl rfl, fun k a b ha hb => h3 (k + 1) a b (by simpa using ha) (by simpa using hb)⟩
theorem alike_seq {n : Nat} {xs ys : List D} {g : Rng} (hx : ∀ d ∈ xs, d.lev n = true) (hy : ∀ d ∈ ys, d.lev n = true) (hl : xs.length = ys.length) (hyl : ys.length ≤ 100000) {Q : Bool → Prop} (hq : Q (alks xs ys)) {e : Env} {QL : List D → Env → Rng → Prop}
    {el cd} (hcd : ∀ (k : Nat) x y, xs[k]? = some x → ys[k]? = some y → WO ((Tgt.name 2).bind (.int (k : Nat)) e) fun e1 => Wp (cd e1 g) fun b e2 g2 => b = !alk x y ∧ (b = true → Wp (el e2 g2) fun z e3 g3 => z = .int (k : Nat) ∧ wipe e3 [2] = e ∧ g3 = g) ∧ (b = false → wipe e2 [2] = e ∧ g2 = g))
    (hQ : ∀ zs : List Nat, (zs = [] ↔ alks xs ys = true) → QL (zs.map fun k => .int (k : Nat)) e g) : Wp (compLoop [2] (.name 2) cd el ((List.range ys.length).map fun k => .int (k : Nat)) [] e g) QL := by
  have hk : ∀ k, k < ys.length → ∃ x y, xs[k]? = some x ∧ ys[k]? = some y := fun k hk => ⟨xs[k], ys[k], List.getElem?_eq_getElem (by omega), List.getElem?_eq_getElem hk⟩
  refine wp_clMap (fun k => match xs[k]?, ys[k]? with | some x, some y => !alk x y | _, _ => false) (fun k => .int (k : Nat)) _ (by rw [List.length_range]; exact hyl) (fun k hkm => ?_) (hQ _ ?_)
  · rw [List.mem_range] at hkm
    obtain ⟨x, y, h1, h2⟩ := hk k hkm
    have := hcd k x y h1 h2
    refine Wp.imp (r := cd _ g) this ?_
    rintro b e2 g2 ⟨rfl, h3, h4⟩
    rw [h1, h2]
    exact ⟨rfl, h3, h4⟩
  · rw [List.filter_eq_nil_iff, alks_iff hl]
    constructor
    · intro h k x y h1 h2
      have := h k (List.mem_range.mpr (List.getElem?_eq_some_iff.mp h2).1)
      rw [h1, h2] at this
      simpa using this
    · intro h k hkm
      obtain ⟨x, y, h1, h2⟩ := hk k (List.mem_range.mp hkm)
      rw [h1, h2]
      simp [h k x y h1 h2]
theorem alk_tt {xs ys : List D} : alk (.tup xs) (.tup ys) = alks xs ys := rfl
theorem alk_ll {xs ys : List D} : alk (.lst xs) (.lst ys) = alks xs ys := rfl
theorem alike_step {n : Nat} {a b : D} {g : Rng} (hn : n < 50) (ha : a.lev (n + 1) = true) (hb : b.lev (n + 1) = true) : runFn 3 (c_l_alike (alikeN n)) [a, b] g = .ok (.dat (.bl (alk a b))) g := by
  have fa := lev_fine (m := 60) (by omega) ha
  have fb := lev_fine (m := 60) (by omega) hb
  have call : ∀ x y : D, x.lev n = true → y.lev n = true → ∀ g, alikeN n [x, y] g = .ok (.dat (.bl (alk x y))) g := fun x y h1 h2 g => by
    show (if x.lev n ∧ y.lev n then _ else _) = _
    rw [if_pos ⟨h1, h2⟩]
  refine run_is (by simp) ?_
  unfold c_l_alike
  cases b with
  | tup ys =>
    cases a with
    | tup xs =>
      have hx : (xs.all (D.lev n) && decide (xs.length ≤ 100000)) = true := ha
      have hy : (ys.all (D.lev n) && decide (ys.length ≤ 100000)) = true := hb
      rw [Bool.and_eq_true, List.all_eq_true, decide_eq_true_eq] at hx hy
      trivial
      refine ⟨fun hl => ?_, fun hl => ?_⟩
      · have hl : xs.length = ys.length := by omega
        refine ⟨hy.2, ?_⟩
        refine alike_seq hx.1 hy.1 hl hy.2 (Q := fun _ => True) True.intro (fun k x y h1 h2 => ?_) (fun zs hz => ?_)
        · trivial
          refine ix_use h1 ?_
          trivial
          refine ix_use h2 ?_
          trivial
          refine wf_of (call x y (hx.1 x (List.mem_of_getElem? h1)) (hy.1 y (List.mem_of_getElem? h2)) g) ?_
          trivial
          exact ⟨fun _ => trivial, fun _ => trivial⟩
        · trivial
          refine ⟨⟨fine_map (fun _ => fine_int) _, rfl⟩, ?_⟩
          rw [alk_tt]
          cases zs with
          | nil => rw [hz.mp rfl]; rfl
          | cons z zs =>
            have : alks xs ys = false := by
              cases q : alks xs ys with
              | false => rfl
              | true => exact absurd (hz.mpr q) (by simp)
            rw [this]; rfl
      · rw [alk_tt]
        rw [alks_len (by omega)]
    | mdl _ => cases ha
    | hnd => cases ha
    | fn _ => cases ha
    | exc _ _ => cases ha
    | _ => trivial <;> rfl
  | lst ys =>
    cases a with
    | lst xs =>
      have hx : (xs.all (D.lev n) && decide (xs.length ≤ 100000)) = true := ha
      have hy : (ys.all (D.lev n) && decide (ys.length ≤ 100000)) = true := hb
      rw [Bool.and_eq_true, List.all_eq_true, decide_eq_true_eq] at hx hy
      trivial
      refine ⟨fun hl => ?_, fun hl => ?_⟩
      · have hl : xs.length = ys.length := by omega
        refine ⟨hy.2, ?_⟩
        refine alike_seq hx.1 hy.1 hl hy.2 (Q := fun _ => True) True.intro (fun k x y h1 h2 => ?_) (fun zs hz => ?_)
        · trivial
          refine ix_use h1 ?_
          trivial
          refine ix_use h2 ?_
          trivial
          refine wf_of (call x y (hx.1 x (List.mem_of_getElem? h1)) (hy.1 y (List.mem_of_getElem? h2)) g) ?_
          trivial
          exact ⟨fun _ => trivial, fun _ => trivial⟩
        · trivial
          refine ⟨⟨fine_map (fun _ => fine_int) _, rfl⟩, ?_⟩
          rw [alk_ll]
          cases zs with
          | nil => rw [hz.mp rfl]; rfl
          | cons z zs =>
            have : alks xs ys = false := by
              cases q : alks xs ys with
              | false => rfl
              | true => exact absurd (hz.mpr q) (by simp)
            rw [this]; rfl
      · rw [alk_ll]
        rw [alks_len (by omega)]
    | mdl _ => cases ha
    | hnd => cases ha
    | fn _ => cases ha
    | exc _ _ => cases ha
    | _ => trivial <;> rfl
  | mdl _ => cases hb
  | hnd => cases hb
  | fn _ => cases hb
  | exc _ _ => cases hb
  | non =>
    cases a with
    | mdl _ => cases ha
    | hnd => cases ha
    | fn _ => cases ha
    | exc _ _ => cases ha
    | _ => trivial <;> first | rfl | exact ⟨fa, rfl⟩
  | str y =>
    cases a with
    | mdl _ => cases ha
    | hnd => cases ha
    | fn _ => cases ha
    | exc _ _ => cases ha
    | str x =>
      trivial
      refine ⟨⟨fa, fb⟩, ?_⟩
      rw [show alk (.str x) (.str y) = (x == y) from rfl]
      cases (x == y) <;> trivial
    | _ => trivial <;> first | rfl | exact ⟨⟨fa, fb⟩, rfl⟩ | exact ⟨fb, rfl⟩
  | int j =>
    cases a with
    | mdl _ => cases ha
    | hnd => cases ha
    | fn _ => cases ha
    | exc _ _ => cases ha
    | _ => trivial <;> first | rfl | exact ⟨⟨fa, fb⟩, rfl⟩ | exact ⟨fb, rfl⟩
  | bl j =>
    cases a with
    | mdl _ => cases ha
    | hnd => cases ha
    | fn _ => cases ha
    | exc _ _ => cases ha
    | _ => trivial <;> first | rfl | exact ⟨⟨fa, fb⟩, rfl⟩ | exact ⟨fb, rfl⟩
theorem alike_step0 {f : SemF} {a b : D} {g : Rng} (ha : a.lev 0 = true) (hb : b.lev 0 = true) : runFn 3 (c_l_alike f) [a, b] g = .ok (.dat (.bl (alk a b))) g := by
  have fa := lev_fine (m := 60) (by omega) ha
  have fb := lev_fine (m := 60) (by omega) hb
  refine run_is (by simp) ?_
  unfold c_l_alike
  cases b with
  | tup _ => cases hb
  | lst _ => cases hb
  | mdl _ => cases hb
  | hnd => cases hb
  | fn _ => cases hb
  | exc _ _ => cases hb
  | non =>
    cases a with
    | tup _ => cases ha
    | lst _ => cases ha
    | mdl _ => cases ha
    | hnd => cases ha
    | fn _ => cases ha
    | exc _ _ => cases ha
    | _ => trivial <;> first | rfl | exact ⟨fa, rfl⟩
  | str y =>
    cases a with
    | tup _ => cases ha
    | lst _ => cases ha
    | mdl _ => cases ha
    | hnd => cases ha
    | fn _ => cases ha
    | exc _ _ => cases ha
    | str x =>
      trivial
      refine ⟨⟨fa, fb⟩, ?_⟩
      rw [show alk (.str x) (.str y) = (x == y) from rfl]
      cases (x == y) <;> trivial
    | _ => trivial <;> first | rfl | exact ⟨⟨fa, fb⟩, rfl⟩ | exact ⟨fb, rfl⟩
  | int j =>
    cases a with
    | tup _ => cases ha
    | lst _ => cases ha
    | mdl _ => cases ha
    | hnd => cases ha
    | fn _ => cases ha
    | exc _ _ => cases ha
    | _ => trivial <;> first | rfl | exact ⟨⟨fa, fb⟩, rfl⟩ | exact ⟨fb, rfl⟩
  | bl j =>
    cases a with
    | tup _ => cases ha
    | lst _ => cases ha
    | mdl _ => cases ha
    | hnd => cases ha
    | fn _ => cases ha
    | exc _ _ => cases ha
    | _ => trivial <;> first | rfl | exact ⟨⟨fa, fb⟩, rfl⟩ | exact ⟨fb, rfl⟩
def alikeF : SemF := alikeN 8
theorem alike_ok {a b : D} {g : Rng} (ha : a.lev 8 = true) (hb : b.lev 8 = true) : alikeF [a, b] g = .ok (.dat (.bl (alk a b))) g := by
  show (if a.lev 8 ∧ b.lev 8 then _ else _) = _
  rw [if_pos ⟨ha, hb⟩]
mutual
theorem alk_refl : ∀ {n : Nat} {d : D}, d.lev n = true → alk d d = true
  | _, .non, _ => rfl
  | _, .bl b, _ => by cases b <;> rfl
  | _, .int i, _ => decide_eq_true rfl
  | _, .str x, _ => by show (x == x) = true; simp
  | n + 1, .tup ds, h => by
    have h : (ds.all (D.lev n) && decide (ds.length ≤ 100000)) = true := h
    rw [Bool.and_eq_true] at h
    exact alks_refl h.1
  | n + 1, .lst ds, h => by
    have h : (ds.all (D.lev n) && decide (ds.length ≤ 100000)) = true := h
    rw [Bool.and_eq_true] at h
    exact alks_refl h.1
  | 0, .tup _, h => by cases h
  | 0, .lst _, h => by cases h
  | n, .mdl _, h => by cases n <;> cases h
  | n, .hnd, h => by cases n <;> cases h
  | n, .fn _, h => by cases n <;> cases h
  | n, .exc _ _, h => by cases n <;> cases h
theorem alks_refl : ∀ {n : Nat} {ds : List D}, ds.all (D.lev n) = true → alks ds ds = true
  | _, [], _ => rfl
  | n, d :: ds, h => by
    rw [List.all_cons, Bool.and_eq_true] at h
    show (alk d d && alks ds ds) = true
    rw [alk_refl h.1, alks_refl h.2]; rfl
end
theorem lev_int {n : Nat} {i : Int} : D.lev n (.int i) = true := by cases n <;> rfl
theorem lev_bl {n : Nat} {i : Bool} : D.lev n (.bl i) = true := by cases n <;> rfl
theorem lev_non {n : Nat} : D.lev n .non = true := by cases n <;> rfl
theorem lev_tup {n : Nat} {ds : List D} (h : ∀ d ∈ ds, d.lev n = true) (hl : ds.length ≤ 100000) : D.lev (n + 1) (.tup ds) = true := by
  show (ds.all (D.lev n) && decide (ds.length ≤ 100000)) = true
  rw [Bool.and_eq_true, List.all_eq_true, decide_eq_true_eq]
  exact ⟨h, hl⟩
theorem lev_lst {n : Nat} {ds : List D} (h : ∀ d ∈ ds, d.lev n = true) (hl : ds.length ≤ 100000) : D.lev (n + 1) (.lst ds) = true := lev_tup h hl
theorem lev_map {α : Type} {n : Nat} {f : α → D} {xs : List α} (h : ∀ x, (f x).lev n = true) (hl : xs.length ≤ 100000) : D.lev (n + 1) (.tup (xs.map f)) = true := lev_tup (fun d hd => by
  obtain ⟨x, _, rfl⟩ := List.mem_map.mp hd
  exact h x) (by rw [List.length_map]; exact hl)
end PV
set_option Elab.async false
set_option linter.all false
set_option maxRecDepth 100000
set_option maxHeartbeats 4000000
/-! PL1: numbers: what the program's defs about numbers answer. -/
namespace PV
open PySem L2
local macro_rules | `(tactic| trivial) => `(tactic| simp only [vK_ap, wo_some, q_varP, q_varF, q_varR, onV_0, onV_s, q_frz, fzK_dat, fzK_own, q_all_nil, q_all, alK1_ap, alK2_ap, q_bin, biK1_ap, biK2_ap, bK_ap, q_cmp, cmK1_ap, cmK2_ap, q_chain, chK1_ap, chK2_ap, chK3_dec, q_not, noK_ap, q_if, q_sIf, q_and, q_or, q_ret, q_b, mbK_ap, q_t, mtK_ap, q_neg, neK_ap, q_c, q_tup, tuK_ap, q_lst, liK_ap, q_idx, ixK1_ap, ixK2_ap, dK_ap, q_idxT, q_idxL, q_idxO, coK_ap, q_ixMap, q_ix0, q_ix1, q_ix2, q_ix3, owK_ap, q_rowsI, q_rowP, rpK1_ap, rpK2_ap, rpK3_ap, q_part0, q_part1, ptK_ap, q_slice, slK1_ap, slK2_ap, slK3_ap, lK_ap, q_seq, sqK_lst, sqK_tup, sqK_own, q_rng1, q_rng2, rgK0_ap, rgK_ap, q_enum, q_enumK, enK_lst, enK_tup, enK_own, q_zip2, zpK1_ap, zpK2_lst, zpK2_tup, zpK2_own, zpK3_lst, zpK3_tup, zpK3_own, q_zip3, z3K1_ap, z3K2_ap, z3K3_tup, z3K3_lst, z3K3_own, z3K4_tup, z3K4_lst, z3K4_own, z3K5_tup, z3K5_lst, z3K5_own, reK_ap, q_call, caK_ap, q_bn, bnK_ap, sqV_lst, sqV_tup, sqV_own, liV_lst, liV_own, q_sum, suK_ap, q_max, mxK_ap, q_min, mnK_ap, q_allB, aaK_ap, q_anyB, anK_ap, q_isa, isK_int, isK_bl, isK_non, isK_str, isK_tup, isK_lst, isK_mdl, isK_own, q_index, idK1_own, idK2_ap, q_tabs, taK_ap, q_prop, prK_ap, q_comp, cpK_ap, cpK2_ap, q_rowsC, rcK_ap, rcK2_ap, still_nil, still_cons, okAt_0, okAt_n, okAt_m, okAt_s, wipe_nil, wipe_cons, unwipe_nil, unwipe_cons, join_0, join_s, set_0, set_s, q_nil, q_seqS, q_set, seK_ap, q_par2, p2K1_ap, p2K2_ap, q_par3, p3K1_ap, p3K2_ap, p3K3_ap, q_unp, unK_ap, setAll_nil, setAll_cons, q_drop, drK_ap, q_rets, rtK_ap, ownK_0, ownK_s, q_app, apK1_ap, apK2_ap, apK3_ap, q_put, puK1_ap, puK2_ap, puK3_ap, puK4_ap, puK5_ap, q_augI, aiK1_ap, aiK2_ap, aiK3_ap, aiK4_ap, aiK5_ap, aiK6_ap, aiK7_ap, q_aug, auK1_ap, auK2_ap, q_augL, alK3_ap, alK4_own, alK5_ap, q_for, foK_ap, q_appR, arK1_ap, arK2_ap, arK3_ap, arK4_ap, arK5_ap, q_putR, prK1_ap, prK2_ap, prK3_ap, prK4_ap, prK5_ap, prK6_ap, prK7_ap, q_rowAt, onRow_0, onRow_s, ifK_true, ifK_false, ifK_dec, ifK_ndec, frzK_dat, frzK_own, frzK_owns, retK_dat, retK_own, retK_owns, seqK_none, seqK_some, wo_if, wo_add, wo_sub, wo_mul, wo_fdiv, wo_mod, wo_pow, wo_addT, wo_addOO, wo_addLO, wo_addOL, wo_addLL, wo_mulT, wo_mulO, wo_eqB, wo_neB, wo_eqD, wo_neD, wo_eqOO, wo_neOO, wo_eqDO, wo_neDO, wo_lt, wo_le, wo_gt, wo_ge, wo_inO, wo_ninO, opIn_own, opIn_lst, wo_is_non, wo_isnot_non, wo_is_int, wo_is_tup, wo_is_lst, wo_isnot_tup, wo_isnot_lst, wo_row_dat, wo_lenT, wo_lenL, wo_lenO, wo_lenOs, wo_max2, wo_min2, wo_abs, wo_tupO, wo_tupL, wo_tupT, wo_lstO, wo_lstL, wo_lstT, wo_intI, wo_maxC, wo_minC, wo_rangeN, wo_indexO, wo_sliceT, wo_sliceL, wo_sliceO, wo_bind_name, wo_bind_names, outK_none, outK_some, List.length_cons, List.length_nil, List.length_map, Nat.zero_add, Nat.reduceAdd, Nat.reduceLT, Nat.reduceLeDiff, line, true_and, and_true, Bool.and_self, Bool.true_and, Bool.and_true, Bool.not_true, Bool.not_false, if_true, if_false, fine_int, fine_bl, fine_non, eqv_ii, eqv_bb, mkEnv_0, mkEnv_n, mkEnv_c, isaB_nil, isaB_cons, D.isa, Bool.or_false, Bool.or_true, Bool.true_or, Bool.false_or, decide_eq_true_eq, decide_eq_false_iff_not, true_implies, false_implies, Bool.true_eq_false, Bool.false_eq_true, suK_map, mxK_map, mnK_map, aaK_map, anK_map, frzK_lz, okAt_some, okAt_none, okAt_mapd, onRow_some, onV_some, ownK_own, List.getElem?_cons_zero, List.getElem?_cons_succ, Option.join_some, ifK_nbeq, ifK_beq, eqv_lcn, eqv_lnn, eqv_lnc, eqv_tcn, eqv_tnn, List.map_nil, List.map_cons, wo_is_str, wo_is_bl, wo_is_mdl, wo_isnot_int, wo_isnot_mdl, q_make, mkK_ap, mkK2_ap, outI_ap, Bool.true_beq, Bool.false_beq, Bool.not_not, Bool.false_and, Bool.and_false, eqv_nn, eqv_nb, eqv_ni, eqv_ns, eqv_nt, eqv_nl, eqv_bn, eqv_bi, eqv_bs, eqv_bt, eqv_bl, eqv_in, eqv_ib, eqv_is, eqv_it, eqv_il, eqv_sn, eqv_sb, eqv_si, eqv_ss, eqv_st, eqv_sl, eqv_tn, eqv_tb, eqv_ti, eqv_ts, eqv_tl, eqv_ln, eqv_lb, eqv_li, eqv_ls, eqv_lt, q_par4, p4K1_ap, p4K2_ap, p4K3_ap, p4K4_ap, sqK_lz])
noncomputable def c_divisor : S := sSeq (sPar2 0 1 (mBn .abs [mVarP 0]) (mBn .abs [mVarP 1])) (sSeq (sWhile (mCmp .gt (mVarP 1) (mC (.int 0))) (sPar2 0 1 (mVarF 1) (mBin .mod (mVarP 0) (mVarP 1)))) (sRet (mVarR 0)))
noncomputable def f_divisor : SemF := runFn 2 c_divisor

noncomputable def c_is_integer : S := sRet (mIf (mT (mB (mIsa (mVarP 0) [.int]))) (mIf (mT (mB (mNot (mT (mB (mIsa (mVarP 0) [.bool])))))) (mB (mChain .le .le (mVarP 1) (mVarP 0) (mVarP 2))) (mC (.bl false))) (mC (.bl false)))
noncomputable def f_is_integer : SemF := runFn 3 c_is_integer

noncomputable def c_lowest : S := sSeq (sSet 1 (mC (.int 0))) (sSeq (sFor (.name 2) (.seq (mVarF 0)) (sSet 1 (mCall 2 f_divisor [mFrz (mVarF 1), mFrz (mVarF 2)]))) (sRet (mBn .tuple [mComp [2] (.name 2) (.seq (mVarP 0)) (mRet true) (mFrz (mBin .fdiv (mVarP 2) (mVarP 1)))])))
noncomputable def f_lowest : SemF := runFn 3 c_lowest

theorem f_is_integer_ok {i lo hi : Int} {g : Rng} : f_is_integer [.int i, .int lo, .int hi] g = .ok (.dat (.bl (decide (lo ≤ i ∧ i ≤ hi)))) g := by
  refine run_is (by simp) ?_
  unfold c_is_integer
  trivial
  constructor
  · intro h
    by_cases h2 : i ≤ hi <;> simp [h, h2]
  · intro h
    simp [h]
theorem f_divisor_ok {a b : Int} {g : Rng} : f_divisor [.int a, .int b] g = .ok (.dat (.int (Int.gcd a b : Nat))) g := by
  refine run_is (by simp) ?_
  unfold c_divisor
  trivial
  refine wp_while (fun n e g' => g' = g ∧ ∃ x y : Nat, e = [some (.dat (.int x)), some (.dat (.int y))] ∧ Nat.gcd x y = Int.gcd a b ∧ n = y) ?_ (n := b.natAbs) ⟨rfl, a.natAbs, b.natAbs, rfl, rfl, rfl⟩
  rintro n e g' ⟨rfl, x, y, rfl, hg, rfl⟩
  trivial
  refine ⟨fun h => ⟨by omega, x % n, Nat.mod_lt _ (by omega), n, x % n, ?_, ?_, rfl⟩, fun h => ?_⟩
  · rw [Int.fmod_eq_emod_of_nonneg _ (by omega)]; rfl
  · rw [← hg, Nat.gcd_comm x n, Nat.gcd_rec n x, Nat.gcd_comm]
  · have : n = 0 := by omega
    subst this
    rw [Nat.gcd_zero_right] at hg
    rw [hg]
/-- the common divisor of ints -/
def gcdL (ns : List Int) : Nat := ns.foldl (fun c n => Int.gcd c n) 0
theorem foldl_gcd_dvd : ∀ (ns : List Int) (c : Nat), ns.foldl (fun c n => Int.gcd c n) c ∣ c ∧ ∀ x ∈ ns, ((ns.foldl (fun c n => Int.gcd c n) c : Nat) : Int) ∣ x
  | [], c => by simp
  | n :: ns, c => by
    obtain ⟨h1, h2⟩ := foldl_gcd_dvd ns (Int.gcd c n)
    rw [List.foldl_cons]
    refine ⟨Nat.dvd_trans h1 ?_, fun x hx => ?_⟩
    · have := Int.gcd_dvd_left (a := (c : Int)) (b := n)
      exact Int.natCast_dvd_natCast.mp this
    · rcases List.mem_cons.mp hx with rfl | hx
      · exact Int.dvd_trans (Int.natCast_dvd_natCast.mpr h1) (Int.gcd_dvd_right ..)
      · exact h2 x hx
theorem gcdL_dvd {ns : List Int} {x : Int} (h : x ∈ ns) : (gcdL ns : Int) ∣ x := (foldl_gcd_dvd ns 0).2 x h
theorem gcdL_pos {ns : List Int} {x : Int} (h : x ∈ ns) (hx : x ≠ 0) : 0 < gcdL ns := by
  rcases Nat.eq_zero_or_pos (gcdL ns) with q | q
  · have := gcdL_dvd h
    rw [q] at this
    exact absurd (Int.zero_dvd.mp (by simpa using this)) hx
  · exact q
def lowL (ns : List Int) : List Int := ns.map fun n => n.fdiv (gcdL ns)
theorem f_lowest_okL {ns : List Int} {g : Rng} (h0 : 0 < gcdL ns) (hb : gcdL ns < 2 ^ 8999) (hl : ns.length ≤ line) : f_lowest [dLi ns] g = .ok (.dat (dTi (lowL ns))) g := by
  refine run_is (by simp) ?_
  unfold c_lowest
  trivial
  refine wp_go (fun done e g' => g' = g ∧ ∃ v : Option D, e = [some (.dat (dLi ns)), some (.dat (.int (gcdL done : Nat))), v.map .dat]) ns ⟨rfl, none, rfl⟩ ?_ ?_
  · rintro done x rest e g' hx ⟨rfl, v, rfl⟩
    trivial
    refine wf_of f_divisor_ok ?_
    trivial
    refine ⟨some (.int x), ?_⟩
    unfold gcdL
    rw [List.foldl_append]
    rfl
  · rintro e g' ⟨rfl, v, rfl⟩
    trivial
    refine wp_clAll (fun n => .int (n.fdiv (gcdL ns))) ns hl (fun x hx => ?_) ?_
    · trivial
      exact ⟨by omega, by rw [Int.natAbs_natCast]; exact hb⟩
    · trivial
      simp [lowL, Function.comp_def]
end PV
set_option Elab.async false
set_option linter.all false
set_option maxRecDepth 100000
set_option maxHeartbeats 4000000
/-! PL2: models, columns, the coarsest summary, as the program has them. -/
namespace PV
open PySem L2
local macro_rules | `(tactic| trivial) => `(tactic| simp only [vK_ap, wo_some, q_varP, q_varF, q_varR, onV_0, onV_s, q_frz, fzK_dat, fzK_own, q_all_nil, q_all, alK1_ap, alK2_ap, q_bin, biK1_ap, biK2_ap, bK_ap, q_cmp, cmK1_ap, cmK2_ap, q_chain, chK1_ap, chK2_ap, chK3_dec, q_not, noK_ap, q_if, q_sIf, q_and, q_or, q_ret, q_b, mbK_ap, q_t, mtK_ap, q_neg, neK_ap, q_c, q_tup, tuK_ap, q_lst, liK_ap, q_idx, ixK1_ap, ixK2_ap, dK_ap, q_idxT, q_idxL, q_idxO, coK_ap, q_ixMap, q_ix0, q_ix1, q_ix2, q_ix3, owK_ap, q_rowsI, q_rowP, rpK1_ap, rpK2_ap, rpK3_ap, q_part0, q_part1, ptK_ap, q_slice, slK1_ap, slK2_ap, slK3_ap, lK_ap, q_seq, sqK_lst, sqK_tup, sqK_own, q_rng1, q_rng2, rgK0_ap, rgK_ap, q_enum, q_enumK, enK_lst, enK_tup, enK_own, q_zip2, zpK1_ap, zpK2_lst, zpK2_tup, zpK2_own, zpK3_lst, zpK3_tup, zpK3_own, q_zip3, z3K1_ap, z3K2_ap, z3K3_tup, z3K3_lst, z3K3_own, z3K4_tup, z3K4_lst, z3K4_own, z3K5_tup, z3K5_lst, z3K5_own, reK_ap, q_call, caK_ap, q_bn, bnK_ap, sqV_lst, sqV_tup, sqV_own, liV_lst, liV_own, q_sum, suK_ap, q_max, mxK_ap, q_min, mnK_ap, q_allB, aaK_ap, q_anyB, anK_ap, q_isa, isK_int, isK_bl, isK_non, isK_str, isK_tup, isK_lst, isK_mdl, isK_own, q_index, idK1_own, idK2_ap, q_tabs, taK_ap, q_prop, prK_ap, q_comp, cpK_ap, cpK2_ap, q_rowsC, rcK_ap, rcK2_ap, still_nil, still_cons, okAt_0, okAt_n, okAt_m, okAt_s, wipe_nil, wipe_cons, unwipe_nil, unwipe_cons, join_0, join_s, set_0, set_s, q_nil, q_seqS, q_set, seK_ap, q_par2, p2K1_ap, p2K2_ap, q_par3, p3K1_ap, p3K2_ap, p3K3_ap, q_unp, unK_ap, setAll_nil, setAll_cons, q_drop, drK_ap, q_rets, rtK_ap, ownK_0, ownK_s, q_app, apK1_ap, apK2_ap, apK3_ap, q_put, puK1_ap, puK2_ap, puK3_ap, puK4_ap, puK5_ap, q_augI, aiK1_ap, aiK2_ap, aiK3_ap, aiK4_ap, aiK5_ap, aiK6_ap, aiK7_ap, q_aug, auK1_ap, auK2_ap, q_augL, alK3_ap, alK4_own, alK5_ap, q_for, foK_ap, q_appR, arK1_ap, arK2_ap, arK3_ap, arK4_ap, arK5_ap, q_putR, prK1_ap, prK2_ap, prK3_ap, prK4_ap, prK5_ap, prK6_ap, prK7_ap, q_rowAt, onRow_0, onRow_s, ifK_true, ifK_false, ifK_dec, ifK_ndec, frzK_dat, frzK_own, frzK_owns, retK_dat, retK_own, retK_owns, seqK_none, seqK_some, wo_if, wo_add, wo_sub, wo_mul, wo_fdiv, wo_mod, wo_pow, wo_addT, wo_addOO, wo_addLO, wo_addOL, wo_addLL, wo_mulT, wo_mulO, wo_eqB, wo_neB, wo_eqD, wo_neD, wo_eqOO, wo_neOO, wo_eqDO, wo_neDO, wo_lt, wo_le, wo_gt, wo_ge, wo_inO, wo_ninO, opIn_own, opIn_lst, wo_is_non, wo_isnot_non, wo_is_int, wo_is_tup, wo_is_lst, wo_isnot_tup, wo_isnot_lst, wo_row_dat, wo_lenT, wo_lenL, wo_lenO, wo_lenOs, wo_max2, wo_min2, wo_abs, wo_tupO, wo_tupL, wo_tupT, wo_lstO, wo_lstL, wo_lstT, wo_intI, wo_maxC, wo_minC, wo_rangeN, wo_indexO, wo_sliceT, wo_sliceL, wo_sliceO, wo_bind_name, wo_bind_names, outK_none, outK_some, List.length_cons, List.length_nil, List.length_map, Nat.zero_add, Nat.reduceAdd, Nat.reduceLT, Nat.reduceLeDiff, line, true_and, and_true, Bool.and_self, Bool.true_and, Bool.and_true, Bool.not_true, Bool.not_false, if_true, if_false, fine_int, fine_bl, fine_non, eqv_ii, eqv_bb, mkEnv_0, mkEnv_n, mkEnv_c, isaB_nil, isaB_cons, D.isa, Bool.or_false, Bool.or_true, Bool.true_or, Bool.false_or, decide_eq_true_eq, decide_eq_false_iff_not, true_implies, false_implies, Bool.true_eq_false, Bool.false_eq_true, suK_map, mxK_map, mnK_map, aaK_map, anK_map, frzK_lz, okAt_some, okAt_none, okAt_mapd, onRow_some, onV_some, ownK_own, List.getElem?_cons_zero, List.getElem?_cons_succ, Option.join_some, ifK_nbeq, ifK_beq, eqv_lcn, eqv_lnn, eqv_lnc, eqv_tcn, eqv_tnn, List.map_nil, List.map_cons, wo_is_str, wo_is_bl, wo_is_mdl, wo_isnot_int, wo_isnot_mdl, q_make, mkK_ap, mkK2_ap, outI_ap, Bool.true_beq, Bool.false_beq, Bool.not_not, Bool.false_and, Bool.and_false, eqv_nn, eqv_nb, eqv_ni, eqv_ns, eqv_nt, eqv_nl, eqv_bn, eqv_bi, eqv_bs, eqv_bt, eqv_bl, eqv_in, eqv_ib, eqv_is, eqv_it, eqv_il, eqv_sn, eqv_sb, eqv_si, eqv_ss, eqv_st, eqv_sl, eqv_tn, eqv_tb, eqv_ti, eqv_ts, eqv_tl, eqv_ln, eqv_lb, eqv_li, eqv_ls, eqv_lt, q_par4, p4K1_ap, p4K2_ap, p4K3_ap, p4K4_ap, sqK_lz])
noncomputable def c_is_table : S := sSeq (sIf (mOr (mNot (mT (mB (mIsa (mVarP 0) [.tuple])))) (mCmp .ne (mBn .len [mVarP 0]) (mVarP 1))) (sRet (mC (.bl false))) sNil) (sRet (mIf (mT (mBn .all [mComp [2] (.name 2) (.seq (mVarP 0)) (mRet true) (mFrz (mCall 3 f_is_integer [mFrz (mVarF 2), mFrz (mC (.int 0)), mFrz (mC (.int 1000000))]))])) (mB (mCmp .gt (mBn .max [mVarP 0]) (mC (.int 0)))) (mC (.bl false))))
noncomputable def f_is_table : SemF := runFn 3 c_is_table

noncomputable def c_check_tables : S := sSeq (sIf (mOr (mNot (mT (mB (mIsa (mVarP 0) [.tuple])))) (mNot (mChain .le .le (mC (.int 1)) (mBn .len [mVarP 0]) (mC (.int 4))))) sNever sNil) (sSeq (sSet 1 (mIf (mT (mB (mIsa (mIdx (mVarP 0) (mC (.int 0))) [.tuple]))) (mBn .len [mIdx (mVarP 0) (mC (.int 0))]) (mC (.int 0)))) (sFor (.names [2, 3]) (.enum (mVarF 0)) (sIf (mOr (mNot (mChain .le .le (mC (.int 1)) (mVarP 1) (mC (.int 27)))) (mNot (mT (mCall 2 f_is_table [mFrz (mVarF 3), mFrz (mVarF 1)])))) sNever sNil)))
noncomputable def f_check_tables : SemF := runFn 4 c_check_tables

noncomputable def c_init1 : S := sDrop (mCall 1 f_check_tables [mFrz (mVarF 1)])
noncomputable def c_init2 : S := sFor (.name 2) (.rng1 (mBn .len [mIdx (mVarP 1) (mC (.int 0))])) (sIf (mCmp .eq (mBn .max [mComp [3] (.name 3) (.seq (mVarP 1)) (mRet true) (mFrz (mIdx (mVarP 3) (mVarP 2)))]) (mC (.int 0))) sNever sNil)
noncomputable def c_init : S := sSeq c_init1 c_init2
noncomputable def f_init : SemF := runInit 4 c_init

noncomputable def c_check_outcome : S := sIf (mNot (mT (mCall 3 f_is_integer [mFrz (mVarF 1), mFrz (mC (.int 0)), mFrz (mBin .sub (mBn .len [mIdx (mTabs (mVarP 0)) (mC (.int 0))]) (mC (.int 1)))]))) sNever sNil
noncomputable def f_check_outcome : SemF := runFn 2 c_check_outcome

noncomputable def c_numbered : S := sSeq (sPar2 2 3 (mLst []) (mLst [])) (sSeq (sFor (.name 1) (.seq (mVarF 0)) (sSeq (sIf (mCmp .notin (mVarP 1) (mVarP 2)) (sApp 2 (mFrz (mVarF 1))) sNil) (sApp 3 (mFrz (mIndex (mVarP 2) (mFrz (mVarF 1))))))) (sRet (mBn .tuple [mVarP 3])))
noncomputable def f_numbered : SemF := runFn 4 c_numbered

noncomputable def c_column_of : S := sRet (mCall 1 f_lowest [mFrz (mComp [2] (.name 2) (.seq (mTabs (mVarP 0))) (mRet true) (mFrz (mIdx (mVarP 2) (mVarP 1))))])
noncomputable def f_column_of : SemF := runFn 3 c_column_of

noncomputable def c_alike : S := sSeq (sDrop (mCall 2 f_check_outcome [mFrz (mVarF 0), mFrz (mVarF 1)])) (sSeq (sDrop (mCall 2 f_check_outcome [mFrz (mVarF 0), mFrz (mVarF 2)])) (sRet (mB (mCmp .eq (mCall 2 f_column_of [mFrz (mVarF 0), mFrz (mVarF 1)]) (mCall 2 f_column_of [mFrz (mVarF 0), mFrz (mVarF 2)])))))
noncomputable def f_alike : SemF := runFn 3 c_alike

noncomputable def c_coarsest_of : S := sRet (mCall 1 f_numbered [mFrz (mComp [1] (.name 1) (.rng1 (mBn .len [mIdx (mTabs (mVarP 0)) (mC (.int 0))])) (mRet true) (mFrz (mCall 2 f_column_of [mFrz (mVarF 0), mFrz (mVarF 1)])))])
noncomputable def f_coarsest_of : SemF := runFn 2 c_coarsest_of

noncomputable def c_coarsest : S := sRet (mCall 1 f_coarsest_of [mFrz (mVarF 0)])
noncomputable def f_coarsest : SemF := runFn 1 c_coarsest

structure Good (rows : List (List Int)) (n : Nat) : Prop where
  m1 : 1 ≤ rows.length
  m4 : rows.length ≤ 4
  n1 : 1 ≤ n
  n27 : n ≤ 27
  len : ∀ r ∈ rows, r.length = n
  lo : ∀ r ∈ rows, ∀ x ∈ r, 0 ≤ x
  hi : ∀ r ∈ rows, ∀ x ∈ r, x ≤ 1000000
  pos : ∀ r ∈ rows, ∃ x ∈ r, 0 < x
  col : ∀ j < n, ∃ r ∈ rows, 0 < r.getD j 0
theorem getD_at {r : List Int} {j : Nat} (h : j < r.length) : r[j]? = some (r.getD j 0) := by
  rw [List.getD_eq_getElem?_getD, List.getElem?_eq_getElem h]; rfl
theorem getD_mem {r : List Int} {j : Nat} (h : j < r.length) : r.getD j 0 ∈ r := List.mem_of_getElem? (getD_at h)
/-- the first row of a model -/
theorem Good.first {rows : List (List Int)} {n : Nat} (G : Good rows n) : ∃ r, rows[0]? = some r ∧ r ∈ rows ∧ r.length = n := by
  have h := G.m1
  refine ⟨rows[0], List.getElem?_eq_getElem h, List.getElem_mem h, G.len _ (List.getElem_mem h)⟩
theorem f_is_table_ok {r : List Int} {n : Nat} {g : Rng} (hl : r.length = n) (h1 : 1 ≤ n) (h27 : n ≤ 27) (lo : ∀ x ∈ r, 0 ≤ x) (hi : ∀ x ∈ r, x ≤ 1000000) (pos : ∃ x ∈ r, 0 < x) : f_is_table [dTi r, .int (n : Nat)] g = .ok (.dat (.bl true)) g := by
  refine run_is (by simp) ?_
  unfold c_is_table
  trivial
  refine ⟨fun _ => ?_, fun h => absurd (by omega) h⟩
  refine wp_clAll (fun x => .bl (decide (0 ≤ x ∧ x ≤ 1000000))) r (by show r.length ≤ 100000; omega) (fun x hx => ?_) ?_
  · trivial
    refine wf_of f_is_integer_ok ?_
    trivial
  · trivial
    have ha : (r.all fun x => decide (0 ≤ x ∧ x ≤ 1000000)) = true := by
      rw [List.all_eq_true]
      intro x hx
      exact decide_eq_true ⟨lo x hx, hi x hx⟩
    rw [ha]
    trivial
    have hne : r ≠ [] := by
      obtain ⟨x, hx, _⟩ := pos
      exact List.ne_nil_of_mem hx
    refine opMax_of hne ?_
    trivial
    rw [decide_eq_true ((maxL_pos hne).mpr pos)]
theorem f_check_tables_ok {rows : List (List Int)} {n : Nat} {g : Rng} (G : Good rows n) : f_check_tables [dTab rows] g = .ok (.dat .non) g := by
  have hm1 := G.m1
  have hm4 := G.m4
  have hn1 := G.n1
  have hn27 := G.n27
  obtain ⟨r0, h0, hr0, hl0⟩ := G.first
  refine run_is (by simp) ?_
  unfold c_check_tables
  trivial
  refine ⟨fun _ => ⟨fun _ => ?_, fun h => absurd (by omega) h⟩, fun h => absurd (by omega) h⟩
  refine ix_useI rfl h0 ?_
  trivial
  refine ix_useI rfl h0 ?_
  trivial
  rw [enumD_map0, hl0]
  refine wp_go (fun done e g' => g' = g ∧ ∃ v w : Option D, e = [some (.dat (dTab rows)), some (.dat (.int n)), v.map .dat, w.map .dat]) _ ⟨rfl, none, none, rfl⟩ ?_ ?_
  · rintro done x rest e g' hx ⟨rfl, v, w, rfl⟩
    have hx1 : x.1 ∈ rows := (List.mem_zipIdx (x := x.1) (i := x.2) (by
      have : x ∈ rows.zipIdx 0 := by rw [hx]; simp
      exact this)).2.2 ▸ List.getElem_mem _
    trivial
    refine ⟨fun _ => ⟨fun _ => ?_, fun h => absurd (by omega) h⟩, fun h => absurd (by omega) h⟩
    refine wf_of (f_is_table_ok (G.len _ hx1) hn1 hn27 (G.lo _ hx1) (G.hi _ hx1) (G.pos _ hx1)) ?_
    trivial
    exact ⟨some (.int x.2), some (dTi x.1), rfl⟩
  · rintro e g' ⟨rfl, v, w, rfl⟩
    trivial
theorem f_init_ok {rows : List (List Int)} {n : Nat} {g : Rng} (G : Good rows n) : f_init [dTab rows] g = .ok (.dat (dTab rows)) g := by
  obtain ⟨r0, h0, hr0, hl0⟩ := G.first
  have hn27 := G.n27
  refine runI_is ?_
  unfold c_init c_init1 c_init2
  trivial
  refine wf_of (f_check_tables_ok G) ?_
  trivial
  refine ix_useI rfl h0 ?_
  trivial
  rw [hl0]
  refine ⟨by omega, ?_⟩
  refine wp_go (fun done e g' => g' = g ∧ ∃ v : Option D, e = [some (.dat (.fn "self")), some (.dat (dTab rows)), v.map .dat, none]) _ ⟨rfl, none, rfl⟩ ?_ ?_
  · rintro done j rest e g' hx ⟨rfl, v, rfl⟩
    have hj : j < n := by
      have : j ∈ List.range n := by rw [hx]; simp
      simpa using this
    trivial
    refine wp_clAll (fun r => .int (r.getD j 0)) rows (by show rows.length ≤ 100000; have := G.m4; omega) (fun r hr => ?_) ?_
    · trivial
      refine ix_use (getD_at (by rw [G.len r hr]; exact hj)) ?_
      trivial
    · trivial
      have hne : (rows.map fun r => r.getD j 0) ≠ [] := by
        intro z
        have := G.m1
        rw [List.map_eq_nil_iff] at z
        rw [z] at this
        simp at this
      refine opMax_of hne ?_
      have hp : 0 < maxL (rows.map fun r => r.getD j 0) := by
        rw [maxL_pos hne]
        obtain ⟨r, hr, h⟩ := G.col j hj
        exact ⟨_, List.mem_map_of_mem hr, h⟩
      trivial
      refine ⟨fun h => absurd h (by omega), fun _ => ⟨some (.int j), rfl⟩⟩
  · rintro e g' ⟨rfl, v, rfl⟩
    trivial
/-- an outcome's weights, table by table -/
def colOf (rows : List (List Int)) (j : Nat) : List Int := rows.map fun r => r.getD j 0
theorem Good.gcd {rows : List (List Int)} {n j : Nat} (G : Good rows n) (hj : j < n) : 0 < gcdL (colOf rows j) ∧ gcdL (colOf rows j) ≤ 1000000 := by
  obtain ⟨r, hr, h⟩ := G.col j hj
  have hm : r.getD j 0 ∈ colOf rows j := List.mem_map_of_mem hr
  have hp := gcdL_pos hm (by omega)
  refine ⟨hp, ?_⟩
  have h1 := Int.le_of_dvd h (gcdL_dvd hm)
  have h2 := G.hi r hr _ (getD_mem (by rw [G.len r hr]; exact hj))
  omega
theorem big_pow : (1000000 : Nat) < 2 ^ 8999 := Nat.lt_of_lt_of_le (by decide : 1000000 < 2 ^ 20) (Nat.pow_le_pow_right (by decide) (by decide))
theorem f_column_of_ok {rows : List (List Int)} {n j : Nat} {g : Rng} (G : Good rows n) (hj : j < n) : f_column_of [.mdl (dTab rows), .int (j : Nat)] g = .ok (.dat (dTi (lowL (colOf rows j)))) g := by
  refine run_is (by simp) ?_
  unfold c_column_of
  trivial
  refine wp_clAll (fun r => .int (r.getD j 0)) rows (by show rows.length ≤ 100000; have := G.m4; omega) (fun r hr => ?_) ?_
  · trivial
    refine ix_use (getD_at (by rw [G.len r hr]; exact hj)) ?_
    trivial
  · trivial
    rw [map_int]
    obtain ⟨h1, h2⟩ := G.gcd hj
    refine wf_of (f_lowest_okL (ns := colOf rows j) h1 (Nat.lt_of_le_of_lt h2 big_pow) (by show (rows.map _).length ≤ 100000; rw [List.length_map]; have := G.m4; omega)) ?_
    trivial
theorem f_check_outcome_ok {rows : List (List Int)} {n j : Nat} {g : Rng} (G : Good rows n) (hj : j < n) : f_check_outcome [.mdl (dTab rows), .int (j : Nat)] g = .ok (.dat .non) g := by
  obtain ⟨r0, h0, hr0, hl0⟩ := G.first
  refine run_is (by simp) ?_
  unfold c_check_outcome
  trivial
  refine ix_useI rfl h0 ?_
  trivial
  rw [hl0]
  refine wf_of f_is_integer_ok ?_
  rw [decide_eq_true (by omega)]
  trivial
theorem f_alike_ok {rows : List (List Int)} {n i j : Nat} {g : Rng} (G : Good rows n) (hi : i < n) (hj : j < n) : f_alike [.mdl (dTab rows), .int (i : Nat), .int (j : Nat)] g = .ok (.dat (.bl (decide (lowL (colOf rows i) = lowL (colOf rows j))))) g := by
  refine run_is (by simp) ?_
  unfold c_alike
  trivial
  refine wf_of (f_check_outcome_ok G hi) ?_
  trivial
  refine wf_of (f_check_outcome_ok G hj) ?_
  trivial
  refine wf_of (f_column_of_ok G hi) ?_
  trivial
  refine wf_of (f_column_of_ok G hj) ?_
  trivial
  rw [eqv_dTi]
  exact ⟨⟨fine_dTi, fine_dTi⟩, rfl⟩
/-! ### numbering -/
theorem snoc_ind {α : Type} {P : List α → Prop} (h0 : P []) (hs : ∀ xs x, P xs → P (xs ++ [x])) (xs : List α) : P xs := by
  have : ∀ ys : List α, P ys.reverse := by
    intro ys
    induction ys with
    | nil => exact h0
    | cons y ys ih => rw [List.reverse_cons]; exact hs _ _ ih
  rw [← List.reverse_reverse xs]
  exact this _
section
variable {α : Type} [DecidableEq α]
def numStep (s : List α × List Nat) (x : α) : List α × List Nat := if x ∈ s.1 then (s.1, s.2 ++ [s.1.idxOf x]) else (s.1 ++ [x], s.2 ++ [s.1.length])
def numS (xs : List α) : List α × List Nat := xs.foldl numStep ([], [])
def numL (xs : List α) : List Nat := (numS xs).2
theorem numS_snoc (xs : List α) (x : α) : numS (xs ++ [x]) = numStep (numS xs) x := by unfold numS; rw [List.foldl_append]; rfl
theorem numS_len : ∀ xs : List α, (numS xs).1.length ≤ xs.length ∧ (numS xs).2.length = xs.length := by
  refine snoc_ind (by simp [numS]) fun xs x ih => ?_
  rw [numS_snoc]
  unfold numStep
  split <;> simp <;> omega
theorem any_eqv {f : α → D} (h : ∀ x y, D.eqv (f x) (f y) = decide (x = y)) (xs : List α) (x : α) : ((xs.map f).any fun z => z.eqv (f x)) = decide (x ∈ xs) := by
  rw [List.any_map]
  have : ((fun z => D.eqv z (f x)) ∘ f) = fun y => decide (y = x) := by funext y; exact h y x
  rw [this]
  by_cases hx : x ∈ xs
  · rw [decide_eq_true hx, List.any_eq_true]
    exact ⟨x, hx, decide_eq_true rfl⟩
  · rw [decide_eq_false hx, List.any_eq_false]
    intro y hy
    simp only [decide_eq_true_eq]
    rintro rfl
    exact hx hy
theorem find_eqv {f : α → D} (h : ∀ x y, D.eqv (f x) (f y) = decide (x = y)) (xs : List α) (x : α) (hx : x ∈ xs) : ((xs.map f).findIdx? fun z => z.eqv (f x)) = some (xs.idxOf x) := by
  rw [List.findIdx?_map]
  have : ((fun z => D.eqv z (f x)) ∘ f) = fun y => y == x := by
    funext y
    show D.eqv (f y) (f x) = (y == x)
    rw [h]
    by_cases q : y = x <;> simp [q]
  rw [this]
  have hl := List.idxOf_lt_length_of_mem hx
  rw [List.findIdx?_eq_some_iff_findIdx_eq]
  exact ⟨hl, rfl⟩
end
theorem f_numbered_ok {α : Type} [DecidableEq α] {f : α → D} (h : ∀ x y, D.eqv (f x) (f y) = decide (x = y)) (hf : ∀ x, (f x).fine 60 = true) {xs : List α} {g : Rng} (hl : xs.length ≤ 1000) :
    f_numbered [.lst (xs.map f)] g = .ok (.dat (.tup ((numL xs).map fun k => .int (k : Nat)))) g := by
  refine run_is (by simp) ?_
  unfold c_numbered
  trivial
  refine wp_go (fun done e g' => g' = g ∧ ∃ v : Option D, e = [some (.dat (.lst (xs.map f))), v.map .dat, some (.own ((numS done).1.map f)), some (.own ((numS done).2.map fun k => .int (k : Nat)))]) xs ⟨rfl, none, rfl⟩ ?_ ?_
  · rintro done x rest e g' hx ⟨rfl, v, rfl⟩
    have hd : done.length < xs.length := by rw [hx]; simp
    obtain ⟨n1, n2⟩ := numS_len done
    have hln : (1000 : Nat) < 100000 := by decide
    trivial
    refine ⟨⟨hf x, fine_map hf _⟩, ?_⟩
    rw [any_eqv h]
    rw [numS_snoc]
    by_cases hm : x ∈ (numS done).1
    · rw [decide_eq_true hm]
      trivial
      refine ⟨⟨hf x, fine_map hf _⟩, ?_⟩
      rw [find_eqv h _ _ hm]
      trivial
      refine ⟨by omega, some (f x), ?_⟩
      unfold numStep
      rw [if_pos hm]
      simp
    · rw [decide_eq_false hm]
      trivial
      have hm2 : x ∈ (numS done).1 ++ [x] := by simp
      refine ⟨by omega, ?_⟩
      have e1 : (numS done).1.map f ++ [f x] = ((numS done).1 ++ [x]).map f := by simp
      rw [e1]
      refine ⟨⟨hf x, fine_map hf _⟩, ?_⟩
      rw [find_eqv h _ _ hm2]
      trivial
      refine ⟨by omega, some (f x), ?_⟩
      unfold numStep
      rw [if_neg hm]
      have : ((numS done).1 ++ [x]).idxOf x = (numS done).1.length := by
        rw [List.idxOf_append, if_neg hm]; simp
      rw [this]
      simp
  · rintro e g' ⟨rfl, v, rfl⟩
    trivial
    rfl
theorem f_coarsest_of_ok {rows : List (List Int)} {n : Nat} {g : Rng} (G : Good rows n) : f_coarsest_of [.mdl (dTab rows)] g = .ok (.dat (.tup ((numL ((List.range n).map fun j => lowL (colOf rows j))).map fun k => .int (k : Nat)))) g := by
  obtain ⟨r0, h0, hr0, hl0⟩ := G.first
  have hn27 := G.n27
  refine run_is (by simp) ?_
  unfold c_coarsest_of
  trivial
  refine ix_useI rfl h0 ?_
  trivial
  rw [hl0]
  refine ⟨by omega, ?_⟩
  refine wp_clAll (fun j => dTi (lowL (colOf rows j))) (List.range n) (by rw [List.length_range]; show n ≤ 100000; omega) (fun j hj => ?_) ?_
  · rw [List.mem_range] at hj
    trivial
    refine wf_of (f_column_of_ok G hj) ?_
    trivial
  · trivial
    have e1 : ((List.range n).map fun j => dTi (lowL (colOf rows j))) = ((List.range n).map fun j => lowL (colOf rows j)).map dTi := by simp
    rw [e1]
    refine wf_of (f_numbered_ok (f := dTi) (fun x y => eqv_dTi) (fun _ => fine_dTi) (by rw [List.length_map, List.length_range]; omega)) ?_
    trivial
theorem f_coarsest_ok {rows : List (List Int)} {n : Nat} {g : Rng} (G : Good rows n) : f_coarsest [.mdl (dTab rows)] g = .ok (.dat (.tup ((numL ((List.range n).map fun j => lowL (colOf rows j))).map fun k => .int (k : Nat)))) g := by
  refine run_is (by simp) ?_
  unfold c_coarsest
  trivial
  refine wf_of (f_coarsest_of_ok G) ?_
  trivial
end PV
set_option Elab.async false
set_option linter.all false
set_option maxRecDepth 100000
set_option maxHeartbeats 4000000
/-! PL3: draws of the laws: one of some things, sizes, tables. -/
namespace PV
open PySem L2
local macro_rules | `(tactic| trivial) => `(tactic| simp only [vK_ap, wo_some, q_varP, q_varF, q_varR, onV_0, onV_s, q_frz, fzK_dat, fzK_own, q_all_nil, q_all, alK1_ap, alK2_ap, q_bin, biK1_ap, biK2_ap, bK_ap, q_cmp, cmK1_ap, cmK2_ap, q_chain, chK1_ap, chK2_ap, chK3_dec, q_not, noK_ap, q_if, q_sIf, q_and, q_or, q_ret, q_b, mbK_ap, q_t, mtK_ap, q_neg, neK_ap, q_c, q_tup, tuK_ap, q_lst, liK_ap, q_idx, ixK1_ap, ixK2_ap, dK_ap, q_idxT, q_idxL, q_idxO, coK_ap, q_ixMap, q_ix0, q_ix1, q_ix2, q_ix3, owK_ap, q_rowsI, q_rowP, rpK1_ap, rpK2_ap, rpK3_ap, q_part0, q_part1, ptK_ap, q_slice, slK1_ap, slK2_ap, slK3_ap, lK_ap, q_seq, sqK_lst, sqK_tup, sqK_own, q_rng1, q_rng2, rgK0_ap, rgK_ap, q_enum, q_enumK, enK_lst, enK_tup, enK_own, q_zip2, zpK1_ap, zpK2_lst, zpK2_tup, zpK2_own, zpK3_lst, zpK3_tup, zpK3_own, q_zip3, z3K1_ap, z3K2_ap, z3K3_tup, z3K3_lst, z3K3_own, z3K4_tup, z3K4_lst, z3K4_own, z3K5_tup, z3K5_lst, z3K5_own, reK_ap, q_call, caK_ap, q_bn, bnK_ap, sqV_lst, sqV_tup, sqV_own, liV_lst, liV_own, q_sum, suK_ap, q_max, mxK_ap, q_min, mnK_ap, q_allB, aaK_ap, q_anyB, anK_ap, q_isa, isK_int, isK_bl, isK_non, isK_str, isK_tup, isK_lst, isK_mdl, isK_own, q_index, idK1_own, idK2_ap, q_tabs, taK_ap, q_prop, prK_ap, q_comp, cpK_ap, cpK2_ap, q_rowsC, rcK_ap, rcK2_ap, still_nil, still_cons, okAt_0, okAt_n, okAt_m, okAt_s, wipe_nil, wipe_cons, unwipe_nil, unwipe_cons, join_0, join_s, set_0, set_s, q_nil, q_seqS, q_set, seK_ap, q_par2, p2K1_ap, p2K2_ap, q_par3, p3K1_ap, p3K2_ap, p3K3_ap, q_unp, unK_ap, setAll_nil, setAll_cons, q_drop, drK_ap, q_rets, rtK_ap, ownK_0, ownK_s, q_app, apK1_ap, apK2_ap, apK3_ap, q_put, puK1_ap, puK2_ap, puK3_ap, puK4_ap, puK5_ap, q_augI, aiK1_ap, aiK2_ap, aiK3_ap, aiK4_ap, aiK5_ap, aiK6_ap, aiK7_ap, q_aug, auK1_ap, auK2_ap, q_augL, alK3_ap, alK4_own, alK5_ap, q_for, foK_ap, q_appR, arK1_ap, arK2_ap, arK3_ap, arK4_ap, arK5_ap, q_putR, prK1_ap, prK2_ap, prK3_ap, prK4_ap, prK5_ap, prK6_ap, prK7_ap, q_rowAt, onRow_0, onRow_s, ifK_true, ifK_false, ifK_dec, ifK_ndec, frzK_dat, frzK_own, frzK_owns, retK_dat, retK_own, retK_owns, seqK_none, seqK_some, wo_if, wo_add, wo_sub, wo_mul, wo_fdiv, wo_mod, wo_pow, wo_addT, wo_addOO, wo_addLO, wo_addOL, wo_addLL, wo_mulT, wo_mulO, wo_eqB, wo_neB, wo_eqD, wo_neD, wo_eqOO, wo_neOO, wo_eqDO, wo_neDO, wo_lt, wo_le, wo_gt, wo_ge, wo_inO, wo_ninO, opIn_own, opIn_lst, wo_is_non, wo_isnot_non, wo_is_int, wo_is_tup, wo_is_lst, wo_isnot_tup, wo_isnot_lst, wo_row_dat, wo_lenT, wo_lenL, wo_lenO, wo_lenOs, wo_max2, wo_min2, wo_abs, wo_tupO, wo_tupL, wo_tupT, wo_lstO, wo_lstL, wo_lstT, wo_intI, wo_maxC, wo_minC, wo_rangeN, wo_indexO, wo_sliceT, wo_sliceL, wo_sliceO, wo_bind_name, wo_bind_names, outK_none, outK_some, List.length_cons, List.length_nil, List.length_map, Nat.zero_add, Nat.reduceAdd, Nat.reduceLT, Nat.reduceLeDiff, line, true_and, and_true, Bool.and_self, Bool.true_and, Bool.and_true, Bool.not_true, Bool.not_false, if_true, if_false, fine_int, fine_bl, fine_non, eqv_ii, eqv_bb, mkEnv_0, mkEnv_n, mkEnv_c, isaB_nil, isaB_cons, D.isa, Bool.or_false, Bool.or_true, Bool.true_or, Bool.false_or, decide_eq_true_eq, decide_eq_false_iff_not, true_implies, false_implies, Bool.true_eq_false, Bool.false_eq_true, suK_map, mxK_map, mnK_map, aaK_map, anK_map, frzK_lz, okAt_some, okAt_none, okAt_mapd, onRow_some, onV_some, ownK_own, List.getElem?_cons_zero, List.getElem?_cons_succ, Option.join_some, ifK_nbeq, ifK_beq, eqv_lcn, eqv_lnn, eqv_lnc, eqv_tcn, eqv_tnn, List.map_nil, List.map_cons, wo_is_str, wo_is_bl, wo_is_mdl, wo_isnot_int, wo_isnot_mdl, q_make, mkK_ap, mkK2_ap, outI_ap, Bool.true_beq, Bool.false_beq, Bool.not_not, Bool.false_and, Bool.and_false, eqv_nn, eqv_nb, eqv_ni, eqv_ns, eqv_nt, eqv_nl, eqv_bn, eqv_bi, eqv_bs, eqv_bt, eqv_bl, eqv_in, eqv_ib, eqv_is, eqv_it, eqv_il, eqv_sn, eqv_sb, eqv_si, eqv_ss, eqv_st, eqv_sl, eqv_tn, eqv_tb, eqv_ti, eqv_ts, eqv_tl, eqv_ln, eqv_lb, eqv_li, eqv_ls, eqv_lt, q_par4, p4K1_ap, p4K2_ap, p4K3_ap, p4K4_ap, sqK_lz])
noncomputable def c_l_pick : S := sRet (mIdx (mVarP 1) (mCall 2 nextF [mFrz (mVarF 0), mFrz (mBn .len [mVarP 1])]))
noncomputable def f_l_pick : SemF := runFn 2 c_l_pick

noncomputable def c_l_size : S := sRet (mTup [mFrz (mBin .add (mC (.int 1)) (mCall 2 nextF [mFrz (mVarF 0), mFrz (mC (.int 4))])), mFrz (mBin .add (mC (.int 1)) (mCall 2 nextF [mFrz (mVarF 0), mFrz (mCall 2 f_l_pick [mFrz (mVarF 0), mFrz (mLst [mFrz (mC (.int 4)), mFrz (mC (.int 9)), mFrz (mC (.int 27))])])])), mFrz (mCall 2 f_l_pick [mFrz (mVarF 0), mFrz (mLst [mFrz (mC (.int 3)), mFrz (mC (.int 10)), mFrz (mC (.int 1000))])])])
noncomputable def f_l_size : SemF := runFn 1 c_l_size

noncomputable def c_l_tables : S := sSeq (sSet 4 (mLst [])) (sSeq (sFor (.name 5) (.rng1 (mBin .add (mC (.int 1)) (mCall 2 nextF [mFrz (mVarF 0), mFrz (mC (.int 4))]))) (sSeq (sSet 9 (mComp [8] (.name 8) (.rng1 (mVarP 1)) (mRet true) (mFrz (mBin .mul (mCall 2 nextF [mFrz (mVarF 0), mFrz (mVarF 3)]) (mCall 2 f_l_pick [mFrz (mVarF 0), mFrz (mLst [mFrz (mC (.int 0)), mFrz (mC (.int 1)), mFrz (mC (.int 1)), mFrz (mC (.int 1))])]))))) (sSeq (sPut 9 (mCall 2 nextF [mFrz (mVarF 0), mFrz (mVarF 1)]) (mFrz (mBin .add (mC (.int 1)) (mCall 2 nextF [mFrz (mVarF 0), mFrz (mVarF 3)])))) (sApp 4 (mFrz (mVarF 9)))))) (sSeq (sSet 6 (mRowsC [8] (.name 8) (.rng1 (mVarP 1)))) (sSeq (sFor (.name 7) (.rng1 (mVarP 2)) (sSeq (sPar2 9 10 (mCall 2 f_l_pick [mFrz (mVarF 0), mFrz (mVarF 4)]) (mBin .add (mC (.int 1)) (mCall 2 nextF [mFrz (mVarF 0), mFrz (mC (.int 4))]))) (sFor (.name 8) (.rng1 (mVarP 1)) (sAppR 6 (mVarP 8) (mFrz (mBin .mul (mIdx (mVarP 9) (mVarP 8)) (mVarP 10))))))) (sSeq (sFor (.name 8) (.rng1 (mVarP 1)) (sIf (mCmp .eq (mBn .sum [mRowP 6 (mVarP 8)]) (mC (.int 0))) (sPutR 6 (mVarP 8) (mCall 2 nextF [mFrz (mVarF 0), mFrz (mVarF 2)]) (mFrz (mC (.int 1)))) sNil)) (sRet (mBn .tuple [mComp [11] (.name 11) (.seq (mVarF 6)) (mRet true) (mFrz (mBn .tuple [mVarP 11]))]))))))
noncomputable def f_l_tables : SemF := runFn 12 c_l_tables

theorem wf_pickL {ds : List D} {g : Rng} {k : SV → Rng → Prop} (h : ds ≠ []) (hl : ds.length ≤ 100000) (hg : Gd g) (hk : ∀ d ∈ ds, ∀ g', Gd g' → k (.dat d) g') : WF (f_l_pick [.hnd, .lst ds] g) k := by
  have hp : 0 < ds.length := List.length_pos_iff.mpr h
  refine run_wf (by simp) ?_
  unfold c_l_pick
  trivial
  refine wf_next (by omega) (by omega) hg (fun n g' hn hg' => ?_)
  trivial
  have hn : n < ds.length := by omega
  refine ix_use (List.getElem?_eq_getElem hn) ?_
  trivial
  exact hk _ (List.getElem_mem hn) g' hg'
theorem wf_size {g : Rng} {k : SV → Rng → Prop} (hg : Gd g) (hk : ∀ (m n c : Nat) g', 1 ≤ m → m ≤ 4 → 1 ≤ n → n ≤ 27 → 1 ≤ c → c ≤ 1000 → Gd g' → k (.dat (.tup [.int m, .int n, .int c])) g') : WF (f_l_size [.hnd] g) k := by
  refine run_wf (by simp) ?_
  unfold c_l_size
  trivial
  refine wf_next (by omega) (by omega) hg (fun m g' hm hg' => ?_)
  trivial
  refine wf_pickL (by simp) (by simp) hg' (fun d hd g' hg' => ?_)
  have hd2 : ∃ z : Int, d = .int z ∧ 4 ≤ z ∧ z ≤ 27 := by
    simp only [List.mem_cons, List.not_mem_nil, or_false] at hd
    rcases hd with rfl | rfl | rfl
    · exact ⟨_, rfl, by omega, by omega⟩
    · exact ⟨_, rfl, by omega, by omega⟩
    · exact ⟨_, rfl, by omega, by omega⟩
  obtain ⟨z, rfl, z1, z2⟩ := hd2
  trivial
  refine wf_next (by omega) (by omega) hg' (fun n g' hn hg' => ?_)
  trivial
  refine wf_pickL (by simp) (by simp) hg' (fun d hd g' hg' => ?_)
  have hd2 : ∃ z : Nat, d = .int z ∧ 1 ≤ z ∧ z ≤ 1000 := by
    simp only [List.mem_cons, List.not_mem_nil, or_false] at hd
    rcases hd with rfl | rfl | rfl
    · exact ⟨3, rfl, by omega, by omega⟩
    · exact ⟨10, rfl, by omega, by omega⟩
    · exact ⟨1000, rfl, by omega, by omega⟩
  obtain ⟨c, rfl, c1, c2⟩ := hd2
  trivial
  have := hk (1 + m) (1 + n) c g' (by omega) (by omega) (by omega) (by omega) c1 c2 hg'
  rw [Int.natCast_add, Int.natCast_add] at this
  exact this
/-- a drawn column: the weights of an outcome -/
structure Col (m : Nat) (c : List Int) : Prop where
  len : c.length = m
  lo : ∀ x ∈ c, 0 ≤ x
  hi : ∀ x ∈ c, x ≤ 1000
  pos : ∃ j, j < m ∧ 0 < c.getD j 0
/-- rows by columns -/
def rowsOf (m : Nat) (cs : List (List Int)) : List (List Int) := (List.range m).map fun t => cs.map fun c => c.getD t 0
/-- .. on the way to one more -/
def rowsW (m : Nat) (cs : List (List Int)) (c : List Int) (t : Nat) : List (List Int) := (List.range m).map fun k => (if k < t then cs ++ [c] else cs).map fun c => c.getD k 0
theorem rowsW_0 {m : Nat} {cs : List (List Int)} {c : List Int} : rowsW m cs c 0 = rowsOf m cs := by
  unfold rowsW rowsOf
  simp
theorem rowsW_m {m : Nat} {cs : List (List Int)} {c : List Int} : rowsW m cs c m = rowsOf m (cs ++ [c]) := by
  unfold rowsW rowsOf
  apply List.map_congr_left
  intro k hk
  rw [if_pos (List.mem_range.mp hk)]
theorem set_range {α : Type} {m t : Nat} {f h : Nat → α} (ht : t < m) (hk : ∀ k, k ≠ t → f k = h k) : ((List.range m).map f).set t (h t) = (List.range m).map h := by
  apply List.ext_getElem?
  intro i
  by_cases hi : t = i
  · subst hi
    rw [List.getElem?_set_self (by simpa using ht), List.getElem?_map, List.getElem?_range ht]; rfl
  · rw [List.getElem?_set_ne hi, List.getElem?_map, List.getElem?_map]
    cases e : (List.range m)[i]? with
    | none => rfl
    | some k =>
      have := List.getElem?_eq_some_iff.mp e
      obtain ⟨h1, h2⟩ := this
      rw [List.getElem_range] at h2
      subst h2
      rw [Option.map_some, Option.map_some, hk i (fun z => hi z.symm)]
theorem rowsW_at {m t : Nat} {cs : List (List Int)} {c : List Int} (ht : t < m) : (rowsW m cs c t)[t]? = some (cs.map fun c => c.getD t 0) := by
  unfold rowsW
  rw [List.getElem?_map, List.getElem?_range ht]
  simp
theorem rowsW_set {m t : Nat} {cs : List (List Int)} {c : List Int} (ht : t < m) : (rowsW m cs c t).set t ((cs.map fun c => c.getD t 0) ++ [c.getD t 0]) = rowsW m cs c (t + 1) := by
  unfold rowsW
  have := set_range (m := m) (t := t) (f := fun k => (if k < t then cs ++ [c] else cs).map fun c => c.getD k 0) (h := fun k => (if k < t + 1 then cs ++ [c] else cs).map fun c => c.getD k 0) ht (fun k hk => by
    by_cases h1 : k < t
    · rw [if_pos h1, if_pos (by omega)]
    · rw [if_neg h1, if_neg (by omega)])
  rw [← this]
  congr 1
  rw [if_pos (by omega)]
  simp
abbrev dR (rows : List (List Int)) : List (List D) := rows.map fun r => r.map D.int
theorem dR_at {rows : List (List Int)} {t : Nat} {r : List Int} (h : rows[t]? = some r) : (dR rows)[t]? = some (r.map D.int) := by
  rw [List.getElem?_map, h]; rfl
theorem sum_pos_of {r : List Int} (h : ∀ x ∈ r, 0 ≤ x) : (r.sum ≠ 0 → ∃ x ∈ r, 0 < x) ∧ 0 ≤ r.sum := by
  induction r with
  | nil => simp
  | cons x r ih =>
    obtain ⟨h1, h2⟩ := ih (fun y hy => h y (List.mem_cons_of_mem _ hy))
    have h0 := h x (by simp)
    rw [List.sum_cons]
    refine ⟨fun hs => ?_, by omega⟩
    by_cases hx : 0 < x
    · exact ⟨x, by simp, hx⟩
    · obtain ⟨y, hy, h3⟩ := h1 (by omega)
      exact ⟨y, List.mem_cons_of_mem _ hy, h3⟩
theorem sum_zero_of {r : List Int} (h : ∀ x ∈ r, 0 ≤ x) (hs : r.sum = 0) : ∀ x ∈ r, x = 0 := by
  induction r with
  | nil => simp
  | cons x r ih =>
    have h2 := (sum_pos_of (fun y hy => h y (List.mem_cons_of_mem _ hy) : ∀ y ∈ r, 0 ≤ y)).2
    have h0 := h x (by simp)
    rw [List.sum_cons] at hs
    intro y hy
    rcases List.mem_cons.mp hy with rfl | hy
    · omega
    · exact ih (fun y hy => h y (List.mem_cons_of_mem _ hy)) (by omega) y hy
theorem wf_tables {m n cap : Nat} {g : Rng} {k : SV → Rng → Prop} (m1 : 1 ≤ m) (m4 : m ≤ 4) (n1 : 1 ≤ n) (n27 : n ≤ 27) (c1 : 1 ≤ cap) (c2 : cap ≤ 1000) (hg : Gd g)
    (hk : ∀ rows g', Good rows n → rows.length = m → (∀ r ∈ rows, ∀ x ∈ r, x ≤ 4000) → Gd g' → k (.dat (dTab rows)) g') : WF (f_l_tables [.hnd, .int (m : Nat), .int (n : Nat), .int (cap : Nat)] g) k := by
  refine run_wf (by simp) ?_
  unfold c_l_tables
  trivial
  refine wf_next (by omega) (by omega) hg (fun nc g1 hnc hg1 => ?_)
  trivial
  rw [show (1 : Int) + (nc : Int) = ((1 + nc : Nat) : Int) by omega]
  trivial
  refine ⟨by omega, ?_⟩
  refine wp_go (fun done e g' => Gd g' ∧ ∃ (cs : List (List Int)) (v u : Option D), cs.length = done.length ∧ (∀ c ∈ cs, Col m c) ∧ e = [some (.dat .hnd), some (.dat (.int m)), some (.dat (.int n)), some (.dat (.int cap)), some (.own (cs.map dLi)), v.map .dat, none, none, none, u.map .dat, none, none]) _ ⟨hg1, [], none, none, rfl, by simp, rfl⟩ ?_ ?_
  · rintro done j rest e g' hx ⟨hg', cs, v, u, hl, hc, rfl⟩
    trivial
    refine ⟨by omega, wp_clE (fun d acc g' => Gd g' ∧ ∃ ns : List Int, acc = ns.map D.int ∧ ns.length = d.length ∧ ∀ x ∈ ns, 0 ≤ x ∧ x ≤ 1000) _ ⟨hg', [], rfl, rfl, by simp⟩ ?_ ?_⟩
    · rintro d i rest2 acc g' hx2 ⟨hg', ns, rfl, hl2, hb⟩
      obtain ⟨i1, i2⟩ := range_split hx2
      trivial
      refine wf_next (by omega) (by omega) hg' (fun a g' ha hg' => ?_)
      trivial
      refine wf_pickL (by simp) (by simp) hg' (fun b hb2 g' hg' => ?_)
      have hb3 : ∃ z : Nat, b = .int z ∧ z ≤ 1 := by
        simp only [List.mem_cons, List.not_mem_nil, or_false] at hb2
        rcases hb2 with rfl | rfl | rfl | rfl
        · exact ⟨0, rfl, by omega⟩
        · exact ⟨1, rfl, by omega⟩
        · exact ⟨1, rfl, by omega⟩
        · exact ⟨1, rfl, by omega⟩
      obtain ⟨z, rfl, hz⟩ := hb3
      trivial
      refine ⟨.inl (by omega), by omega, hg', ns ++ [(a : Int) * z], by simp, by simp [hl2], fun x hx => ?_⟩
      rcases List.mem_append.mp hx with hx | hx
      · exact hb x hx
      · rw [List.mem_singleton] at hx
        subst hx
        have : z = 0 ∨ z = 1 := by omega
        rcases this with rfl | rfl <;> constructor <;> simp <;> omega
    · rintro acc g' ⟨hg', ns, rfl, hl2, hb⟩
      rw [List.length_range] at hl2
      trivial
      refine wf_next (by omega) (by omega) hg' (fun a g' ha hg' => ?_)
      trivial
      refine wf_next (by omega) (by omega) hg' (fun p g' hp hg' => ?_)
      trivial
      refine ixAt_use rfl (by omega) ?_
      trivial
      have hd : done.length < 1 + nc := (range_split hx).1 ▸ (range_split hx).2
      refine ⟨by omega, hg', cs ++ [ns.set p (1 + a)], some (.int j), some (dLi (ns.set p (1 + a))), by simp [hl], fun c hc2 => ?_, by simp [List.map_set]⟩
      rcases List.mem_append.mp hc2 with hc2 | hc2
      · exact hc c hc2
      · rw [List.mem_singleton] at hc2
        subst hc2
        refine ⟨by simp [hl2], fun x hx => ?_, fun x hx => ?_, p, by omega, ?_⟩
        · rcases List.mem_or_eq_of_mem_set hx with hx | rfl
          · exact (hb x hx).1
          · omega
        · rcases List.mem_or_eq_of_mem_set hx with hx | rfl
          · exact (hb x hx).2
          · omega
        · rw [List.getD_eq_getElem?_getD, List.getElem?_set_self (by omega)]
          show 0 < (1 + (a : Int))
          omega
  · rintro e g' ⟨hg', cs, v, u, hl, hc, rfl⟩
    rw [List.length_range] at hl
    trivial
    refine ⟨by omega, wp_clAll (fun _ => .lst []) _ (by rw [List.length_range]; show m ≤ 100000; omega) (fun x hx => ?_) ?_⟩
    · trivial
    trivial
    refine ⟨by omega, ?_⟩
    have e0 : (((List.range m).map fun _ : Nat => D.lst []).map fun _ => ([] : List D)) = dR (rowsOf m []) := by
      unfold rowsOf
      simp
    rw [e0]
    refine wp_go (fun done e g' => Gd g' ∧ ∃ (S : List (List Int)) (b : Bool) (v5 v7 v8 v9 v10 : Option D), S.length = done.length ∧ (∀ c ∈ S, c.length = m ∧ (∀ x ∈ c, 0 ≤ x ∧ x ≤ 4000) ∧ ∃ j, j < m ∧ 0 < c.getD j 0) ∧ e = [some (.dat .hnd), some (.dat (.int m)), some (.dat (.int n)), some (.dat (.int cap)), some (lz b (cs.map dLi)), v5.map .dat, some (.owns (dR (rowsOf m S))), v7.map .dat, v8.map .dat, v9.map .dat, v10.map .dat, none]) _ ⟨hg', [], true, v, none, none, u, none, rfl, by simp, rfl⟩ ?_ ?_
    · rintro done j rest e g' hx ⟨hg', S, b, v5, v7, v8, v9, v10, hS, hc2, rfl⟩
      have hd := range_split hx
      trivial
      refine wf_pickL (by intro z; rw [List.map_eq_nil_iff] at z; rw [z] at hl; simp at hl; omega) (by rw [List.length_map]; omega) hg' (fun d hd2 g' hg' => ?_)
      obtain ⟨c, hcm, rfl⟩ := List.mem_map.mp hd2
      have C := hc c hcm
      trivial
      refine wf_next (by omega) (by omega) hg' (fun a g' ha hg' => ?_)
      trivial
      refine ⟨by omega, ?_⟩
      rw [← rowsW_0 (c := c.map fun x => x * (1 + (a : Int)))]
      refine wp_go (fun done2 e g' => Gd g' ∧ ∃ (v8 : Option D), e = [some (.dat .hnd), some (.dat (.int m)), some (.dat (.int n)), some (.dat (.int cap)), some (.dat (.lst (cs.map dLi))), v5.map .dat, some (.owns (dR (rowsW m S (c.map fun x => x * (1 + (a : Int))) done2.length))), some (.dat (.int j)), v8.map .dat, some (.dat (dLi c)), some (.dat (.int (1 + (a : Int)))), none]) _ ⟨hg', v8, rfl⟩ ?_ ?_
      · rintro done2 t rest2 e g' hx2 ⟨hg', v8, rfl⟩
        obtain ⟨rfl, ht⟩ := range_split hx2
        trivial
        refine row_use rfl (dR_at (rowsW_at ht)) ?_
        trivial
        refine ix_use (getD_at (by rw [C.len]; exact ht)) ?_
        trivial
        refine ⟨.inr (.inl (by omega)), row_use rfl (dR_at (rowsW_at ht)) ?_⟩
        trivial
        refine ⟨by omega, hg', some (.int done2.length), ?_⟩
        rw [List.length_append, show [done2.length].length = 1 from rfl, ← rowsW_set ht]
        simp [List.map_set, List.getD_eq_getElem?_getD, List.getElem?_eq_getElem (show done2.length < c.length by rw [C.len]; exact ht)]
      · rintro e g' ⟨hg', v8, rfl⟩
        rw [List.length_range, rowsW_m]
        trivial
        refine ⟨hg', S ++ [c.map fun x => x * (1 + (a : Int))], false, v5, some (.int j), v8, some (dLi c), some (.int (1 + (a : Int))), by simp [hS], fun c' hc' => ?_, rfl⟩
        rcases List.mem_append.mp hc' with hc' | hc'
        · exact hc2 c' hc'
        · rw [List.mem_singleton] at hc'
          subst hc'
          refine ⟨by rw [List.length_map, C.len], fun x hx => ?_, ?_⟩
          · obtain ⟨y, hy, rfl⟩ := List.mem_map.mp hx
            have y0 := C.lo y hy
            have y1 := C.hi y hy
            refine ⟨Int.mul_nonneg y0 (by omega), ?_⟩
            have : y * (1 + (a : Int)) ≤ 1000 * 4 := Int.mul_le_mul y1 (by omega) (by omega) (by omega)
            omega
          · obtain ⟨p, hp, h⟩ := C.pos
            refine ⟨p, hp, ?_⟩
            have hpl : p < c.length := by rw [C.len]; exact hp
            rw [List.getD_eq_getElem?_getD, List.getElem?_map, List.getElem?_eq_getElem hpl]
            rw [List.getD_eq_getElem?_getD, List.getElem?_eq_getElem hpl] at h
            exact Int.mul_pos h (by omega)
    · rintro e g' ⟨hg', S, b, v5, v7, v8, v9, v10, hS, hc2, rfl⟩
      rw [List.length_range] at hS
      trivial
      refine ⟨by omega, ?_⟩
      refine wp_go (fun done e g' => Gd g' ∧ ∃ (R : List (List Int)) (v8 : Option D), R.length = m ∧ (∀ r ∈ R, r.length = n ∧ ∀ x ∈ r, 0 ≤ x ∧ x ≤ 4000) ∧ (∀ j < n, ∃ r ∈ R, 0 < r.getD j 0) ∧ (∀ k, k < done.length → ∃ r, R[k]? = some r ∧ ∃ x ∈ r, 0 < x) ∧
        e = [some (.dat .hnd), some (.dat (.int m)), some (.dat (.int n)), some (.dat (.int cap)), some (lz b (cs.map dLi)), v5.map .dat, some (.owns (dR R)), v7.map .dat, v8.map .dat, v9.map .dat, v10.map .dat, none]) _ ⟨hg', rowsOf m S, v8, by simp [rowsOf], ?_, ?_, by simp, rfl⟩ ?_ ?_
      · intro r hr
        obtain ⟨t, ht, rfl⟩ := List.mem_map.mp hr
        rw [List.mem_range] at ht
        refine ⟨by rw [List.length_map, hS], fun x hx => ?_⟩
        obtain ⟨c, hcS, rfl⟩ := List.mem_map.mp hx
        obtain ⟨l1, l2, _⟩ := hc2 c hcS
        exact l2 _ (getD_mem (by rw [l1]; exact ht))
      · intro j hj
        have hjS : j < S.length := by omega
        obtain ⟨l1, l2, p, hp, hpos⟩ := hc2 S[j] (List.getElem_mem hjS)
        refine ⟨S.map fun c => c.getD p 0, List.mem_map.mpr ⟨p, List.mem_range.mpr hp, rfl⟩, ?_⟩
        rw [List.getD_eq_getElem?_getD, List.getElem?_map, List.getElem?_eq_getElem hjS]
        exact hpos
      · rintro done t rest e g' hx ⟨hg', R, v8, hR, hb, hcol, hpos, rfl⟩
        obtain ⟨rfl, ht⟩ := range_split hx
        have htR : done.length < R.length := by omega
        have hr := List.getElem?_eq_getElem htR
        generalize hre : R[done.length] = r at hr
        have hrm : r ∈ R := List.mem_of_getElem? hr
        have lo : ∀ x ∈ r, 0 ≤ x := fun x hx => ((hb r hrm).2 x hx).1
        trivial
        refine ix_use hr ?_
        trivial
        refine ⟨fun hs => ?_, fun hs => ?_⟩
        · have hz := sum_zero_of lo hs
          refine row_use rfl (dR_at hr) ?_
          trivial
          refine wf_next (by omega) (by omega) hg' (fun p g' hp hg' => ?_)
          trivial
          refine row_use rfl (dR_at hr) ?_
          trivial
          have hpr : p < r.length := by rw [(hb r hrm).1]; omega
          refine ixAt_use rfl hpr ?_
          trivial
          refine ⟨hg', R.set done.length (r.set p 1), some (.int done.length), by rw [List.length_set, hR], fun r' hr' => ?_, fun j hj => ?_, fun k hk => ?_, by simp [List.map_set]⟩
          · rcases List.mem_or_eq_of_mem_set hr' with hr' | rfl
            · exact hb r' hr'
            · refine ⟨by rw [List.length_set]; exact (hb r hrm).1, fun x hx => ?_⟩
              rcases List.mem_or_eq_of_mem_set hx with hx | rfl
              · exact (hb r hrm).2 x hx
              · omega
          · obtain ⟨r', hr', h⟩ := hcol j hj
            by_cases hrr : r' = r
            · subst hrr
              have := hz _ (getD_mem (r := r') (j := j) (by rw [(hb r' hrm).1]; exact hj))
              omega
            · refine ⟨r', ?_, h⟩
              obtain ⟨i, hi⟩ := List.getElem?_of_mem hr'
              have hne : done.length ≠ i := by
                rintro rfl
                rw [hr] at hi
                exact hrr (Option.some.inj hi).symm
              exact List.mem_of_getElem? (i := i) (by rw [List.getElem?_set_ne hne]; exact hi)
          · rw [List.length_append, show [done.length].length = 1 from rfl] at hk
            by_cases hkd : k = done.length
            · subst hkd
              refine ⟨_, List.getElem?_set_self htR, 1, ?_, by omega⟩
              exact List.mem_of_getElem? (List.getElem?_set_self hpr)
            · obtain ⟨r', hr', h⟩ := hpos k (by omega)
              exact ⟨r', by rw [List.getElem?_set_ne (fun z => hkd z.symm)]; exact hr', h⟩
        · refine ⟨hg', R, some (.int done.length), hR, hb, hcol, fun k hk => ?_, rfl⟩
          rw [List.length_append, show [done.length].length = 1 from rfl] at hk
          by_cases hkd : k = done.length
          · subst hkd
            exact ⟨r, hr, (sum_pos_of lo).1 hs⟩
          · exact hpos k (by omega)
      · rintro e g' ⟨hg', R, v8, hR, hb, hcol, hpos, rfl⟩
        rw [List.length_range] at hpos
        trivial
        have e1 : (dR R).map D.lst = R.map dLi := by simp
        rw [e1]
        refine wp_clAll (fun r => dTi r) R (by show R.length ≤ 100000; omega) (fun r hr => ?_) ?_
        · trivial
        · trivial
          refine hk R g' ⟨by omega, by omega, n1, n27, fun r hr => (hb r hr).1, fun r hr x hx => ((hb r hr).2 x hx).1, fun r hr x hx => by have := ((hb r hr).2 x hx).2; omega, fun r hr => ?_, hcol⟩ hR (fun r hr x hx => ((hb r hr).2 x hx).2) hg'
          obtain ⟨i, hi⟩ := List.getElem?_of_mem hr
          obtain ⟨r', hr', h⟩ := hpos i (by have := (List.getElem?_eq_some_iff.mp hi).1; omega)
          rw [hi] at hr'
          cases hr'
          exact h
end PV
set_option Elab.async false
set_option linter.all false
set_option maxRecDepth 100000
set_option maxHeartbeats 4000000
/-! PW5: running combinators that may end with an error. -/
namespace PV
open PySem L2
def Wpx {α : Type} (r : Res α) (Q : α → Env → Rng → Prop) (X : Exn → Env → Rng → Prop) : Prop := match r with
  | .ok a e g => Q a e g
  | .exc x e g => X x e g
  | .stuck => False
section
variable {α : Type} {Q : α → Env → Rng → Prop} {QS : Option SV → Env → Rng → Prop} {QB : Bool → Env → Rng → Prop} {X : Exn → Env → Rng → Prop} {e : Env} {g : Rng} {a b : S} {c : M Bool} {i j n : Nat} {f : SemF} {ms : List (M D)}
theorem x_of {r : Res α} (h : Wp r Q) : Wpx r Q X := by
  cases r with
  | ok a e g => exact h
  | exc x e g => exact h.elim
  | stuck => exact h
/-- what follows -/
def xsK (b : S) (Q : Option SV → Env → Rng → Prop) (X : Exn → Env → Rng → Prop) (r : Option SV) (e : Env) (g : Rng) : Prop := match r with
  | none => Wpx (b e g) Q X
  | some v => Q (some v) e g
theorem xsK_none : xsK b QS X none e g = Wpx (b e g) QS X := rfl
theorem xsK_some {v : SV} : xsK b QS X (some v) e g = QS (some v) e g := rfl
theorem x_seq (h : Wpx (a e g) (xsK b QS X) X) : Wpx (sSeq a b e g) QS X := by
  unfold sSeq mBind
  cases q : a e g with
  | ok r e1 g1 =>
    rw [q] at h
    cases r with
    | none => exact h
    | some v => exact h
  | exc x e1 g1 => rw [q] at h; exact h
  | stuck => rw [q] at h; exact h
theorem x_seqW (h : Wp (a e g) (xsK b QS X)) : Wpx (sSeq a b e g) QS X := x_seq (x_of h)
def xiK (a b : S) (Q : Option SV → Env → Rng → Prop) (X : Exn → Env → Rng → Prop) (v : Bool) (e : Env) (g : Rng) : Prop := (v = true → Wpx (a e g) Q X) ∧ (v = false → Wpx (b e g) Q X)
theorem x_ifW (h : Wp (c e g) (xiK a b QS X)) : Wpx (sIf c a b e g) QS X := by
  unfold sIf mBind
  cases q : c e g with
  | ok v e1 g1 =>
    rw [q] at h
    obtain ⟨h1, h2⟩ := h
    cases v with
    | true => exact h1 rfl
    | false => exact h2 rfl
  | exc x e1 g1 => rw [q] at h; exact h.elim
  | stuck => rw [q] at h; exact h.elim
theorem xiK_true : xiK a b QS X true e g = Wpx (a e g) QS X := by simp [xiK]
theorem xiK_false : xiK a b QS X false e g = Wpx (b e g) QS X := by simp [xiK]
theorem xiK_dec {p : Prop} [Decidable p] : xiK a b QS X (decide p) e g = ((p → Wpx (a e g) QS X) ∧ (¬ p → Wpx (b e g) QS X)) := by simp [xiK]
theorem xiK_ndec {p : Prop} [Decidable p] : xiK a b QS X (!decide p) e g = ((p → Wpx (b e g) QS X) ∧ (¬ p → Wpx (a e g) QS X)) := by
  by_cases h : p <;> simp [xiK, h]
theorem x_throw {x : Str} : Wpx (sThrow x e g) QS X = X ⟨x, []⟩ e g := rfl
/-- f(..) that may raise, put under a name -/
def xcK (i n : Nat) (f : SemF) (Q : Option SV → Env → Rng → Prop) (X : Exn → Env → Rng → Prop) (ds : List D) (e : Env) (g : Rng) : Prop := ds.length = n ∧ match f ds g with
  | .ok sv g' => i < e.length ∧ Q none (e.set i (some sv)) g'
  | .exc x g' => X x e g'
  | .stuck => False
theorem x_callSet (h : Wp (mAll ms e g) (xcK i n f QS X)) : Wpx (sSet i (mCall n f ms) e g) QS X := by
  unfold sSet mCall mBind
  cases q : mAll ms e g with
  | ok ds e1 g1 =>
    rw [q] at h
    obtain ⟨h1, h2⟩ := h
    dsimp only [Res.bind]
    rw [if_pos h1]
    cases qf : f ds g1 with
    | ok sv g' =>
      rw [qf] at h2
      dsimp only
      unfold put
      rw [if_pos h2.1]
      exact h2.2
    | exc x g' => rw [qf] at h2; exact h2
    | stuck => rw [qf] at h2; exact h2
  | exc x e1 g1 => rw [q] at h; exact h.elim
  | stuck => rw [q] at h; exact h.elim
theorem xcK_ap {ds : List D} : xcK i n f QS X ds e g = (ds.length = n ∧ match f ds g with
  | .ok sv g' => i < e.length ∧ QS none (e.set i (some sv)) g'
  | .exc x g' => X x e g'
  | .stuck => False) := rfl
/-- f(..) that may raise, for its own sake -/
def xdK (n : Nat) (f : SemF) (Q : Option SV → Env → Rng → Prop) (X : Exn → Env → Rng → Prop) (ds : List D) (e : Env) (g : Rng) : Prop := ds.length = n ∧ match f ds g with
  | .ok _ g' => Q none e g'
  | .exc x g' => X x e g'
  | .stuck => False
theorem x_callDrop (h : Wp (mAll ms e g) (xdK n f QS X)) : Wpx (sDrop (mCall n f ms) e g) QS X := by
  unfold sDrop mCall mBind
  cases q : mAll ms e g with
  | ok ds e1 g1 =>
    rw [q] at h
    obtain ⟨h1, h2⟩ := h
    dsimp only [Res.bind]
    rw [if_pos h1]
    cases qf : f ds g1 with
    | ok sv g' => rw [qf] at h2; exact h2
    | exc x g' => rw [qf] at h2; exact h2
    | stuck => rw [qf] at h2; exact h2
  | exc x e1 g1 => rw [q] at h; exact h.elim
  | stuck => rw [q] at h; exact h.elim
theorem run_x {n : Nat} {b : S} {ds : List D} {g : Rng} {x : Exn} (hl : ds.length ≤ n) (h : Wpx (b (mkEnv n ds) g) (fun _ _ _ => False) (fun y _ g' => y = x ∧ g' = g)) : runFn n b ds g = .exc x g := by
  unfold runFn
  rw [← mkEnv_is hl]
  cases q : b (mkEnv n ds) g with
  | ok r e g' => rw [q] at h; exact (show False from h).elim
  | exc y e g' =>
    rw [q] at h
    obtain ⟨rfl, rfl⟩ := (show y = x ∧ g' = g from h)
    rfl
  | stuck => rw [q] at h; exact (show False from h).elim
/-- what a clause does -/
def tryX (cls : List Str) (C : Str) (i j : Nat) (val : Exn → Option D) (Q : Option SV → Env → Rng → Prop) (x : Exn) (e : Env) (g : Rng) : Prop := (x.fs.isEmpty && cls.elem x.c && decide (x.c ≠ "Model")) = true ∧ subX x.c C = true ∧ ∃ d, val x = some d ∧ j < e.length ∧ i < e.length ∧ Q none ((e.set j (some (.dat d))).set i none) g
theorem q_try1 {cls : List Str} {C : Str} {val : Exn → Option D} (h : Wpx (b e g) QS (tryX cls C i j val QS)) : Wp (sTry1 b cls C i j val e g) QS := by
  unfold sTry1
  cases q : b e g with
  | ok r e1 g1 => rw [q] at h; exact h
  | exc x e1 g1 =>
    rw [q] at h
    obtain ⟨h1, h2, d, h3, h4, h5, h6⟩ := h
    dsimp only
    rw [if_pos h1, if_pos h2, h3]
    dsimp only
    rw [if_pos ⟨h4, h5⟩]
    exact h6
  | stuck => rw [q] at h; exact h
end
end PV
set_option Elab.async false
set_option linter.all false
set_option maxRecDepth 100000
set_option maxHeartbeats 4000000
/-! PW6: rules for [.. for .. in .. for .. in ..]. -/
namespace PV
open PySem L2
section
variable {e e0 : Env} {g : Rng} {Q : SV → Env → Rng → Prop} {ds : List D}
def c2K (own own1 : List Nat) (t t1 : Tgt) (src1 : Src) (el : M D) (Q : SV → Env → Rng → Prop) (items : List D) (e : Env) (g : Rng) : Prop := still e own = true ∧ Wp (compLoop2 own own1 t t1 src1 el items [] (wipe e own) g) (cpK2 own e Q)
theorem q_comp2 {own own1 : List Nat} {t t1 : Tgt} {src src1 : Src} {el : M D} : Wp (mComp2 own own1 t src t1 src1 el e g) Q = Wp (src.items e g) (c2K own own1 t t1 src1 el Q) := by
  unfold mComp2
  rw [wp_bind]
  congr; funext items e g
  show _ = (still e own = true ∧ Wp (compLoop2 own own1 t t1 src1 el items [] (wipe e own) g) (cpK2 own e Q))
  by_cases h : still e own = true
  · simp only [if_pos h, h, true_and]
    cases compLoop2 own own1 t t1 src1 el items [] (wipe e own) g <;> rfl
  · exact propext ⟨fun z => by rw [if_neg h] at z; exact z.elim, fun z => absurd z.1 h⟩
theorem c2K_ap {own own1 : List Nat} {t t1 : Tgt} {src1 : Src} {el : M D} : c2K own own1 t t1 src1 el Q ds e g = (still e own = true ∧ Wp (compLoop2 own own1 t t1 src1 el ds [] (wipe e own) g) (cpK2 own e Q)) := rfl
end
section
variable {t t1 : Tgt} {e : Env} {g : Rng} {own own1 : List Nat} {src1 : Src} {el : M D} {QL : List D → Env → Rng → Prop}
theorem wp_clIn {β : Type} {f : β → D} (h : β → D) : ∀ (ys : List β) (acc : List D), acc.length + ys.length ≤ line →
    (∀ y ∈ ys, WO (t1.bind (f y) e) fun e1 => Wp (el e1 g) fun z e2 g2 => z = h y ∧ wipe e2 own1 = e ∧ g2 = g) → QL (acc ++ ys.map h) e g → Wp (compLoopIn own1 t1 el (ys.map f) acc e g) QL
  | [], acc, _, _, hq => by
    rw [List.map_nil, List.append_nil] at hq
    exact hq
  | y :: ys, acc, hl, hs, hq => by
    rw [List.map_cons]
    unfold compLoopIn
    have h1 := hs y List.mem_cons_self
    cases hb : t1.bind (f y) e with
    | none => rw [hb] at h1; exact h1.elim
    | some e1 =>
      rw [hb] at h1
      have h1 : Wp (el e1 g) fun z e2 g2 => z = h y ∧ wipe e2 own1 = e ∧ g2 = g := h1
      show Wp (match el e1 g with
        | .ok y e3 g3 => if acc.length < line then compLoopIn own1 t1 el (ys.map f) (acc ++ [y]) (wipe e3 own1) g3 else .stuck
        | _ => .stuck) QL
      cases he : el e1 g with
      | exc _ _ _ => rw [he] at h1; exact h1.elim
      | stuck => rw [he] at h1; exact h1.elim
      | ok z e2 g2 =>
        rw [he] at h1
        obtain ⟨h2, h3, h4⟩ := h1
        show Wp (if acc.length < line then compLoopIn own1 t1 el (ys.map f) (acc ++ [z]) (wipe e2 own1) g2 else .stuck) QL
        rw [List.length_cons] at hl
        rw [if_pos (by omega), h3, h4, h2]
        refine wp_clIn h ys _ (by rw [List.length_append]; show acc.length + 1 + ys.length ≤ line; omega) (fun y hy => hs y (List.mem_cons_of_mem _ hy)) ?_
        rw [List.append_assoc]
        exact hq
/-- the second source's items are known by the first's -/
theorem wp_cl2 {α β : Type} {f : α → D} {f1 : β → D} (inn : α → List β) (h : α → β → D) : ∀ (xs : List α) (acc : List D), acc.length + (xs.flatMap inn).length ≤ line →
    (∀ x ∈ xs, WO (t.bind (f x) e) fun e1 => Wp (src1.items e1 g) fun items e2 g2 => items = (inn x).map f1 ∧ wipe (wipe e2 own1) own = e ∧ g2 = g ∧
      ∀ y ∈ inn x, WO (t1.bind (f1 y) (wipe e2 own1)) fun e3 => Wp (el e3 g) fun z e4 g4 => z = h x y ∧ wipe e4 own1 = wipe e2 own1 ∧ g4 = g) →
    QL (acc ++ xs.flatMap fun x => (inn x).map (h x)) e g → Wp (compLoop2 own own1 t t1 src1 el (xs.map f) acc e g) QL
  | [], acc, _, _, hq => by
    rw [List.flatMap_nil, List.append_nil] at hq
    exact hq
  | x :: xs, acc, hl, hs, hq => by
    rw [List.map_cons]
    unfold compLoop2
    have h1 := hs x List.mem_cons_self
    rw [List.flatMap_cons, List.length_append] at hl
    cases hb : t.bind (f x) e with
    | none => rw [hb] at h1; exact h1.elim
    | some e1 =>
      rw [hb] at h1
      have h1 : Wp (src1.items e1 g) fun items e2 g2 => items = (inn x).map f1 ∧ wipe (wipe e2 own1) own = e ∧ g2 = g ∧
        ∀ y ∈ inn x, WO (t1.bind (f1 y) (wipe e2 own1)) fun e3 => Wp (el e3 g) fun z e4 g4 => z = h x y ∧ wipe e4 own1 = wipe e2 own1 ∧ g4 = g := h1
      show Wp (match src1.items e1 g with
        | .ok items e2 g2 => match compLoopIn own1 t1 el items acc (wipe e2 own1) g2 with
          | .ok acc' e3 g3 => compLoop2 own own1 t t1 src1 el (xs.map f) acc' (wipe e3 own) g3
          | _ => .stuck
        | _ => .stuck) QL
      cases he : src1.items e1 g with
      | exc _ _ _ => rw [he] at h1; exact h1.elim
      | stuck => rw [he] at h1; exact h1.elim
      | ok items e2 g2 =>
        rw [he] at h1
        obtain ⟨h2, h3, h4, h5⟩ := h1
        have hin : Wp (compLoopIn own1 t1 el ((inn x).map f1) acc (wipe e2 own1) g) fun r e' g' => r = acc ++ (inn x).map (h x) ∧ e' = wipe e2 own1 ∧ g' = g :=
          wp_clIn (h x) (inn x) acc (by omega) h5 ⟨rfl, rfl, rfl⟩
        show Wp (match compLoopIn own1 t1 el items acc (wipe e2 own1) g2 with
          | .ok acc' e3 g3 => compLoop2 own own1 t t1 src1 el (xs.map f) acc' (wipe e3 own) g3
          | _ => .stuck) QL
        rw [h2, h4]
        cases hc : compLoopIn own1 t1 el ((inn x).map f1) acc (wipe e2 own1) g with
        | exc _ _ _ => rw [hc] at hin; exact hin.elim
        | stuck => rw [hc] at hin; exact hin.elim
        | ok r e3 g3 =>
          rw [hc] at hin
          obtain ⟨k1, k2, k3⟩ := hin
          show Wp (compLoop2 own own1 t t1 src1 el (xs.map f) r (wipe e3 own) g3) QL
          rw [k1, k2, k3, h3]
          refine wp_cl2 inn h xs _ (by rw [List.length_append, List.length_map]; omega) (fun x hx => hs x (List.mem_cons_of_mem _ hx)) ?_
          rw [List.flatMap_cons, ← List.append_assoc] at hq
          exact hq
end
end PV
set_option Elab.async false
set_option linter.all false
set_option maxRecDepth 100000
set_option maxHeartbeats 4000000
/-! PW7: a rule for list(zip(a, b)). -/
namespace PV
open PySem L2
section
variable {e : Env} {g : Rng} {Q : SV → Env → Rng → Prop} {xs ys : List D} {k : SV → Prop} {a b : M D}
def lzK (Q : SV → Env → Rng → Prop) (ds : List D) (e : Env) (g : Rng) : Prop := WO (opLZip ds) (lzK2 Q e g)
where lzK2 (Q : SV → Env → Rng → Prop) (e : Env) (g : Rng) (sv : SV) : Prop := Q sv e g
theorem q_lzip : Wp (mLZip a b e g) Q = Wp (mAll [a, b] e g) (lzK Q) := by
  unfold mLZip
  rw [wp_bind]
  congr; funext x e g
  rw [wp_opt]
  unfold lzK
  cases opLZip x <;> rfl
theorem lzK_ap {ds : List D} : lzK Q ds e g = WO (opLZip ds) (lzK.lzK2 Q e g) := rfl
theorem lzK2_ap {sv : SV} : lzK.lzK2 Q e g sv = Q sv e g := rfl
theorem wo_lzipT : WO (opLZip [.tup xs, .tup ys]) k = ((xs.length = ys.length ∧ xs.length ≤ line) ∧ k (.own (zipD2 xs ys))) := by
  show WO (if xs.length = ys.length ∧ xs.length ≤ line then some (SV.own (zipD2 xs ys)) else none) k = _
  by_cases h : xs.length = ys.length ∧ xs.length ≤ line
  · rw [if_pos h, wo_some]; exact propext ⟨fun z => ⟨h, z⟩, fun z => z.2⟩
  · rw [if_neg h]; exact propext ⟨fun z => z.elim, fun z => absurd z.1 h⟩
end
end PV
set_option Elab.async false
set_option linter.all false
set_option maxRecDepth 100000
set_option maxHeartbeats 4000000
/-! PW8: rules for len and == of models. -/
namespace PV
open PySem L2
section
variable {e : Env} {g : Rng} {Q : SV → Env → Rng → Prop} {QB : Bool → Env → Rng → Prop} {f : SemF} {a b m : M SV} {t d : D} {ds : List D}
def lnK2 (Q : SV → Env → Rng → Prop) (e : Env) (sv : SV) (g : Rng) : Prop := match sv with
  | .dat (.int n) => (0 ≤ n ∧ n < 2 ^ 62) ∧ Q (.dat (.int n)) e g
  | _ => False
def lnK3 (Q : SV → Env → Rng → Prop) (e : Env) (g : Rng) (sv : SV) : Prop := Q sv e g
def lnK (f : SemF) (Q : SV → Env → Rng → Prop) (v : SV) (e : Env) (g : Rng) : Prop := match v with
  | .dat (.mdl t) => WF (f [.mdl t] g) (lnK2 Q e)
  | v => WO (opBn .len [v]) (lnK3 Q e g)
theorem q_mlen : Wp (mLen f m e g) Q = Wp (m e g) (lnK f Q) := by
  unfold mLen
  rw [wp_bind]
  congr; funext v e g
  have other : Wp (mOpt (opBn .len [v]) e g) Q = WO (opBn .len [v]) (lnK3 Q e g) := wp_opt
  cases v with
  | dat d =>
    cases d with
    | mdl t =>
      show Wp (match f [.mdl t] g with
        | .ok (.dat (.int n)) g' => if 0 ≤ n ∧ n < 2 ^ 62 then .ok (.dat (.int n)) e g' else .stuck
        | _ => .stuck) Q = WF (f [.mdl t] g) (lnK2 Q e)
      cases hf : f [.mdl t] g with
      | ok sv g' =>
        cases sv with
        | dat d =>
          cases d with
          | int n =>
            show Wp (if 0 ≤ n ∧ n < 2 ^ 62 then .ok (.dat (.int n)) e g' else .stuck) Q = ((0 ≤ n ∧ n < 2 ^ 62) ∧ Q (.dat (.int n)) e g')
            by_cases h : 0 ≤ n ∧ n < 2 ^ 62
            · rw [if_pos h]; exact propext ⟨fun z => ⟨h, z⟩, fun z => z.2⟩
            · rw [if_neg h]; exact propext ⟨fun z => z.elim, fun z => absurd z.1 h⟩
          | _ => rfl
        | _ => rfl
      | exc x g' => rfl
      | stuck => rfl
    | _ => exact other
  | _ => exact other
theorem lnK_mdl : lnK f Q (.dat (.mdl t)) e g = WF (f [.mdl t] g) (lnK2 Q e) := propext Iff.rfl
theorem lnK_tup : lnK f Q (.dat (.tup ds)) e g = WO (opBn .len [.dat (.tup ds)]) (lnK3 Q e g) := propext Iff.rfl
theorem lnK_lst : lnK f Q (.dat (.lst ds)) e g = WO (opBn .len [.dat (.lst ds)]) (lnK3 Q e g) := propext Iff.rfl
theorem lnK_own : lnK f Q (.own ds) e g = WO (opBn .len [.own ds]) (lnK3 Q e g) := propext Iff.rfl
theorem lnK2_int {n : Int} : lnK2 Q e (.dat (.int n)) g = ((0 ≤ n ∧ n < 2 ^ 62) ∧ Q (.dat (.int n)) e g) := propext Iff.rfl
theorem lnK3_ap {sv : SV} : lnK3 Q e g sv = Q sv e g := propext Iff.rfl
def emK3 (QB : Bool → Env → Rng → Prop) (e : Env) (sv : SV) (g : Rng) : Prop := match sv with
  | .dat (.bl r) => QB r e g
  | _ => False
def emK4 (QB : Bool → Env → Rng → Prop) (e : Env) (g : Rng) (r : Bool) : Prop := QB r e g
def emK2 (f : SemF) (x : SV) (QB : Bool → Env → Rng → Prop) (y : SV) (e : Env) (g : Rng) : Prop := match x with
  | .dat (.mdl t) => (match y with
    | .dat d => d.mt = true ∧ WF (f [.mdl t, d] g) (emK3 QB e)
    | _ => False)
  | x => WO (opCmp .eq x y) (emK4 QB e g)
def emK1 (f : SemF) (b : M SV) (QB : Bool → Env → Rng → Prop) (x : SV) (e : Env) (g : Rng) : Prop := Wp (b e g) (emK2 f x QB)
theorem q_eqM : Wp (mEqM f a b e g) QB = Wp (a e g) (emK1 f b QB) := by
  unfold mEqM
  rw [wp_bind]
  congr; funext x e g
  show _ = Wp (b e g) (emK2 f x QB)
  rw [wp_bind]
  congr; funext y e g
  have other : Wp (mOpt (opCmp .eq x y) e g) QB = WO (opCmp .eq x y) (emK4 QB e g) := wp_opt
  cases x with
  | dat dx =>
    cases dx with
    | mdl t =>
      cases y with
      | dat d =>
        show Wp (if d.mt = true then (match f [.mdl t, d] g with
          | .ok (.dat (.bl r)) g' => .ok r e g'
          | _ => .stuck) else .stuck) QB = (d.mt = true ∧ WF (f [.mdl t, d] g) (emK3 QB e))
        by_cases h : d.mt = true
        · rw [if_pos h]
          refine Eq.trans ?_ (propext ⟨fun z => ⟨h, z⟩, fun z => z.2⟩)
          cases hf : f [.mdl t, d] g with
          | ok sv g' =>
            cases sv with
            | dat d2 => cases d2 <;> rfl
            | _ => rfl
          | exc x g' => rfl
          | stuck => rfl
        · rw [if_neg h]; exact propext ⟨fun z => z.elim, fun z => absurd z.1 h⟩
      | _ => rfl
    | _ => exact other
  | _ => exact other
theorem emK1_ap {x : SV} : emK1 f b QB x e g = Wp (b e g) (emK2 f x QB) := propext Iff.rfl
theorem emK2_mm {u : D} : emK2 f (.dat (.mdl t)) QB (.dat (.mdl u)) e g = WF (f [.mdl t, .mdl u] g) (emK3 QB e) := propext ⟨fun z => z.2, fun z => ⟨rfl, z⟩⟩
theorem emK2_mt : emK2 f (.dat (.mdl t)) QB (.dat (.tup ds)) e g = WF (f [.mdl t, .tup ds] g) (emK3 QB e) := propext ⟨fun z => z.2, fun z => ⟨rfl, z⟩⟩
theorem emK2_int {i : Int} {y : SV} : emK2 f (.dat (.int i)) QB y e g = WO (opCmp .eq (.dat (.int i)) y) (emK4 QB e g) := propext Iff.rfl
theorem emK2_tup {y : SV} : emK2 f (.dat (.tup ds)) QB y e g = WO (opCmp .eq (.dat (.tup ds)) y) (emK4 QB e g) := propext Iff.rfl
theorem emK2_lst {y : SV} : emK2 f (.dat (.lst ds)) QB y e g = WO (opCmp .eq (.dat (.lst ds)) y) (emK4 QB e g) := propext Iff.rfl
theorem emK2_own {y : SV} : emK2 f (.own ds) QB y e g = WO (opCmp .eq (.own ds) y) (emK4 QB e g) := propext Iff.rfl
theorem emK3_bl {r : Bool} : emK3 QB e (.dat (.bl r)) g = QB r e g := propext Iff.rfl
theorem emK4_ap {r : Bool} : emK4 QB e g r = QB r e g := propext Iff.rfl
end
end PV
set_option Elab.async false
set_option linter.all false
set_option maxRecDepth 100000
set_option maxHeartbeats 4000000
/-! PW9: a rule for l.remove(x). -/
namespace PV
open PySem L2
theorem wo_isnot_own {xs : List D} {kb : Bool → Prop} : WO (opCmp .isnot (.own xs) (.dat .non)) kb = kb true := rfl
theorem wo_is_own {xs : List D} {kb : Bool → Prop} : WO (opCmp .is (.own xs) (.dat .non)) kb = kb false := rfl
section
variable {e : Env} {g : Rng} {QS : Option SV → Env → Rng → Prop} {i : Nat} {m : M D} {d : D} {ds : List D}
def rmK4 (i : Nat) (ds : List D) (Q : Option SV → Env → Rng → Prop) (e : Env) (g : Rng) (j : Nat) : Prop := Q none (e.set i (some (.own (ds.eraseIdx j)))) g
def rmK3 (i : Nat) (d : D) (Q : Option SV → Env → Rng → Prop) (e : Env) (g : Rng) (ds : List D) : Prop := (d.fine 60 = true ∧ ds.all (D.fine 60) = true) ∧ WO (ds.findIdx? fun z => z.eqv d) (rmK4 i ds Q e g)
def rmK2 (i : Nat) (Q : Option SV → Env → Rng → Prop) (d : D) (e : Env) (g : Rng) : Prop := ownK e[i]? (rmK3 i d Q e g)
def rmK1 (i : Nat) (m : M D) (Q : Option SV → Env → Rng → Prop) (e : Env) (g : Rng) (_ : List D) : Prop := Wp (m e g) (rmK2 i Q)
theorem q_rem : Wp (sRemove i m e g) QS = ownK e[i]? (rmK1 i m QS e g) := by
  unfold sRemove
  rw [wp_bind, wp_own]
  congr; funext _
  show _ = Wp (m e g) (rmK2 i QS)
  rw [wp_bind]
  congr; funext d e g
  rw [wp_bind, wp_own]
  unfold rmK2
  congr; funext ds
  rw [wp_bind, wp_must]
  unfold rmK3
  rw [Bool.and_eq_true, wp_bind, wp_opt]
  rfl
theorem rmK1_ap : rmK1 i m QS e g ds = Wp (m e g) (rmK2 i QS) := propext Iff.rfl
theorem rmK2_ap : rmK2 i QS d e g = ownK e[i]? (rmK3 i d QS e g) := propext Iff.rfl
theorem rmK3_ap : rmK3 i d QS e g ds = ((d.fine 60 = true ∧ ds.all (D.fine 60) = true) ∧ WO (ds.findIdx? fun z => z.eqv d) (rmK4 i ds QS e g)) := propext Iff.rfl
theorem rmK4_ap {j : Nat} : rmK4 i ds QS e g j = QS none (e.set i (some (.own (ds.eraseIdx j)))) g := propext Iff.rfl
end
end PV
set_option Elab.async false
set_option linter.all false
set_option maxRecDepth 100000
set_option maxHeartbeats 4000000
/-! PW10: rules for sorted, for calls that may raise, handed back or with a property. -/
namespace PV
open PySem L2
theorem wo_sortedT {ns : List Int} {k : SV → Prop} : WO (opBn .sorted [.dat (.tup (ns.map D.int))]) k = k (.own ((sortL ns).map D.int)) := by
  show WO (((SV.dat (.tup (ns.map D.int))).seq.bind D.ints).map fun ns => SV.own ((sortL ns).map D.int)) k = _
  rw [show (SV.dat (.tup (ns.map D.int))).seq = some (ns.map D.int) from rfl]
  show WO ((D.ints (ns.map D.int)).map fun ns => SV.own ((sortL ns).map D.int)) k = _
  rw [ints_map]
  rfl
theorem wo_sortedO {ns : List Int} {k : SV → Prop} : WO (opBn .sorted [.own (ns.map D.int)]) k = k (.own ((sortL ns).map D.int)) := by
  show WO ((D.ints (ns.map D.int)).map fun ns => SV.own ((sortL ns).map D.int)) k = _
  rw [ints_map]
  rfl
section
variable {QS : Option SV → Env → Rng → Prop} {X : Exn → Env → Rng → Prop} {e : Env} {g : Rng} {n i : Nat} {f fp : SemF} {ms : List (M D)}
/-- return f(..), that may raise -/
def xrK (n : Nat) (f : SemF) (Q : Option SV → Env → Rng → Prop) (X : Exn → Env → Rng → Prop) (ds : List D) (e : Env) (g : Rng) : Prop := ds.length = n ∧ match f ds g with
  | .ok sv g' => Q (some sv) e g'
  | .exc x g' => X x e g'
  | .stuck => False
theorem x_callRet (h : Wp (mAll ms e g) (xrK n f QS X)) : Wpx (sRet (mCall n f ms) e g) QS X := by
  unfold sRet mCall mBind
  cases q : mAll ms e g with
  | ok ds e1 g1 =>
    rw [q] at h
    obtain ⟨h1, h2⟩ := h
    dsimp only [Res.bind]
    rw [if_pos h1]
    cases qf : f ds g1 with
    | ok sv g' => rw [qf] at h2; exact h2
    | exc x g' => rw [qf] at h2; exact h2
    | stuck => rw [qf] at h2; exact h2
  | exc x e1 g1 => rw [q] at h; exact h.elim
  | stuck => rw [q] at h; exact h.elim
/-- f(..).p, that may raise, put under a name -/
def xpK (i n : Nat) (f fp : SemF) (Q : Option SV → Env → Rng → Prop) (X : Exn → Env → Rng → Prop) (ds : List D) (e : Env) (g : Rng) : Prop := ds.length = n ∧ match f ds g with
  | .ok sv g' => ∃ t sv2 g2, sv = .dat (.mdl t) ∧ fp [.mdl t] g' = .ok sv2 g2 ∧ i < e.length ∧ Q none (e.set i (some sv2)) g2
  | .exc x g' => X x e g'
  | .stuck => False
theorem x_propSet (h : Wp (mAll ms e g) (xpK i n f fp QS X)) : Wpx (sSet i (mProp fp (mCall n f ms)) e g) QS X := by
  unfold sSet mProp mCall mBind
  cases q : mAll ms e g with
  | ok ds e1 g1 =>
    rw [q] at h
    obtain ⟨h1, h2⟩ := h
    dsimp only [Res.bind]
    rw [if_pos h1]
    cases qf : f ds g1 with
    | ok sv g' =>
      rw [qf] at h2
      obtain ⟨t, sv2, g2, rfl, h3, h4, h5⟩ := h2
      dsimp only
      rw [h3]
      dsimp only
      unfold put
      rw [if_pos h4]
      exact h5
    | exc x g' => rw [qf] at h2; exact h2
    | stuck => rw [qf] at h2; exact h2
  | exc x e1 g1 => rw [q] at h; exact h.elim
  | stuck => rw [q] at h; exact h.elim
theorem xrK_ap {ds : List D} : xrK n f QS X ds e g = (ds.length = n ∧ match f ds g with
  | .ok sv g' => QS (some sv) e g'
  | .exc x g' => X x e g'
  | .stuck => False) := rfl
theorem xpK_ap {ds : List D} : xpK i n f fp QS X ds e g = (ds.length = n ∧ match f ds g with
  | .ok sv g' => ∃ t sv2 g2, sv = .dat (.mdl t) ∧ fp [.mdl t] g' = .ok sv2 g2 ∧ i < e.length ∧ QS none (e.set i (some sv2)) g2
  | .exc x g' => X x e g'
  | .stuck => False) := rfl
end
end PV
set_option Elab.async false
set_option linter.all false
set_option maxRecDepth 100000
set_option maxHeartbeats 4000000
/-! PW12: rules for errors with one field, for loops that an error ends, for several clauses. -/
namespace PV
open PySem L2
section
variable {α : Type} {QS : Option SV → Env → Rng → Prop} {X : Exn → Env → Rng → Prop} {e : Env} {g : Rng} {n i : Nat} {f fp : SemF} {m : M D} {b : S} {t : Tgt} {src : Src} {fl x : Str}
def xtK (x fl : Str) (X : Exn → Env → Rng → Prop) (d : D) (e : Env) (g : Rng) : Prop := X ⟨x, [(fl, d)]⟩ e g
theorem x_throwF (h : Wp (m e g) (xtK x fl X)) : Wpx (sThrowF x fl m e g) QS X := by
  unfold sThrowF mBind
  cases q : m e g with
  | ok d e1 g1 => rw [q] at h; exact h
  | exc y e1 g1 => rw [q] at h; exact h.elim
  | stuck => rw [q] at h; exact h.elim
theorem xtK_ap {d : D} : xtK x fl X d e g = X ⟨x, [(fl, d)]⟩ e g := rfl
theorem x_nil : Wpx (sNil e g) QS X = QS none e g := rfl
/-- a for that an error may end -/
def xfK (t : Tgt) (b : S) (Q : Option SV → Env → Rng → Prop) (X : Exn → Env → Rng → Prop) (items : List D) (e : Env) (g : Rng) : Prop := Wpx (sForGo t b items e g) Q X
theorem xfK_ap {ds : List D} : xfK t b QS X ds e g = Wpx (sForGo t b ds e g) QS X := rfl
theorem x_for (h : Wp (src.items e g) (xfK t b QS X)) : Wpx (sFor t src b e g) QS X := by
  unfold sFor mBind
  cases q : src.items e g with
  | ok ds e1 g1 => rw [q] at h; exact h
  | exc y e1 g1 => rw [q] at h; exact h.elim
  | stuck => rw [q] at h; exact h.elim
theorem Wpx.imp {β : Type} {r : Res β} {Q Q' : β → Env → Rng → Prop} (h : Wpx r Q X) (k : ∀ a e g, Q a e g → Q' a e g) : Wpx r Q' X := by
  cases r with
  | ok a e g => exact k a e g h
  | exc y e g => exact h
  | stuck => exact h
theorem x_go {f : α → D} (I : List α → Env → Rng → Prop) (xs : List α) (h0 : I [] e g)
    (hs : ∀ done x rest e g, xs = done ++ x :: rest → I done e g → WO (t.bind (f x) e) fun e1 => Wpx (b e1 g) (fun r e2 g2 => match r with
      | none => I (done ++ [x]) e2 g2
      | some v => QS (some v) e2 g2) X)
    (hq : ∀ e g, I xs e g → QS none e g) : Wpx (sForGo t b (xs.map f) e g) QS X := by
  have go : ∀ (rest done : List α) (e : Env) (g : Rng), xs = done ++ rest → I done e g → Wpx (sForGo t b (rest.map f) e g) QS X := by
    intro rest
    induction rest with
    | nil =>
      intro done e g hx hi
      rw [List.append_nil] at hx
      subst hx
      exact hq e g hi
    | cons y rest ih =>
      intro done e g hx hi
      have h := hs done y rest e g hx hi
      rw [List.map_cons]
      unfold sForGo
      cases hb : t.bind (f y) e with
      | none => rw [hb] at h; exact h.elim
      | some e1 =>
        rw [hb] at h
        dsimp only
        have h : Wpx (b e1 g) (fun r e2 g2 => match r with
          | none => I (done ++ [y]) e2 g2
          | some v => QS (some v) e2 g2) X := h
        cases q : b e1 g with
        | ok r e2 g2 =>
          rw [q] at h
          cases r with
          | none => exact ih (done ++ [y]) e2 g2 (by rw [List.append_assoc]; exact hx) h
          | some v => exact h
        | exc z e2 g2 => rw [q] at h; exact h
        | stuck => rw [q] at h; exact h
  exact go xs [] e g rfl h0
/-- Model(..) put under a name, that may raise -/
def xmK (i : Nat) (f : SemF) (Q : Option SV → Env → Rng → Prop) (X : Exn → Env → Rng → Prop) (d : D) (e : Env) (g : Rng) : Prop := d.pl = true ∧ match f [d] g with
  | .ok sv g' => ∃ d', sv = .dat d' ∧ d'.pl = true ∧ i < e.length ∧ Q none (e.set i (some (.dat (.mdl d')))) g'
  | .exc x g' => x.pl = true ∧ X x e g'
  | .stuck => False
theorem xmK_ap {d : D} : xmK i f QS X d e g = (d.pl = true ∧ match f [d] g with
  | .ok sv g' => ∃ d', sv = .dat d' ∧ d'.pl = true ∧ i < e.length ∧ QS none (e.set i (some (.dat (.mdl d')))) g'
  | .exc x g' => x.pl = true ∧ X x e g'
  | .stuck => False) := rfl
theorem x_makeSet (h : Wp (m e g) (xmK i f QS X)) : Wpx (sSet i (mMake f m) e g) QS X := by
  unfold sSet mMake mBind
  cases q : m e g with
  | ok d e1 g1 =>
    rw [q] at h
    obtain ⟨h1, h2⟩ := h
    dsimp only [Res.bind]
    rw [if_pos h1]
    cases qf : f [d] g1 with
    | ok sv g' =>
      rw [qf] at h2
      obtain ⟨d', rfl, h3, h4, h5⟩ := h2
      dsimp only
      rw [if_pos h3]
      dsimp only
      unfold put
      rw [if_pos h4]
      exact h5
    | exc x g' =>
      rw [qf] at h2
      dsimp only
      rw [if_pos h2.1]
      exact h2.2
    | stuck => rw [qf] at h2; exact h2.elim
  | exc x e1 g1 => rw [q] at h; exact h.elim
  | stuck => rw [q] at h; exact h.elim
/-- return Model(..), that may raise -/
def xnK (f : SemF) (Q : Option SV → Env → Rng → Prop) (X : Exn → Env → Rng → Prop) (d : D) (e : Env) (g : Rng) : Prop := d.pl = true ∧ match f [d] g with
  | .ok sv g' => ∃ d', sv = .dat d' ∧ d'.pl = true ∧ Q (some (.dat (.mdl d'))) e g'
  | .exc x g' => x.pl = true ∧ X x e g'
  | .stuck => False
theorem xnK_ap {d : D} : xnK f QS X d e g = (d.pl = true ∧ match f [d] g with
  | .ok sv g' => ∃ d', sv = .dat d' ∧ d'.pl = true ∧ QS (some (.dat (.mdl d'))) e g'
  | .exc x g' => x.pl = true ∧ X x e g'
  | .stuck => False) := rfl
theorem x_makeRet (h : Wp (m e g) (xnK f QS X)) : Wpx (sRet (mMake f m) e g) QS X := by
  unfold sRet mMake mBind
  cases q : m e g with
  | ok d e1 g1 =>
    rw [q] at h
    obtain ⟨h1, h2⟩ := h
    dsimp only [Res.bind]
    rw [if_pos h1]
    cases qf : f [d] g1 with
    | ok sv g' =>
      rw [qf] at h2
      obtain ⟨d', rfl, h3, h5⟩ := h2
      dsimp only
      rw [if_pos h3]
      exact h5
    | exc x g' =>
      rw [qf] at h2
      dsimp only
      rw [if_pos h2.1]
      exact h2.2
    | stuck => rw [qf] at h2; exact h2.elim
  | exc x e1 g1 => rw [q] at h; exact h.elim
  | stuck => rw [q] at h; exact h.elim
/-- the clauses -/
def tryN (cls : List Str) (l : List Cl) (Q : Option SV → Env → Rng → Prop) (x : Exn) (e : Env) (g : Rng) : Prop := (cls.elem x.c && decide (x.c ≠ "Model")) = true ∧ Wp (tryGo x e g l) Q
theorem q_tryN {cls : List Str} {l : List Cl} (h : Wpx (b e g) QS (tryN cls l QS)) : Wp (sTryN b cls l e g) QS := by
  unfold sTryN
  cases q : b e g with
  | ok r e1 g1 => rw [q] at h; exact h
  | exc x e1 g1 =>
    rw [q] at h
    obtain ⟨h1, h2⟩ := h
    dsimp only
    rw [if_pos h1]
    exact h2
  | stuck => rw [q] at h; exact h
theorem tryGo_hit {x : Exn} {cl : Cl} {r : List Cl} {ps : List (Nat × D)} (h1 : subX x.c cl.C = true) (h2 : cl.su x = some ps) (h3 : cl.i < e.length) (h4 : ps.all (fun p => decide (p.1 < e.length)) = true) (h : QS none ((setsD (e.set cl.i none) ps).set cl.i none) g) : Wp (tryGo x e g (cl :: r)) QS := by
  unfold tryGo
  rw [if_pos h1, h2]
  dsimp only
  rw [if_pos ⟨h3, h4⟩]
  exact h
theorem tryGo_miss {x : Exn} {cl : Cl} {r : List Cl} (h1 : subX x.c cl.C = false) (h : Wp (tryGo x e g r) QS) : Wp (tryGo x e g (cl :: r)) QS := by
  unfold tryGo
  rw [if_neg (by rw [h1]; decide)]
  exact h
theorem xd_ok {ds : List D} {sv : SV} {g' : Rng} (h : f ds g = .ok sv g') (hl : ds.length = n) (hq : QS none e g') : xdK n f QS X ds e g := ⟨hl, by rw [h]; exact hq⟩
theorem xd_exc {ds : List D} {x : Exn} {g' : Rng} (h : f ds g = .exc x g') (hl : ds.length = n) (hq : X x e g') : xdK n f QS X ds e g := ⟨hl, by rw [h]; exact hq⟩
theorem xc_ok {ds : List D} {sv : SV} {g' : Rng} (h : f ds g = .ok sv g') (hl : ds.length = n) (hi : i < e.length) (hq : QS none (e.set i (some sv)) g') : xcK i n f QS X ds e g := ⟨hl, by rw [h]; exact ⟨hi, hq⟩⟩
theorem xc_exc {ds : List D} {x : Exn} {g' : Rng} (h : f ds g = .exc x g') (hl : ds.length = n) (hq : X x e g') : xcK i n f QS X ds e g := ⟨hl, by rw [h]; exact hq⟩
theorem xr_ok {ds : List D} {sv : SV} {g' : Rng} (h : f ds g = .ok sv g') (hl : ds.length = n) (hq : QS (some sv) e g') : xrK n f QS X ds e g := ⟨hl, by rw [h]; exact hq⟩
theorem xr_exc {ds : List D} {x : Exn} {g' : Rng} (h : f ds g = .exc x g') (hl : ds.length = n) (hq : X x e g') : xrK n f QS X ds e g := ⟨hl, by rw [h]; exact hq⟩
theorem xp_exc {ds : List D} {x : Exn} {g' : Rng} (h : f ds g = .exc x g') (hl : ds.length = n) (hq : X x e g') : xpK i n f fp QS X ds e g := ⟨hl, by rw [h]; exact hq⟩
theorem xp_ok {ds : List D} {t : D} {sv2 : SV} {g' g2 : Rng} (h : f ds g = .ok (.dat (.mdl t)) g') (hl : ds.length = n) (hp : fp [.mdl t] g' = .ok sv2 g2) (hi : i < e.length) (hq : QS none (e.set i (some sv2)) g2) : xpK i n f fp QS X ds e g := ⟨hl, by rw [h]; exact ⟨t, sv2, g2, rfl, hp, hi, hq⟩⟩
theorem xm_ok {d d' : D} {g' : Rng} (h : f [d] g = .ok (.dat d') g') (hd : d.pl = true) (hd' : d'.pl = true) (hi : i < e.length) (hq : QS none (e.set i (some (.dat (.mdl d')))) g') : xmK i f QS X d e g := ⟨hd, by rw [h]; exact ⟨d', rfl, hd', hi, hq⟩⟩
theorem xm_exc {d : D} {x : Exn} {g' : Rng} (h : f [d] g = .exc x g') (hd : d.pl = true) (hx : x.pl = true) (hq : X x e g') : xmK i f QS X d e g := ⟨hd, by rw [h]; exact ⟨hx, hq⟩⟩
theorem xn_ok {d d' : D} {g' : Rng} (h : f [d] g = .ok (.dat d') g') (hd : d.pl = true) (hd' : d'.pl = true) (hq : QS (some (.dat (.mdl d'))) e g') : xnK f QS X d e g := ⟨hd, by rw [h]; exact ⟨d', rfl, hd', hq⟩⟩
theorem xn_exc {d : D} {x : Exn} {g' : Rng} (h : f [d] g = .exc x g') (hd : d.pl = true) (hx : x.pl = true) (hq : X x e g') : xnK f QS X d e g := ⟨hd, by rw [h]; exact ⟨hx, hq⟩⟩
theorem x_ifTest {cd : M Bool} {b1 b2 : S} (h : Wp (cd e g) (xiK b1 b2 (xsK b QS X) X)) : Wpx (sSeq (sIf cd b1 b2) b e g) QS X := x_seq (x_ifW h)
theorem wp_seqI {a b : S} (I : Env → Rng → Prop) (h1 : Wp (a e g) (fun r e' g' => r = none ∧ I e' g')) (h2 : ∀ e' g', I e' g' → Wp (b e' g') QS) : Wp (sSeq a b e g) QS := by
  unfold sSeq mBind
  cases q : a e g with
  | ok r e1 g1 =>
    rw [q] at h1
    obtain ⟨rfl, h3⟩ := h1
    exact h2 e1 g1 h3
  | exc x e1 g1 => rw [q] at h1; exact h1.elim
  | stuck => rw [q] at h1; exact h1.elim
theorem wp_ifAnd {c1 c2 : M Bool} {a b : S} (p : Prop) [Decidable p] (h1 : Wp (c1 e g) fun r e' g' => r = decide p ∧ e' = e ∧ g' = g) (h2 : p → Wp (c2 e g) fun r e' g' => r = false ∧ Wp (b e' g') QS) (h3 : ¬ p → Wp (b e g) QS) : Wp (sIf (mAnd c1 c2) a b e g) QS := by
  unfold sIf mAnd mBind
  cases q : c1 e g with
  | ok r e1 g1 =>
    rw [q] at h1
    obtain ⟨rfl, rfl, rfl⟩ := h1
    dsimp only [Res.bind]
    by_cases hp : p
    · rw [if_pos (decide_eq_true hp)]
      have := h2 hp
      cases q2 : c2 e1 g1 with
      | ok r2 e2 g2 =>
        rw [q2] at this
        obtain ⟨rfl, h4⟩ := this
        exact h4
      | exc x e2 g2 => rw [q2] at this; exact this.elim
      | stuck => rw [q2] at this; exact this.elim
    · rw [if_neg (by simpa using hp)]
      exact h3 hp
  | exc x e1 g1 => rw [q] at h1; exact h1.elim
  | stuck => rw [q] at h1; exact h1.elim
theorem w_of {β : Type} {r : Res β} {Q : β → Env → Rng → Prop} (h : Wpx r Q (fun _ _ _ => False)) : Wp r Q := by
  cases r with
  | ok a e g => exact h
  | exc x e g => exact h.elim
  | stuck => exact h.elim
theorem run_o {n : Nat} {b : S} {ds : List D} {g : Rng} {v : SV} (hl : ds.length ≤ n) (h : Wpx (b (mkEnv n ds) g) (outK fun sv g' => sv = v ∧ g' = g) (fun _ _ _ => False)) : runFn n b ds g = .ok v g := run_is hl (w_of h)
theorem runI_x {n : Nat} {b : S} {d : D} {g : Rng} {x : Exn} (h : Wpx (b (mkEnv (n + 2) [.fn "self", d]) g) (fun _ _ _ => False) (fun y _ g' => y = x ∧ g' = g)) : runInit (n + 2) b [d] g = .exc x g := by
  unfold runInit
  have e1 : (some (.dat (.fn "self")) :: ([d].map (fun d => some (SV.dat d)) ++ List.replicate (n + 2 - ([d].length + 1)) none) : Env) = mkEnv (n + 2) [.fn "self", d] := by
    rw [mkEnv_is (by simp)]; rfl
  rw [e1]
  cases hb : b (mkEnv (n + 2) [.fn "self", d]) g with
  | stuck => rw [hb] at h; exact h.elim
  | exc y e g' =>
    rw [hb] at h
    obtain ⟨rfl, rfl⟩ := (show y = x ∧ g' = g from h)
    rfl
  | ok r e g' => rw [hb] at h; exact (show False from h).elim
end
end PV
set_option Elab.async false
set_option linter.all false
set_option maxRecDepth 100000
set_option maxHeartbeats 4000000
/-! PL100: tables of any kind: which fault the program finds, and the law's one (k01). -/
namespace PV
open PySem L2
local macro_rules | `(tactic| trivial) => `(tactic| simp only [vK_ap, wo_some, q_varP, q_varF, q_varR, onV_0, onV_s, q_frz, fzK_dat, fzK_own, q_all_nil, q_all, alK1_ap, alK2_ap, q_bin, biK1_ap, biK2_ap, bK_ap, q_cmp, cmK1_ap, cmK2_ap, q_chain, chK1_ap, chK2_ap, chK3_dec, q_not, noK_ap, q_if, q_sIf, q_and, q_or, q_ret, q_b, mbK_ap, q_t, mtK_ap, q_neg, neK_ap, q_c, q_tup, tuK_ap, q_lst, liK_ap, q_idx, ixK1_ap, ixK2_ap, dK_ap, q_idxT, q_idxL, q_idxO, coK_ap, q_ixMap, q_ix0, q_ix1, q_ix2, q_ix3, owK_ap, q_rowsI, q_rowP, rpK1_ap, rpK2_ap, rpK3_ap, q_part0, q_part1, ptK_ap, q_slice, slK1_ap, slK2_ap, slK3_ap, lK_ap, q_seq, sqK_lst, sqK_tup, sqK_own, q_rng1, q_rng2, rgK0_ap, rgK_ap, q_enum, q_enumK, enK_lst, enK_tup, enK_own, q_zip2, zpK1_ap, zpK2_lst, zpK2_tup, zpK2_own, zpK3_lst, zpK3_tup, zpK3_own, q_zip3, z3K1_ap, z3K2_ap, z3K3_tup, z3K3_lst, z3K3_own, z3K4_tup, z3K4_lst, z3K4_own, z3K5_tup, z3K5_lst, z3K5_own, reK_ap, q_call, caK_ap, q_bn, bnK_ap, sqV_lst, sqV_tup, sqV_own, liV_lst, liV_own, q_sum, suK_ap, q_max, mxK_ap, q_min, mnK_ap, q_allB, aaK_ap, q_anyB, anK_ap, q_isa, isK_int, isK_bl, isK_non, isK_str, isK_tup, isK_lst, isK_mdl, isK_own, q_index, idK1_own, idK2_ap, q_tabs, taK_ap, q_prop, prK_ap, q_comp, cpK_ap, cpK2_ap, q_rowsC, rcK_ap, rcK2_ap, still_nil, still_cons, okAt_0, okAt_n, okAt_m, okAt_s, wipe_nil, wipe_cons, unwipe_nil, unwipe_cons, join_0, join_s, set_0, set_s, q_nil, q_seqS, q_set, seK_ap, q_par2, p2K1_ap, p2K2_ap, q_par3, p3K1_ap, p3K2_ap, p3K3_ap, q_unp, unK_ap, setAll_nil, setAll_cons, q_drop, drK_ap, q_rets, rtK_ap, ownK_0, ownK_s, q_app, apK1_ap, apK2_ap, apK3_ap, q_put, puK1_ap, puK2_ap, puK3_ap, puK4_ap, puK5_ap, q_augI, aiK1_ap, aiK2_ap, aiK3_ap, aiK4_ap, aiK5_ap, aiK6_ap, aiK7_ap, q_aug, auK1_ap, auK2_ap, q_augL, alK3_ap, alK4_own, alK5_ap, q_for, foK_ap, q_appR, arK1_ap, arK2_ap, arK3_ap, arK4_ap, arK5_ap, q_putR, prK1_ap, prK2_ap, prK3_ap, prK4_ap, prK5_ap, prK6_ap, prK7_ap, q_rowAt, onRow_0, onRow_s, ifK_true, ifK_false, ifK_dec, ifK_ndec, frzK_dat, frzK_own, frzK_owns, retK_dat, retK_own, retK_owns, seqK_none, seqK_some, wo_if, wo_add, wo_sub, wo_mul, wo_fdiv, wo_mod, wo_pow, wo_addT, wo_addOO, wo_addLO, wo_addOL, wo_addLL, wo_mulT, wo_mulO, wo_eqB, wo_neB, wo_eqD, wo_neD, wo_eqOO, wo_neOO, wo_eqDO, wo_neDO, wo_lt, wo_le, wo_gt, wo_ge, wo_inO, wo_ninO, opIn_own, opIn_lst, wo_is_non, wo_isnot_non, wo_is_int, wo_is_tup, wo_is_lst, wo_isnot_tup, wo_isnot_lst, wo_row_dat, wo_lenT, wo_lenL, wo_lenO, wo_lenOs, wo_max2, wo_min2, wo_abs, wo_tupO, wo_tupL, wo_tupT, wo_lstO, wo_lstL, wo_lstT, wo_intI, wo_maxC, wo_minC, wo_rangeN, wo_indexO, wo_sliceT, wo_sliceL, wo_sliceO, wo_bind_name, wo_bind_names, outK_none, outK_some, List.length_cons, List.length_nil, List.length_map, Nat.zero_add, Nat.reduceAdd, Nat.reduceLT, Nat.reduceLeDiff, line, true_and, and_true, Bool.and_self, Bool.true_and, Bool.and_true, Bool.not_true, Bool.not_false, if_true, if_false, fine_int, fine_bl, fine_non, eqv_ii, eqv_bb, mkEnv_0, mkEnv_n, mkEnv_c, isaB_nil, isaB_cons, D.isa, Bool.or_false, Bool.or_true, Bool.true_or, Bool.false_or, decide_eq_true_eq, decide_eq_false_iff_not, true_implies, false_implies, Bool.true_eq_false, Bool.false_eq_true, suK_map, mxK_map, mnK_map, aaK_map, anK_map, frzK_lz, okAt_some, okAt_none, okAt_mapd, onRow_some, onV_some, ownK_own, List.getElem?_cons_zero, List.getElem?_cons_succ, Option.join_some, ifK_nbeq, ifK_beq, eqv_lcn, eqv_lnn, eqv_lnc, eqv_tcn, eqv_tnn, List.map_nil, List.map_cons, wo_is_str, wo_is_bl, wo_is_mdl, wo_isnot_int, wo_isnot_mdl, q_make, mkK_ap, mkK2_ap, outI_ap, Bool.true_beq, Bool.false_beq, Bool.not_not, Bool.false_and, Bool.and_false, eqv_nn, eqv_nb, eqv_ni, eqv_ns, eqv_nt, eqv_nl, eqv_bn, eqv_bi, eqv_bs, eqv_bt, eqv_bl, eqv_in, eqv_ib, eqv_is, eqv_it, eqv_il, eqv_sn, eqv_sb, eqv_si, eqv_ss, eqv_st, eqv_sl, eqv_tn, eqv_tb, eqv_ti, eqv_ts, eqv_tl, eqv_ln, eqv_lb, eqv_li, eqv_ls, eqv_lt, q_par4, p4K1_ap, p4K2_ap, p4K3_ap, p4K4_ap, sqK_lz, implies_true, q_tupR, trK_ap, tdK_ap, q_comp2, c2K_ap, q_lzip, lzK_ap, lzK2_ap, wo_lzipT, q_mlen, lnK_mdl, lnK_tup, lnK_lst, lnK_own, lnK2_int, lnK3_ap, q_eqM, emK1_ap, emK2_mm, emK2_mt, emK2_int, emK2_tup, emK2_lst, emK2_own, emK3_bl, emK4_ap, q_rem, rmK1_ap, rmK2_ap, rmK3_ap, rmK4_ap, wo_isnot_own, wo_is_own, xsK_none, xsK_some, xiK_true, xiK_false, xiK_dec, xiK_ndec, x_throw, wo_sortedT, wo_sortedO, xtK_ap, x_nil, xfK_ap])
noncomputable def c_check_tables_k01 : S := sSeq (sIf (mOr (mNot (mT (mB (mIsa (mVarP 0) [.tuple])))) (mNot (mChain .le .le (mC (.int 1)) (mBn .len [mVarP 0]) (mC (.int 4))))) (sThrowF "InvalidTables" "index" (mFrz (mC .non))) sNil) (sSeq (sSet 1 (mIf (mT (mB (mIsa (mIdx (mVarP 0) (mC (.int 0))) [.tuple]))) (mBn .len [mIdx (mVarP 0) (mC (.int 0))]) (mC (.int 0)))) (sFor (.names [2, 3]) (.enum (mVarF 0)) (sIf (mOr (mNot (mChain .le .le (mC (.int 1)) (mVarP 1) (mC (.int 27)))) (mNot (mT (mCall 2 f_is_table [mFrz (mVarF 3), mFrz (mVarF 1)])))) (sThrowF "InvalidTables" "index" (mFrz (mVarF 2))) sNil)))
noncomputable def f_check_tables_k01 : SemF := runFn 4 c_check_tables_k01

noncomputable def c_init_k011 : S := sDrop (mCall 1 f_check_tables_k01 [mFrz (mVarF 1)])
noncomputable def c_init_k012 : S := sFor (.name 2) (.rng1 (mBn .len [mIdx (mVarP 1) (mC (.int 0))])) (sIf (mCmp .eq (mBn .max [mComp [3] (.name 3) (.seq (mVarP 1)) (mRet true) (mFrz (mIdx (mVarP 3) (mVarP 2)))]) (mC (.int 0))) (sThrowF "InvalidOutcome" "index" (mFrz (mVarF 2))) sNil)
noncomputable def c_init_k01 : S := sSeq c_init_k011 c_init_k012
noncomputable def f_init_k01 : SemF := runInit 4 c_init_k01

noncomputable def c_l_whole : S := sRet (mIf (mT (mB (mIsa (mVarP 0) [.int]))) (mIf (mT (mB (mNot (mT (mB (mIsa (mVarP 0) [.bool])))))) (mB (mChain .le .le (mC (.int 0)) (mVarP 0) (mBin .pow (mC (.int 10)) (mC (.int 6))))) (mC (.bl false))) (mC (.bl false)))
noncomputable def f_l_whole : SemF := runFn 1 c_l_whole

noncomputable def c_l_fault : S := sSeq (sIf (mOr (mNot (mT (mB (mIsa (mVarP 0) [.tuple])))) (mNot (mChain .le .le (mC (.int 1)) (mBn .len [mVarP 0]) (mC (.int 4))))) (sRet (mLst [mFrz (mC (.str "tables")), mFrz (mC .non)])) sNil) (sSeq (sSet 1 (mIf (mT (mB (mIsa (mIdx (mVarP 0) (mC (.int 0))) [.tuple]))) (mBn .len [mIdx (mVarP 0) (mC (.int 0))]) (mC (.int 0)))) (sSeq (sFor (.name 2) (.rng1 (mBn .len [mVarP 0])) (sSeq (sIf (mOr (mNot (mT (mB (mIsa (mIdx (mVarP 0) (mVarP 2)) [.tuple])))) (mOr (mCmp .ne (mBn .len [mIdx (mVarP 0) (mVarP 2)]) (mVarP 1)) (mNot (mChain .le .le (mC (.int 1)) (mVarP 1) (mC (.int 27)))))) (sRet (mLst [mFrz (mC (.str "tables")), mFrz (mVarF 2)])) sNil) (sIf (mOr (mCmp .ne (mComp [5] (.name 5) (.seq (mIdx (mVarP 0) (mVarP 2))) (mNot (mT (mCall 1 f_l_whole [mFrz (mVarF 5)]))) (mFrz (mVarF 5))) (mLst [])) (mCmp .eq (mBn .sum [mIdx (mVarP 0) (mVarP 2)]) (mC (.int 0)))) (sRet (mLst [mFrz (mC (.str "tables")), mFrz (mVarF 2)])) sNil))) (sSeq (sSet 3 (mComp [4] (.name 4) (.rng1 (mVarP 1)) (mCmp .eq (mComp [6] (.name 6) (.seq (mVarP 0)) (mCmp .gt (mIdx (mVarP 6) (mVarP 4)) (mC (.int 0))) (mFrz (mVarF 6))) (mLst [])) (mFrz (mVarF 4)))) (sRet (mIf (mCmp .ne (mVarP 3) (mLst [])) (mLst [mFrz (mC (.str "outcome")), mFrz (mIdx (mVarP 3) (mC (.int 0)))]) (mC .non))))))
noncomputable def f_l_fault : SemF := runFn 7 c_l_fault

noncomputable def c_l_tried_k01 : S := sSeq (sSet 1 (mC .non)) (sSeq (sTryN (sSet 1 (mMake f_init_k01 (mFrz (mVarF 0)))) ["Model", "InvalidOutcome", "InvalidTables", "LossError"] [⟨"InvalidTables", 2, fun x => (if subX x.c "LossError" then ((some (.str "tables")).bind fun d0 => ((x.fs.lookup ("index" : Str)).bind fun d1 => (some []).map fun s1 => d1 :: s1).map fun s0 => d0 :: s0).map .lst else some (.lst [])).bind fun e0 => (some []).map fun p0 => (1, e0) :: p0⟩, ⟨"InvalidOutcome", 2, fun x => (if subX x.c "LossError" then ((some (.str "outcome")).bind fun d0 => ((x.fs.lookup ("index" : Str)).bind fun d1 => (some []).map fun s1 => d1 :: s1).map fun s0 => d0 :: s0).map .lst else some (.lst [])).bind fun e0 => (some []).map fun p0 => (1, e0) :: p0⟩]) (sRet (mVarR 1)))
noncomputable def f_l_tried_k01 : SemF := runFn 3 c_l_tried_k01

/-- what a row of tables may hold here -/
inductive Atom : D → Prop
  | int (x : Int) : Atom (.int x)
  | bl (b : Bool) : Atom (.bl b)
  | one : Atom (.str "1")
def atOk : D → Bool
  | .int x => decide (0 ≤ x ∧ x ≤ 1000000)
  | _ => false
def atPos : D → Bool
  | .int x => decide (0 < x)
  | _ => false
def rowOk (m : Nat) : D → Bool
  | .tup ds => decide (ds.length = m) && ds.all atOk && ds.any atPos
  | _ => false
inductive Odd : D → Prop
  | tup {ds : List D} (h : ∀ d ∈ ds, Atom d) (hl : ds.length ≤ 100) : Odd (.tup ds)
  | non : Odd .non
  | one : Odd (.int 1)
  | lst {r : List Int} (hl : r.length ≤ 100) : Odd (.lst (r.map D.int))
theorem f_integer_any {d : D} {lo hi : Int} {g : Rng} (h : Atom d) : f_is_integer [d, .int lo, .int hi] g = .ok (.dat (.bl (match d with | .int x => decide (lo ≤ x ∧ x ≤ hi) | _ => false))) g := by
  cases h with
  | int x => exact f_is_integer_ok
  | bl b =>
    refine run_is (by simp) ?_
    unfold c_is_integer
    trivial
  | one =>
    refine run_is (by simp) ?_
    unfold c_is_integer
    trivial
theorem f_whole_any {d : D} {g : Rng} (h : Atom d) : f_l_whole [d] g = .ok (.dat (.bl (atOk d))) g := by
  refine run_is (by simp) ?_
  unfold c_l_whole
  cases h with
  | int x =>
    trivial
    unfold atOk
    constructor
    · intro h
      by_cases h2 : x ≤ 1000000 <;> simp [h, h2]
    · intro h
      simp [h]
  | bl b =>
    trivial
    rfl
  | one =>
    trivial
    rfl
theorem atoms_ints : ∀ {ds : List D}, ds.all atOk = true → ∃ r : List Int, ds = r.map D.int ∧ ∀ x ∈ r, 0 ≤ x ∧ x ≤ 1000000
  | [], _ => ⟨[], rfl, by simp⟩
  | d :: ds, h => by
    rw [List.all_cons, Bool.and_eq_true] at h
    obtain ⟨r, e, hr⟩ := atoms_ints h.2
    cases d with
    | int x =>
      refine ⟨x :: r, by rw [e]; rfl, fun y hy => ?_⟩
      rcases List.mem_cons.mp hy with rfl | hy
      · exact of_decide_eq_true h.1
      · exact hr y hy
    | _ => cases h.1
theorem any_pos {r : List Int} : (r.map D.int).any atPos = r.any (fun x => decide (0 < x)) := by rw [List.any_map]; rfl
theorem f_integer_any0 {d : D} {g : Rng} (h : Atom d) : f_is_integer [d, .int 0, .int 1000000] g = .ok (.dat (.bl (atOk d))) g := by
  rw [f_integer_any h]
  cases h <;> rfl
theorem f_table_any {d : D} {m : Nat} {g : Rng} (h : Odd d) (h1 : 1 ≤ m) : f_is_table [d, .int (m : Nat)] g = .ok (.dat (.bl (rowOk m d))) g := by
  refine run_is (by simp) ?_
  unfold c_is_table
  cases h with
  | non =>
    trivial
    rfl
  | one =>
    trivial
    rfl
  | lst hl =>
    trivial
    rfl
  | @tup ds h hl =>
    trivial
    unfold rowOk
    refine ⟨fun hm => ?_, fun hm => ?_⟩
    · have e1 : ds.map (fun d : D => d) = ds := by simp
      rw [← e1]
      refine wp_clAll (fun d => .bl (atOk d)) ds (by show ds.length ≤ 100000; omega) (fun d hd => ?_) ?_
      · trivial
        refine wf_of (f_integer_any0 (h d hd)) ?_
        trivial
      · rw [e1]
        trivial
        rw [decide_eq_true (show ds.length = m by omega), Bool.true_and]
        cases hall : ds.all atOk with
        | false => trivial
        | true =>
          obtain ⟨r, rfl, hr⟩ := atoms_ints hall
          rw [List.length_map] at hm
          have hne : r ≠ [] := by
            rintro rfl
            simp at hm
            omega
          trivial
          refine opMax_of hne ?_
          trivial
          rw [any_pos]
          refine congrArg (fun b => SV.dat (D.bl b)) ?_
          rw [Bool.eq_iff_iff, decide_eq_true_iff, maxL_pos hne]
          simp [List.any_eq_true]
    · rw [show (match D.tup ds with | D.tup ds => decide (ds.length = m) && ds.all atOk && ds.any atPos | x => false) = (decide (ds.length = m) && ds.all atOk && ds.any atPos) from rfl, decide_eq_false (show ¬ ds.length = m by omega)]
      rfl
/-! ### the faults -/
def manyOf : List D → Nat
  | .tup ds :: _ => ds.length
  | _ => 0
def rowBad (m : Nat) (d : D) : Bool := !(decide (1 ≤ m ∧ m ≤ 27) && rowOk m d)
def badRow (items : List D) : Option Nat := items.findIdx? (rowBad (manyOf items))
theorem bad_at {items : List D} {done : List D} {x : D} {rest : List D} (h : items = done ++ x :: rest) (hd : ∀ d ∈ done, rowBad (manyOf items) d = false) (hx : rowBad (manyOf items) x = true) : badRow items = some done.length := by
  unfold badRow
  generalize manyOf items = m at hd hx
  subst h
  rw [List.findIdx?_append, List.findIdx?_eq_none_iff.mpr (fun d q => hd d q), List.findIdx?_cons, hx]
  simp
theorem many_wp {items : List D} {rest : Env} {g : Rng} {Q : SV → Env → Rng → Prop} (ho : ∀ d ∈ items, Odd d) (h1 : 1 ≤ items.length) (hq : Q (.dat (.int (manyOf items : Nat))) (some (.dat (.tup items)) :: rest) g) :
    Wp (mIf (mT (mB (mIsa (mIdx (mVarP 0) (mC (.int 0))) [.tuple]))) (mBn .len [mIdx (mVarP 0) (mC (.int 0))]) (mC (.int 0)) (some (.dat (.tup items)) :: rest) g) Q := by
  cases items with
  | nil => simp at h1
  | cons d items =>
    have hd := ho d List.mem_cons_self
    have h0 : (d :: items)[0]? = some d := rfl
    trivial
    cases hd with
    | non =>
      trivial
      exact hq
    | one =>
      trivial
      exact hq
    | lst hl =>
      trivial
      exact hq
    | @tup ds h hl =>
      trivial
      exact hq
theorem zip_split {items : List D} {done rest : List (D × Nat)} {x : D × Nat} (h : items.zipIdx = done ++ x :: rest) : items = done.map (·.1) ++ x.1 :: rest.map (·.1) ∧ x.2 = done.length ∧ x.1 ∈ items := by
  have h1 : items = items.zipIdx.map (·.1) := by simp
  have h2 : items.zipIdx[done.length]? = some x := by rw [h]; simp
  have h3 : items = done.map (·.1) ++ x.1 :: rest.map (·.1) := by
    rw [h] at h1
    simpa using h1
  refine ⟨h3, ?_, by rw [h3]; simp⟩
  rw [List.getElem?_zipIdx] at h2
  cases q : items[done.length]? with
  | none => rw [q] at h2; cases h2
  | some d => rw [q] at h2; cases h2; simp
theorem bad_wp {m : Nat} {d : D} {a0 a2 : Option SV} {g : Rng} {QB : Bool → Env → Rng → Prop} (hd : Odd d) (hq : QB (rowBad m d) [a0, some (.dat (.int (m : Nat))), a2, some (.dat d)] g) :
    Wp (mOr (mNot (mChain .le .le (mC (.int 1)) (mVarP 1) (mC (.int 27)))) (mNot (mT (mCall 2 f_is_table [mFrz (mVarF 3), mFrz (mVarF 1)]))) [a0, some (.dat (.int (m : Nat))), a2, some (.dat d)] g) QB := by
  unfold rowBad at hq
  trivial
  refine ⟨fun h1 => ⟨fun h2 => ?_, fun h2 => ?_⟩, fun h1 => ?_⟩
  · refine wf_of (f_table_any hd (by omega)) ?_
    rw [decide_eq_true (show 1 ≤ m ∧ m ≤ 27 by omega), Bool.true_and] at hq
    trivial
    exact hq
  · rw [decide_eq_false (show ¬ (1 ≤ m ∧ m ≤ 27) by omega), Bool.false_and] at hq
    exact hq
  · rw [decide_eq_false (show ¬ (1 ≤ m ∧ m ≤ 27) by omega), Bool.false_and] at hq
    exact hq
theorem f_check_bad {items : List D} {k : Nat} {g : Rng} (ho : ∀ d ∈ items, Odd d) (h1 : 1 ≤ items.length) (h4 : items.length ≤ 4) (hb : badRow items = some k) : f_check_tables_k01 [.tup items] g = .exc ⟨"InvalidTables", [("index", .int (k : Nat))]⟩ g := by
  refine run_x (by simp) ?_
  unfold c_check_tables_k01
  refine x_seqW ?_
  trivial
  refine ⟨fun _ => ⟨fun _ => ?_, fun h => absurd (by omega) h⟩, fun h => absurd (by omega) h⟩
  refine x_seqW ?_
  rw [q_set]
  refine many_wp ho h1 ?_
  obtain ⟨m, hm⟩ : ∃ m, m = manyOf items := ⟨_, rfl⟩
  rw [← hm]
  trivial
  refine x_for ?_
  have e1 : items.map (fun d : D => d) = items := by simp
  rw [← e1]
  trivial
  rw [enumD_map0]
  refine x_go (fun done e g' => g' = g ∧ (∀ p ∈ done, rowBad m p.1 = false) ∧ ∃ v w : Option D, e = [some (.dat (.tup (items.map fun d => d))), some (.dat (.int (m : Nat))), v.map .dat, w.map .dat]) _ ⟨rfl, by simp, none, none, rfl⟩ ?_ ?_
  · rintro done x rest e g' hx ⟨rfl, hd, v, w, rfl⟩
    obtain ⟨z1, z2, z3⟩ := zip_split hx
    trivial
    refine x_ifW (bad_wp (ho _ z3) ?_)
    cases hbx : rowBad m x.1 with
    | true =>
      rw [xiK_true]
      refine x_throwF ?_
      trivial
      have := bad_at (items := items) z1 (fun d hdm => by
        obtain ⟨p, hp, rfl⟩ := List.mem_map.mp hdm
        rw [← hm]
        exact hd p hp) (by rw [← hm]; exact hbx)
      rw [hb, List.length_map, ← z2] at this
      cases this
      rfl
    | false =>
      rw [xiK_false]
      trivial
      refine ⟨fun p hp => ?_, some (.int x.2), some x.1, rfl⟩
      rcases List.mem_append.mp hp with hp | hp
      · exact hd p hp
      · rw [List.mem_singleton] at hp
        subst hp
        exact hbx
  · rintro e g' ⟨rfl, hd, v, w, rfl⟩
    have : badRow items = none := by
      unfold badRow
      rw [List.findIdx?_eq_none_iff]
      intro d hdm
      obtain ⟨i, hi⟩ := List.getElem?_of_mem hdm
      rw [← hm]
      exact hd (d, i) (List.mem_of_getElem? (i := i) (by rw [List.getElem?_zipIdx, hi]; simp))
    rw [this] at hb
    cases hb
theorem f_check_good {items : List D} {g : Rng} (ho : ∀ d ∈ items, Odd d) (h1 : 1 ≤ items.length) (h4 : items.length ≤ 4) (hb : badRow items = none) : f_check_tables_k01 [.tup items] g = .ok (.dat .non) g := by
  refine run_o (by simp) ?_
  unfold c_check_tables_k01
  refine x_seqW ?_
  trivial
  refine ⟨fun _ => ⟨fun _ => ?_, fun h => absurd (by omega) h⟩, fun h => absurd (by omega) h⟩
  refine x_seqW ?_
  rw [q_set]
  refine many_wp ho h1 ?_
  unfold badRow at hb
  obtain ⟨m, hm⟩ : ∃ m, m = manyOf items := ⟨_, rfl⟩
  rw [← hm] at hb ⊢
  rw [List.findIdx?_eq_none_iff] at hb
  trivial
  refine x_for ?_
  have e1 : items.map (fun d : D => d) = items := by simp
  rw [← e1]
  trivial
  rw [enumD_map0]
  refine x_go (fun done e g' => g' = g ∧ ∃ v w : Option D, e = [some (.dat (.tup (items.map fun d => d))), some (.dat (.int (m : Nat))), v.map .dat, w.map .dat]) _ ⟨rfl, none, none, rfl⟩ ?_ ?_
  · rintro done x rest e g' hx ⟨rfl, v, w, rfl⟩
    obtain ⟨z1, z2, z3⟩ := zip_split hx
    trivial
    refine x_ifW (bad_wp (ho _ z3) ?_)
    rw [hb _ z3, xiK_false]
    trivial
    exact ⟨some (.int x.2), some x.1, rfl⟩
  · rintro e g' ⟨rfl, v, w, rfl⟩
    trivial
theorem f_check_none {d : D} {g : Rng} (h : ∀ items, d = .tup items → ¬ (1 ≤ items.length ∧ items.length ≤ 4)) (ho : (∃ items, d = .tup items) ∨ d = .non ∨ ∃ ds, d = .lst ds) : f_check_tables_k01 [d] g = .exc ⟨"InvalidTables", [("index", .non)]⟩ g := by
  refine run_x (by simp) ?_
  unfold c_check_tables_k01
  refine x_ifTest ?_
  rcases ho with ⟨items, rfl⟩ | rfl | ⟨ds, rfl⟩
  · have h0 := h items rfl
    trivial
    refine ⟨fun h1 => ⟨fun h2 => absurd ⟨by omega, by omega⟩ h0, fun h2 => ?_⟩, fun h1 => ?_⟩
    · refine x_throwF ?_
      trivial
    · refine x_throwF ?_
      trivial
  · trivial
    refine x_throwF ?_
    trivial
  · trivial
    refine x_throwF ?_
    trivial
/-! ### tables that may be a model's -/
structure Fair (rows : List (List Int)) (n : Nat) : Prop where
  m1 : 1 ≤ rows.length
  m4 : rows.length ≤ 4
  n1 : 1 ≤ n
  n27 : n ≤ 27
  len : ∀ r ∈ rows, r.length = n
  lo : ∀ r ∈ rows, ∀ x ∈ r, 0 ≤ x
  hi : ∀ r ∈ rows, ∀ x ∈ r, x ≤ 1000000
  pos : ∀ r ∈ rows, ∃ x ∈ r, 0 < x
theorem rowOk_at {m : Nat} {d : D} (h : rowOk m d = true) : ∃ r : List Int, d = dTi r ∧ r.length = m ∧ (∀ x ∈ r, 0 ≤ x ∧ x ≤ 1000000) ∧ ∃ x ∈ r, 0 < x := by
  cases d with
  | tup ds =>
    unfold rowOk at h
    simp only [Bool.and_eq_true, decide_eq_true_eq] at h
    obtain ⟨⟨h1, h2⟩, h3⟩ := h
    obtain ⟨r, rfl, hr⟩ := atoms_ints h2
    rw [any_pos, List.any_eq_true] at h3
    obtain ⟨x, hx, h4⟩ := h3
    exact ⟨r, rfl, by simpa using h1, hr, x, hx, of_decide_eq_true h4⟩
  | _ => cases h
theorem rowsK_at {m : Nat} : ∀ {items : List D}, (∀ d ∈ items, rowOk m d = true) → ∃ rows : List (List Int), items = rows.map dTi ∧ ∀ r ∈ rows, r.length = m ∧ (∀ x ∈ r, 0 ≤ x ∧ x ≤ 1000000) ∧ ∃ x ∈ r, 0 < x
  | [], _ => ⟨[], rfl, by simp⟩
  | d :: items, h => by
    obtain ⟨rows, e, hr⟩ := rowsK_at (items := items) fun d hd => h d (List.mem_cons_of_mem _ hd)
    obtain ⟨r, e1, h1, h2, h3⟩ := rowOk_at (h d List.mem_cons_self)
    refine ⟨r :: rows, by rw [e, e1]; rfl, fun r' hr' => ?_⟩
    rcases List.mem_cons.mp hr' with rfl | hr'
    · exact ⟨h1, h2, h3⟩
    · exact hr r' hr'
theorem fair_of {items : List D} (h1 : 1 ≤ items.length) (h4 : items.length ≤ 4) (hb : badRow items = none) : ∃ rows n, items = rows.map dTi ∧ Fair rows n := by
  unfold badRow at hb
  rw [List.findIdx?_eq_none_iff] at hb
  obtain ⟨m, hm⟩ : ∃ m, m = manyOf items := ⟨_, rfl⟩
  rw [← hm] at hb
  have hk : ∀ d ∈ items, (1 ≤ m ∧ m ≤ 27) ∧ rowOk m d = true := fun d hd => by
    have := hb d hd
    unfold rowBad at this
    simpa using this
  obtain ⟨rows, rfl, hr⟩ := rowsK_at (items := items) fun d hd => (hk d hd).2
  rw [List.length_map] at h1 h4
  obtain ⟨d, hd⟩ : ∃ d, d ∈ rows.map dTi := by
    cases rows with
    | nil => simp at h1
    | cons r rows => exact ⟨dTi r, by simp⟩
  have hm2 := (hk d hd).1
  exact ⟨rows, m, rfl, h1, h4, hm2.1, hm2.2, fun r h => (hr r h).1, fun r h x hx => ((hr r h).2.1 x hx).1, fun r h x hx => ((hr r h).2.1 x hx).2, fun r h => (hr r h).2.2⟩
section
variable {rows : List (List Int)} {n : Nat} {g : Rng}
theorem Fair.odd (F : Fair rows n) : ∀ d ∈ rows.map dTi, Odd d := fun d hd => by
  obtain ⟨r, hr, rfl⟩ := List.mem_map.mp hd
  refine .tup (fun d hd => ?_) (by rw [List.length_map, F.len r hr]; have := F.n27; omega)
  obtain ⟨x, _, rfl⟩ := List.mem_map.mp hd
  exact .int x
theorem Fair.many (F : Fair rows n) : manyOf (rows.map dTi) = n := by
  have h := F.m1
  cases rows with
  | nil => simp at h
  | cons r rows =>
    have := F.len r List.mem_cons_self
    show (r.map D.int).length = n
    rw [List.length_map]; exact this
theorem Fair.bad (F : Fair rows n) : badRow (rows.map dTi) = none := by
  unfold badRow
  rw [List.findIdx?_eq_none_iff, F.many]
  intro d hd
  obtain ⟨r, hr, rfl⟩ := List.mem_map.mp hd
  unfold rowBad
  have h1 : rowOk n (dTi r) = true := by
    unfold rowOk
    simp only [Bool.and_eq_true, decide_eq_true_eq]
    refine ⟨⟨by rw [List.length_map, F.len r hr], ?_⟩, ?_⟩
    · rw [List.all_eq_true]
      intro d hd
      obtain ⟨x, hx, rfl⟩ := List.mem_map.mp hd
      exact decide_eq_true ⟨F.lo r hr x hx, F.hi r hr x hx⟩
    · rw [any_pos, List.any_eq_true]
      obtain ⟨x, hx, h⟩ := F.pos r hr
      exact ⟨x, hx, decide_eq_true h⟩
  rw [h1, decide_eq_true ⟨F.n1, F.n27⟩]
  rfl
/-- an outcome that never comes -/
def nev (rows : List (List Int)) (j : Nat) : Bool := !(rows.any fun r => decide (0 < r.getD j 0))
def firstNev (rows : List (List Int)) (n : Nat) : Option Nat := (List.range n).find? (nev rows)
theorem Fair.good (F : Fair rows n) (h : firstNev rows n = none) : Good rows n := by
  refine ⟨F.m1, F.m4, F.n1, F.n27, F.len, F.lo, F.hi, F.pos, fun j hj => ?_⟩
  unfold firstNev at h
  rw [List.find?_eq_none] at h
  have := h j (List.mem_range.mpr hj)
  unfold nev at this
  rw [Bool.not_eq_true', Bool.not_eq_false, List.any_eq_true] at this
  obtain ⟨r, hr, h⟩ := this
  exact ⟨r, hr, of_decide_eq_true h⟩
theorem Good.fair (G : Good rows n) : Fair rows n := ⟨G.m1, G.m4, G.n1, G.n27, G.len, G.lo, G.hi, G.pos⟩
theorem Good.nev (G : Good rows n) : firstNev rows n = none := by
  unfold firstNev
  rw [List.find?_eq_none]
  intro j hj
  obtain ⟨r, hr, h⟩ := G.col j (List.mem_range.mp hj)
  unfold PV.nev
  rw [Bool.not_eq_true', Bool.not_eq_false, List.any_eq_true]
  exact ⟨r, hr, decide_eq_true h⟩
theorem max_nev (F : Fair rows n) {j : Nat} : (maxL (rows.map fun r => r.getD j 0) = 0) ↔ nev rows j = true := by
  have hne : (rows.map fun r => r.getD j 0) ≠ [] := by
    intro z
    have := F.m1
    rw [List.map_eq_nil_iff] at z
    rw [z] at this
    simp at this
  have hp := maxL_pos hne
  have h0 : 0 ≤ maxL (rows.map fun r => r.getD j 0) := by
    obtain ⟨r, hr, e⟩ := List.mem_map.mp (maxL_mem hne)
    rw [← e]
    by_cases hj : j < r.length
    · exact F.lo r hr _ (getD_mem hj)
    · rw [List.getD_eq_getElem?_getD, List.getElem?_eq_none (by omega)]
      exact Int.le_refl _
  unfold nev
  rw [Bool.not_eq_true', ← Bool.not_eq_true, List.any_eq_true]
  constructor
  · rintro h ⟨r, hr, h2⟩
    have := hp.mpr ⟨_, List.mem_map_of_mem hr, of_decide_eq_true h2⟩
    omega
  · intro h
    refine Int.le_antisymm (Int.not_lt.mp fun hlt => ?_) h0
    obtain ⟨x, hx, h2⟩ := hp.mp hlt
    obtain ⟨r, hr, rfl⟩ := List.mem_map.mp hx
    exact h ⟨r, hr, decide_eq_true h2⟩
theorem nev_wp (F : Fair rows n) {j : Nat} (hj : j < n) {a0 : Option SV} {QB : Bool → Env → Rng → Prop} (hq : QB (nev rows j) [a0, some (.dat (dTab rows)), some (.dat (.int (j : Nat))), none] g) :
    Wp (mCmp .eq (mBn .max [mComp [3] (.name 3) (.seq (mVarP 1)) (mRet true) (mFrz (mIdx (mVarP 3) (mVarP 2)))]) (mC (.int 0)) [a0, some (.dat (dTab rows)), some (.dat (.int (j : Nat))), none] g) QB := by
  have m4 := F.m4
  trivial
  refine wp_clAll (fun r => .int (r.getD j 0)) rows (by show rows.length ≤ 100000; omega) (fun r hr => ?_) ?_
  · trivial
    refine ix_use (getD_at (by rw [F.len r hr]; exact hj)) ?_
    trivial
  · trivial
    have hne : (rows.map fun r => r.getD j 0) ≠ [] := by
      intro z
      have := F.m1
      rw [List.map_eq_nil_iff] at z
      rw [z] at this
      simp at this
    refine opMax_of hne ?_
    trivial
    rw [show decide (maxL (rows.map fun r => r.getD j 0) = 0) = nev rows j from by
      rw [Bool.eq_iff_iff, decide_eq_true_iff]
      exact max_nev F]
    exact hq
theorem f_init_nev (F : Fair rows n) {j : Nat} (h : firstNev rows n = some j) : f_init_k01 [dTab rows] g = .exc ⟨"InvalidOutcome", [("index", .int (j : Nat))]⟩ g := by
  refine runI_x ?_
  unfold c_init_k01 c_init_k011 c_init_k012
  refine x_seq (x_callDrop ?_)
  trivial
  refine xd_ok (f_check_good F.odd (by rw [List.length_map]; exact F.m1) (by rw [List.length_map]; exact F.m4) F.bad) rfl ?_
  rw [xsK_none]
  refine x_for ?_
  obtain ⟨r0, h0, hl0⟩ : ∃ r0, rows[0]? = some r0 ∧ r0.length = n := by
    have := F.m1
    exact ⟨rows[0], List.getElem?_eq_getElem this, F.len _ (List.getElem_mem this)⟩
  have hn27 := F.n27
  trivial
  refine ix_useI rfl h0 ?_
  trivial
  rw [hl0]
  refine ⟨by omega, ?_⟩
  unfold firstNev at h
  refine x_go (fun done e g' => g' = g ∧ (∀ i ∈ done, nev rows i = false) ∧ ∃ v : Option D, e = [some (.dat (.fn "self")), some (.dat (dTab rows)), v.map .dat, none]) _ ⟨rfl, by simp, none, rfl⟩ ?_ ?_
  · rintro done i rest e g' hx ⟨rfl, hd, v, rfl⟩
    obtain ⟨i1, i2⟩ := range_split hx
    trivial
    refine x_ifW (nev_wp F i2 ?_)
    cases hv : nev rows i with
    | true =>
      rw [xiK_true]
      refine x_throwF ?_
      trivial
      rw [hx, List.find?_append, List.find?_eq_none.mpr (fun y hy => by rw [hd y hy]; decide), List.find?_cons, hv] at h
      cases h
      rfl
    | false =>
      rw [xiK_false]
      trivial
      refine ⟨fun y hy => ?_, some (.int i), rfl⟩
      rcases List.mem_append.mp hy with hy | hy
      · exact hd y hy
      · rw [List.mem_singleton] at hy
        subst hy
        exact hv
  · rintro e g' ⟨rfl, hd, v, rfl⟩
    rw [List.find?_eq_none.mpr (fun y hy => by rw [hd y hy]; decide)] at h
    cases h
theorem f_init_good (G : Good rows n) : f_init_k01 [dTab rows] g = .ok (.dat (dTab rows)) g := by
  have F := G.fair
  refine runI_is (w_of ?_)
  unfold c_init_k01 c_init_k011 c_init_k012
  refine x_seq (x_callDrop ?_)
  trivial
  refine xd_ok (f_check_good F.odd (by rw [List.length_map]; exact F.m1) (by rw [List.length_map]; exact F.m4) F.bad) rfl ?_
  rw [xsK_none]
  refine x_for ?_
  obtain ⟨r0, h0, hl0⟩ : ∃ r0, rows[0]? = some r0 ∧ r0.length = n := by
    have := F.m1
    exact ⟨rows[0], List.getElem?_eq_getElem this, F.len _ (List.getElem_mem this)⟩
  have hn27 := F.n27
  trivial
  refine ix_useI rfl h0 ?_
  trivial
  rw [hl0]
  refine ⟨by omega, ?_⟩
  have h := G.nev
  unfold firstNev at h
  rw [List.find?_eq_none] at h
  refine x_go (fun done e g' => g' = g ∧ ∃ v : Option D, e = [some (.dat (.fn "self")), some (.dat (dTab rows)), v.map .dat, none]) _ ⟨rfl, none, rfl⟩ ?_ ?_
  · rintro done i rest e g' hx ⟨rfl, v, rfl⟩
    obtain ⟨i1, i2⟩ := range_split hx
    trivial
    refine x_ifW (nev_wp F i2 ?_)
    rw [show nev rows i = false from by simpa using h i (List.mem_range.mpr i2), xiK_false]
    trivial
    exact ⟨some (.int i), rfl⟩
  · rintro e g' ⟨rfl, v, rfl⟩
    trivial
/-! ### the law's fault -/
theorem Atom.fine {d : D} {k : Nat} (h : Atom d) : d.fine k = true := by
  cases h with
  | int x => cases k <;> rfl
  | bl b => cases k <;> rfl
  | one => cases k <;> (unfold D.fine; decide +kernel)
theorem body_wp {items : List D} {m k : Nat} {d : D} {g : Rng} {Q : Option SV → Env → Rng → Prop} (hk : items[k]? = some d) (ho : Odd d)
    (h1 : rowBad m d = true → Q (some (.own [.str "tables", .int (k : Nat)])) [some (.dat (.tup items)), some (.dat (.int (m : Nat))), some (.dat (.int (k : Nat))), none, none, none, none] g)
    (h2 : rowBad m d = false → Q none [some (.dat (.tup items)), some (.dat (.int (m : Nat))), some (.dat (.int (k : Nat))), none, none, none, none] g) :
    Wp (sSeq (sIf (mOr (mNot (mT (mB (mIsa (mIdx (mVarP 0) (mVarP 2)) [.tuple])))) (mOr (mCmp .ne (mBn .len [mIdx (mVarP 0) (mVarP 2)]) (mVarP 1)) (mNot (mChain .le .le (mC (.int 1)) (mVarP 1) (mC (.int 27)))))) (sRet (mLst [mFrz (mC (.str "tables")), mFrz (mVarF 2)])) sNil)
      (sIf (mOr (mCmp .ne (mComp [5] (.name 5) (.seq (mIdx (mVarP 0) (mVarP 2))) (mNot (mT (mCall 1 f_l_whole [mFrz (mVarF 5)]))) (mFrz (mVarF 5))) (mLst [])) (mCmp .eq (mBn .sum [mIdx (mVarP 0) (mVarP 2)]) (mC (.int 0)))) (sRet (mLst [mFrz (mC (.str "tables")), mFrz (mVarF 2)])) sNil)
      [some (.dat (.tup items)), some (.dat (.int (m : Nat))), some (.dat (.int (k : Nat))), none, none, none, none] g) Q := by
  unfold rowBad at h1 h2
  trivial
  refine ix_use hk ?_
  cases ho with
  | non =>
    trivial
    exact h1 (by simp [rowOk])
  | one =>
    trivial
    exact h1 (by simp [rowOk])
  | lst hl =>
    trivial
    exact h1 (by simp [rowOk])
  | @tup ds hds hl =>
    trivial
    refine ix_use hk ?_
    trivial
    refine ⟨fun hm => ⟨fun q1 => ⟨fun q2 => ?_, fun q2 => h1 (by simp [show ¬ (m ≤ 27) by omega])⟩, fun q1 => h1 (by simp [show ¬ (1 ≤ m) by omega])⟩, fun hm => h1 (by simp [rowOk, show ¬ ds.length = m by omega])⟩
    refine ix_use hk ?_
    trivial
    have e1 : ds.map (fun d : D => d) = ds := by simp
    rw [← e1]
    refine wp_clMap (fun d => !atOk d) (fun d => d) ds (by show ds.length ≤ 100000; omega) (fun d hd => ?_) ?_
    · trivial
      refine wf_of (f_whole_any (hds d hd)) ?_
      trivial
    · trivial
      refine ⟨⟨?_, rfl⟩, ?_⟩
      · show (List.map (fun d => d) (List.filter (fun d => !atOk d) ds)).all (D.fine 59) = true
        rw [List.all_eq_true]
        intro d hd
        obtain ⟨d', hd', rfl⟩ := List.mem_map.mp hd
        exact (hds d' (List.mem_filter.mp hd').1).fine
      · cases hall : ds.all atOk with
        | false =>
          obtain ⟨d, hd, hx⟩ := List.all_eq_false.mp hall
          have hx : atOk d = false := by simpa using hx
          have hmem : d ∈ List.map (fun d => d) (List.filter (fun d => !atOk d) ds) := by simp [hd, hx]
          obtain ⟨y, ys, e2⟩ : ∃ y ys, List.map (fun d => d) (List.filter (fun d => !atOk d) ds) = y :: ys := by
            cases q : List.map (fun d => d) (List.filter (fun d => !atOk d) ds) with
            | nil => rw [q] at hmem; cases hmem
            | cons y ys => exact ⟨y, ys, rfl⟩
          rw [e2, show D.eqv (.lst (y :: ys)) (.lst []) = false from rfl]
          trivial
          exact h1 (by simp [rowOk, hall])
        | true =>
          have e2 : List.map (fun d => d) (List.filter (fun d => !atOk d) ds) = [] := by
            rw [List.map_eq_nil_iff, List.filter_eq_nil_iff]
            intro d hd
            simp [List.all_eq_true.mp hall d hd]
          rw [e2, show D.eqv (.lst []) (.lst []) = true from rfl]
          obtain ⟨r, rfl, hr⟩ := atoms_ints hall
          rw [List.length_map] at hm
          trivial
          refine ix_use hk ?_
          trivial
          have lo : ∀ x ∈ r, 0 ≤ x := fun x hx => (hr x hx).1
          have hpos : (r.map D.int).any atPos = !decide (r.sum = 0) := by
            rw [any_pos, Bool.eq_iff_iff, List.any_eq_true, Bool.not_eq_true', decide_eq_false_iff_not]
            constructor
            · rintro ⟨x, hx, h⟩ hz
              have := sum_zero_of lo hz x hx
              have h := of_decide_eq_true h
              omega
            · intro h
              obtain ⟨x, hx, h⟩ := (sum_pos_of lo).1 h
              exact ⟨x, hx, decide_eq_true h⟩
          have hro : rowOk m (.tup (r.map D.int)) = !decide (r.sum = 0) := by
            show (decide ((r.map D.int).length = m) && (r.map D.int).all atOk && (r.map D.int).any atPos) = _
            rw [List.length_map, hall, hpos, decide_eq_true (show r.length = m by omega)]
            rfl
          rw [hro, decide_eq_true (show 1 ≤ m ∧ m ≤ 27 by omega), Bool.true_and, Bool.not_not] at h1 h2
          refine ⟨fun hz => h1 (decide_eq_true hz), fun hz => h2 (decide_eq_false hz)⟩
theorem f_fault_none {d : D} (h : ∀ items, d = .tup items → ¬ (1 ≤ items.length ∧ items.length ≤ 4)) (ho : (∃ items, d = .tup items) ∨ d = .non ∨ ∃ ds, d = .lst ds) : f_l_fault [d] g = .ok (.own [.str "tables", .non]) g := by
  refine run_is (by simp) ?_
  unfold c_l_fault
  rcases ho with ⟨items, rfl⟩ | rfl | ⟨ds, rfl⟩
  · have h0 := h items rfl
    trivial
    exact fun h1 h2 => absurd ⟨by omega, by omega⟩ h0
  · trivial
  · trivial
theorem f_fault_bad {items : List D} {k : Nat} (ho : ∀ d ∈ items, Odd d) (h1 : 1 ≤ items.length) (h4 : items.length ≤ 4) (hb : badRow items = some k) : f_l_fault [.tup items] g = .ok (.own [.str "tables", .int (k : Nat)]) g := by
  refine run_o (by simp) ?_
  unfold c_l_fault
  refine x_seqW ?_
  trivial
  refine ⟨fun _ => ⟨fun _ => ?_, fun h => absurd (by omega) h⟩, fun h => absurd (by omega) h⟩
  refine x_seqW ?_
  rw [q_set]
  refine many_wp ho h1 ?_
  obtain ⟨m, hm⟩ : ∃ m, m = manyOf items := ⟨_, rfl⟩
  rw [← hm]
  trivial
  refine x_seq (x_for ?_)
  trivial
  refine ⟨by omega, ?_⟩
  refine x_go (fun done e g' => g' = g ∧ (∀ i ∈ done, ∀ d, items[i]? = some d → rowBad m d = false) ∧ ∃ v : Option D, e = [some (.dat (.tup items)), some (.dat (.int (m : Nat))), v.map .dat, none, none, none, none]) _ ⟨rfl, by simp, none, rfl⟩ ?_ ?_
  · rintro done i rest e g' hx ⟨rfl, hd, v, rfl⟩
    obtain ⟨i1, i2⟩ := range_split hx
    have hi : items[i]? = some items[i] := List.getElem?_eq_getElem i2
    trivial
    refine x_of (body_wp hi (ho _ (List.getElem_mem i2)) (fun hbx => ?_) (fun hbx => ?_))
    · have := bad_at (items := items) (done := items.take i) (x := items[i]) (rest := items.drop (i + 1)) (by rw [List.getElem_cons_drop, List.take_append_drop]) (fun d hdm => by
        obtain ⟨j, hj⟩ := List.getElem?_of_mem hdm
        have hj1 := (List.getElem?_eq_some_iff.mp hj).1
        rw [List.length_take] at hj1
        rw [List.getElem?_take, if_pos (by omega)] at hj
        rw [← hm]
        refine hd j ?_ d hj
        have h5 : (List.range items.length).take i = done := by rw [hx, i1]; simp
        rw [← h5, List.take_range]
        exact List.mem_range.mpr (by omega)) (by rw [← hm]; exact hbx)
      rw [hb, List.length_take, show min i items.length = i by omega] at this
      cases this
      exact ⟨rfl, rfl⟩
    · refine ⟨rfl, fun j hj d hd2 => ?_, some (.int i), rfl⟩
      rcases List.mem_append.mp hj with hj | hj
      · exact hd j hj d hd2
      · rw [List.mem_singleton] at hj
        subst hj
        rw [hi] at hd2
        cases hd2
        exact hbx
  · rintro e g' ⟨rfl, hd, v, rfl⟩
    have : badRow items = none := by
      unfold badRow
      rw [List.findIdx?_eq_none_iff]
      intro d hdm
      obtain ⟨i, hi⟩ := List.getElem?_of_mem hdm
      rw [← hm]
      exact hd i (List.mem_range.mpr (List.getElem?_eq_some_iff.mp hi).1) d hi
    rw [this] at hb
    cases hb
theorem f_fault_fair (F : Fair rows n) : f_l_fault [dTab rows] g = .ok (match firstNev rows n with | some j => .own [.str "outcome", .int (j : Nat)] | none => .dat .non) g := by
  have m1 := F.m1
  have m4 := F.m4
  have n27 := F.n27
  refine run_o (by simp) ?_
  unfold c_l_fault
  refine x_seqW ?_
  trivial
  refine ⟨fun _ => ⟨fun _ => ?_, fun h => absurd (by omega) h⟩, fun h => absurd (by omega) h⟩
  refine x_seqW ?_
  rw [q_set]
  refine many_wp F.odd (by rw [List.length_map]; exact m1) ?_
  rw [F.many]
  trivial
  refine x_seq (x_for ?_)
  trivial
  refine ⟨by omega, ?_⟩
  refine x_go (fun done e g' => g' = g ∧ ∃ v : Option D, e = [some (.dat (dTab rows)), some (.dat (.int (n : Nat))), v.map .dat, none, none, none, none]) _ ⟨rfl, none, rfl⟩ ?_ ?_
  · rintro done i rest e g' hx ⟨rfl, v, rfl⟩
    obtain ⟨i1, i2⟩ := range_split hx
    have hi : (rows.map dTi)[i]? = some (dTi rows[i]) := by rw [List.getElem?_map, List.getElem?_eq_getElem i2]; rfl
    have hmem := List.mem_of_getElem? hi
    have hb := F.bad
    unfold badRow at hb
    rw [List.findIdx?_eq_none_iff, F.many] at hb
    trivial
    refine x_of (body_wp hi (F.odd _ hmem) (fun hbx => ?_) (fun hbx => ?_))
    · rw [hb _ hmem] at hbx
      cases hbx
    · exact ⟨rfl, some (.int i), rfl⟩
  · rintro e g' ⟨rfl, v, rfl⟩
    refine x_of ?_
    trivial
    refine ⟨by omega, ?_⟩
    refine wp_clMap (nev rows) (fun j => .int (j : Nat)) (List.range n) (by rw [List.length_range]; show n ≤ 100000; omega) (fun j hj => ?_) ?_
    · have hj := List.mem_range.mp hj
      trivial
      refine wp_clMap (fun r => decide (0 < r.getD j 0)) dTi rows (by show rows.length ≤ 100000; omega) (fun r hr => ?_) ?_
      · trivial
        refine ix_use (getD_at (by rw [F.len r hr]; exact hj)) ?_
        trivial
      · trivial
        refine ⟨⟨?_, rfl⟩, ?_⟩
        · show (List.map dTi (List.filter (fun r => decide (0 < r.getD j 0)) rows)).all (D.fine 59) = true
          rw [List.all_eq_true]
          intro d hd
          obtain ⟨r, _, rfl⟩ := List.mem_map.mp hd
          show (r.map D.int).all (D.fine 58) = true
          exact List.all_eq_true.mpr fun d hd => by obtain ⟨x, _, rfl⟩ := List.mem_map.mp hd; rfl
        · unfold nev
          cases q : List.filter (fun r => decide (0 < r.getD j 0)) rows with
          | nil =>
            rw [List.filter_eq_nil_iff] at q
            have : (rows.any fun r => decide (0 < r.getD j 0)) = false := by
              rw [List.any_eq_false]
              exact q
            rw [this]
            rfl
          | cons r rs =>
            have hr : r ∈ List.filter (fun r => decide (0 < r.getD j 0)) rows := by rw [q]; exact List.mem_cons_self
            have : (rows.any fun r => decide (0 < r.getD j 0)) = true := List.any_eq_true.mpr ⟨r, (List.mem_filter.mp hr).1, (List.mem_filter.mp hr).2⟩
            rw [this]
            rfl
    · trivial
      refine ⟨⟨?_, rfl⟩, ?_⟩
      · show (List.map (fun j : Nat => D.int (j : Nat)) (List.filter (nev rows) (List.range n))).all (D.fine 59) = true
        exact List.all_eq_true.mpr fun d hd => by obtain ⟨x, _, rfl⟩ := List.mem_map.mp hd; rfl
      · have hh : (List.filter (nev rows) (List.range n)).head? = firstNev rows n := List.head?_filter
        cases q : List.filter (nev rows) (List.range n) with
        | nil =>
          rw [q] at hh
          rw [← hh]
          rw [show D.eqv (.lst (([] : List Nat).map fun j => D.int (j : Nat))) (.lst []) = true from rfl]
          trivial
          rfl
        | cons j js =>
          rw [q] at hh
          rw [← hh]
          rw [show D.eqv (.lst ((j :: js).map fun j => D.int (j : Nat))) (.lst []) = false from rfl]
          trivial
          rfl
/-! ### what is tried -/
theorem pl_all : ∀ {ds : List D}, (∀ d ∈ ds, d.pl = true) → D.pls ds = true
  | [], _ => rfl
  | d :: ds, h => by
    unfold D.pls
    rw [h d List.mem_cons_self, pl_all fun x hx => h x (List.mem_cons_of_mem _ hx)]
    rfl
theorem Atom.pl {d : D} (h : Atom d) : d.pl = true := by cases h <;> rfl
theorem Odd.pl {d : D} (h : Odd d) : d.pl = true := by
  cases h with
  | tup h _ => exact pl_all fun d hd => (h d hd).pl
  | non => rfl
  | one => rfl
  | lst _ =>
    refine pl_all fun d hd => ?_
    obtain ⟨x, _, rfl⟩ := List.mem_map.mp hd
    rfl
inductive Any : D → Prop
  | tup {items : List D} (h : ∀ d ∈ items, Odd d) : Any (.tup items)
  | non : Any .non
  | lst {items : List D} (h : ∀ d ∈ items, Odd d) : Any (.lst items)
theorem Any.pl {d : D} (h : Any d) : d.pl = true := by
  cases h with
  | tup h => exact pl_all fun d hd => (h d hd).pl
  | non => rfl
  | lst h => exact pl_all fun d hd => (h d hd).pl
theorem f_tried_ok {d : D} (hd : d.pl = true) (h : f_init_k01 [d] g = .ok (.dat d) g) : f_l_tried_k01 [d] g = .ok (.dat (.mdl d)) g := by
  refine run_is (by simp) ?_
  unfold c_l_tried_k01
  trivial
  refine q_tryN (x_makeSet ?_)
  trivial
  refine xm_ok h hd hd ?_ ?_
  · simp
  · trivial
theorem ne_tab : decide (("InvalidTables" : Str) ≠ ("self" : Str)) = true := by decide +kernel
theorem ne_out : decide (("InvalidOutcome" : Str) ≠ ("self" : Str)) = true := by decide +kernel
theorem f_tried_tab {d x : D} (hd : d.pl = true) (hx : x.pl = true) (h : f_init_k01 [d] g = .exc ⟨"InvalidTables", [("index", x)]⟩ g) : f_l_tried_k01 [d] g = .ok (.dat (.lst [.str "tables", x])) g := by
  refine run_is (by simp) ?_
  unfold c_l_tried_k01
  trivial
  refine q_tryN (x_makeSet ?_)
  trivial
  refine xm_exc h hd ?_ ?_
  · unfold Exn.pl
    rw [ne_tab]
    simp [D.pls, hx]
  · unfold tryN
    refine ⟨show (List.elem ("InvalidTables" : Str) ["Model", "InvalidOutcome", "InvalidTables", "LossError"] && decide (("InvalidTables" : Str) ≠ "Model")) = true by decide +kernel, ?_⟩
    refine tryGo_hit (ps := [(1, .lst [.str "tables", x])]) (show subX "InvalidTables" "InvalidTables" = true by decide +kernel) ?_ (by simp) (by simp) ?_
    · rfl
    · unfold setsD setsD
      trivial
theorem f_tried_out {d x : D} (hd : d.pl = true) (hx : x.pl = true) (h : f_init_k01 [d] g = .exc ⟨"InvalidOutcome", [("index", x)]⟩ g) : f_l_tried_k01 [d] g = .ok (.dat (.lst [.str "outcome", x])) g := by
  refine run_is (by simp) ?_
  unfold c_l_tried_k01
  trivial
  refine q_tryN (x_makeSet ?_)
  trivial
  refine xm_exc h hd ?_ ?_
  · unfold Exn.pl
    rw [ne_out]
    simp [D.pls, hx]
  · unfold tryN
    refine ⟨show (List.elem ("InvalidOutcome" : Str) ["Model", "InvalidOutcome", "InvalidTables", "LossError"] && decide (("InvalidOutcome" : Str) ≠ "Model")) = true by decide +kernel, ?_⟩
    refine tryGo_miss (show subX "InvalidOutcome" "InvalidTables" = false by decide +kernel) ?_
    refine tryGo_hit (ps := [(1, .lst [.str "outcome", x])]) (show subX "InvalidOutcome" "InvalidOutcome" = true by decide +kernel) ?_ (by simp) (by simp) ?_
    · rfl
    · unfold setsD setsD
      trivial
/-- tables are refused, or they are a model's; the law's fault says how -/
theorem tried_fault {d : D} (h : Any d) : (∃ (s : Str) (x : D), (s = "tables" ∨ s = "outcome") ∧ (x = .non ∨ ∃ k : Nat, x = .int (k : Nat)) ∧ ∀ g, f_l_fault [d] g = .ok (.own [.str s, x]) g ∧ f_l_tried_k01 [d] g = .ok (.dat (.lst [.str s, x])) g) ∨
    ∃ rows n, d = dTab rows ∧ Good rows n ∧ ∀ g, f_l_fault [d] g = .ok (.dat .non) g ∧ f_l_tried_k01 [d] g = .ok (.dat (.mdl d)) g := by
  have hpl := h.pl
  have none_case : (∀ items, d = .tup items → ¬ (1 ≤ items.length ∧ items.length ≤ 4)) → ((∃ items, d = .tup items) ∨ d = .non ∨ ∃ ds, d = .lst ds) → ∃ (s : Str) (x : D), (s = "tables" ∨ s = "outcome") ∧ (x = .non ∨ ∃ k : Nat, x = .int (k : Nat)) ∧ ∀ g, f_l_fault [d] g = .ok (.own [.str s, x]) g ∧ f_l_tried_k01 [d] g = .ok (.dat (.lst [.str s, x])) g := fun h1 h2 =>
    ⟨"tables", .non, .inl rfl, .inl rfl, fun g => ⟨f_fault_none h1 h2, f_tried_tab hpl rfl (by
      refine runI_x ?_
      unfold c_init_k01 c_init_k011 c_init_k012
      refine x_seq (x_callDrop ?_)
      trivial
      refine xd_exc (f_check_none h1 h2) rfl ⟨rfl, rfl⟩)⟩⟩
  cases h with
  | non => exact .inl (none_case (fun _ e => by cases e) (.inr (.inl rfl)))
  | lst _ => exact .inl (none_case (fun _ e => by cases e) (.inr (.inr ⟨_, rfl⟩)))
  | @tup items ho =>
    by_cases hl : 1 ≤ items.length ∧ items.length ≤ 4
    · cases hb : badRow items with
      | some k => exact .inl ⟨"tables", .int (k : Nat), .inl rfl, .inr ⟨k, rfl⟩, fun g => ⟨f_fault_bad ho hl.1 hl.2 hb, f_tried_tab hpl rfl (by
          refine runI_x ?_
          unfold c_init_k01 c_init_k011 c_init_k012
          refine x_seq (x_callDrop ?_)
          trivial
          refine xd_exc (f_check_bad ho hl.1 hl.2 hb) rfl ⟨rfl, rfl⟩)⟩⟩
      | none =>
        obtain ⟨rows, n, rfl, F⟩ := fair_of hl.1 hl.2 hb
        cases hv : firstNev rows n with
        | some j => exact .inl ⟨"outcome", .int (j : Nat), .inr rfl, .inr ⟨j, rfl⟩, fun g => ⟨by
            have := f_fault_fair (g := g) F
            rw [hv] at this
            exact this, f_tried_out hpl rfl (f_init_nev F hv)⟩⟩
        | none =>
          have G := F.good hv
          exact .inr ⟨rows, n, rfl, G, fun g => ⟨by
            have := f_fault_fair (g := g) F
            rw [hv] at this
            exact this, f_tried_ok hpl (f_init_good G)⟩⟩
    · exact .inl (none_case (fun _ e => by cases e; exact hl) (.inl ⟨_, rfl⟩))
end
end PV
set_option Elab.async false
set_option linter.all false
set_option maxRecDepth 100000
set_option maxHeartbeats 4000000
/-! PL101: the law k01, plain. -/
namespace PV
open PySem L2
local macro_rules | `(tactic| trivial) => `(tactic| simp only [vK_ap, wo_some, q_varP, q_varF, q_varR, onV_0, onV_s, q_frz, fzK_dat, fzK_own, q_all_nil, q_all, alK1_ap, alK2_ap, q_bin, biK1_ap, biK2_ap, bK_ap, q_cmp, cmK1_ap, cmK2_ap, q_chain, chK1_ap, chK2_ap, chK3_dec, q_not, noK_ap, q_if, q_sIf, q_and, q_or, q_ret, q_b, mbK_ap, q_t, mtK_ap, q_neg, neK_ap, q_c, q_tup, tuK_ap, q_lst, liK_ap, q_idx, ixK1_ap, ixK2_ap, dK_ap, q_idxT, q_idxL, q_idxO, coK_ap, q_ixMap, q_ix0, q_ix1, q_ix2, q_ix3, owK_ap, q_rowsI, q_rowP, rpK1_ap, rpK2_ap, rpK3_ap, q_part0, q_part1, ptK_ap, q_slice, slK1_ap, slK2_ap, slK3_ap, lK_ap, q_seq, sqK_lst, sqK_tup, sqK_own, q_rng1, q_rng2, rgK0_ap, rgK_ap, q_enum, q_enumK, enK_lst, enK_tup, enK_own, q_zip2, zpK1_ap, zpK2_lst, zpK2_tup, zpK2_own, zpK3_lst, zpK3_tup, zpK3_own, q_zip3, z3K1_ap, z3K2_ap, z3K3_tup, z3K3_lst, z3K3_own, z3K4_tup, z3K4_lst, z3K4_own, z3K5_tup, z3K5_lst, z3K5_own, reK_ap, q_call, caK_ap, q_bn, bnK_ap, sqV_lst, sqV_tup, sqV_own, liV_lst, liV_own, q_sum, suK_ap, q_max, mxK_ap, q_min, mnK_ap, q_allB, aaK_ap, q_anyB, anK_ap, q_isa, isK_int, isK_bl, isK_non, isK_str, isK_tup, isK_lst, isK_mdl, isK_own, q_index, idK1_own, idK2_ap, q_tabs, taK_ap, q_prop, prK_ap, q_comp, cpK_ap, cpK2_ap, q_rowsC, rcK_ap, rcK2_ap, still_nil, still_cons, okAt_0, okAt_n, okAt_m, okAt_s, wipe_nil, wipe_cons, unwipe_nil, unwipe_cons, join_0, join_s, set_0, set_s, q_nil, q_seqS, q_set, seK_ap, q_par2, p2K1_ap, p2K2_ap, q_par3, p3K1_ap, p3K2_ap, p3K3_ap, q_unp, unK_ap, setAll_nil, setAll_cons, q_drop, drK_ap, q_rets, rtK_ap, ownK_0, ownK_s, q_app, apK1_ap, apK2_ap, apK3_ap, q_put, puK1_ap, puK2_ap, puK3_ap, puK4_ap, puK5_ap, q_augI, aiK1_ap, aiK2_ap, aiK3_ap, aiK4_ap, aiK5_ap, aiK6_ap, aiK7_ap, q_aug, auK1_ap, auK2_ap, q_augL, alK3_ap, alK4_own, alK5_ap, q_for, foK_ap, q_appR, arK1_ap, arK2_ap, arK3_ap, arK4_ap, arK5_ap, q_putR, prK1_ap, prK2_ap, prK3_ap, prK4_ap, prK5_ap, prK6_ap, prK7_ap, q_rowAt, onRow_0, onRow_s, ifK_true, ifK_false, ifK_dec, ifK_ndec, frzK_dat, frzK_own, frzK_owns, retK_dat, retK_own, retK_owns, seqK_none, seqK_some, wo_if, wo_add, wo_sub, wo_mul, wo_fdiv, wo_mod, wo_pow, wo_addT, wo_addOO, wo_addLO, wo_addOL, wo_addLL, wo_mulT, wo_mulO, wo_eqB, wo_neB, wo_eqD, wo_neD, wo_eqOO, wo_neOO, wo_eqDO, wo_neDO, wo_lt, wo_le, wo_gt, wo_ge, wo_inO, wo_ninO, opIn_own, opIn_lst, wo_is_non, wo_isnot_non, wo_is_int, wo_is_tup, wo_is_lst, wo_isnot_tup, wo_isnot_lst, wo_row_dat, wo_lenT, wo_lenL, wo_lenO, wo_lenOs, wo_max2, wo_min2, wo_abs, wo_tupO, wo_tupL, wo_tupT, wo_lstO, wo_lstL, wo_lstT, wo_intI, wo_maxC, wo_minC, wo_rangeN, wo_indexO, wo_sliceT, wo_sliceL, wo_sliceO, wo_bind_name, wo_bind_names, outK_none, outK_some, List.length_cons, List.length_nil, List.length_map, Nat.zero_add, Nat.reduceAdd, Nat.reduceLT, Nat.reduceLeDiff, line, true_and, and_true, Bool.and_self, Bool.true_and, Bool.and_true, Bool.not_true, Bool.not_false, if_true, if_false, fine_int, fine_bl, fine_non, eqv_ii, eqv_bb, mkEnv_0, mkEnv_n, mkEnv_c, isaB_nil, isaB_cons, D.isa, Bool.or_false, Bool.or_true, Bool.true_or, Bool.false_or, decide_eq_true_eq, decide_eq_false_iff_not, true_implies, false_implies, Bool.true_eq_false, Bool.false_eq_true, suK_map, mxK_map, mnK_map, aaK_map, anK_map, frzK_lz, okAt_some, okAt_none, okAt_mapd, onRow_some, onV_some, ownK_own, List.getElem?_cons_zero, List.getElem?_cons_succ, Option.join_some, ifK_nbeq, ifK_beq, eqv_lcn, eqv_lnn, eqv_lnc, eqv_tcn, eqv_tnn, List.map_nil, List.map_cons, wo_is_str, wo_is_bl, wo_is_mdl, wo_isnot_int, wo_isnot_mdl, q_make, mkK_ap, mkK2_ap, outI_ap, Bool.true_beq, Bool.false_beq, Bool.not_not, Bool.false_and, Bool.and_false, eqv_nn, eqv_nb, eqv_ni, eqv_ns, eqv_nt, eqv_nl, eqv_bn, eqv_bi, eqv_bs, eqv_bt, eqv_bl, eqv_in, eqv_ib, eqv_is, eqv_it, eqv_il, eqv_sn, eqv_sb, eqv_si, eqv_ss, eqv_st, eqv_sl, eqv_tn, eqv_tb, eqv_ti, eqv_ts, eqv_tl, eqv_ln, eqv_lb, eqv_li, eqv_ls, eqv_lt, q_par4, p4K1_ap, p4K2_ap, p4K3_ap, p4K4_ap, sqK_lz, implies_true, q_tupR, trK_ap, tdK_ap, q_comp2, c2K_ap, q_lzip, lzK_ap, lzK2_ap, wo_lzipT, q_mlen, lnK_mdl, lnK_tup, lnK_lst, lnK_own, lnK2_int, lnK3_ap, q_eqM, emK1_ap, emK2_mm, emK2_mt, emK2_int, emK2_tup, emK2_lst, emK2_own, emK3_bl, emK4_ap, q_rem, rmK1_ap, rmK2_ap, rmK3_ap, rmK4_ap, wo_isnot_own, wo_is_own, xsK_none, xsK_some, xiK_true, xiK_false, xiK_dec, xiK_ndec, x_throw, wo_sortedT, wo_sortedO, xtK_ap, x_nil, xfK_ap])
noncomputable def c_tables : S := sRet (mTabs (mVarP 0))
noncomputable def f_tables : SemF := runFn 1 c_tables

noncomputable def c_outcomes : S := sRet (mBn .len [mIdx (mTabs (mVarP 0)) (mC (.int 0))])
noncomputable def f_outcomes : SemF := runFn 1 c_outcomes

noncomputable def c_len : S := sRet (mBn .len [mTabs (mVarP 0)])
noncomputable def f_len : SemF := runFn 1 c_len

noncomputable def c_eq : S := sRet (mIf (mT (mB (mIsa (mVarP 1) [.model]))) (mB (mCmp .eq (mTabs (mVarP 0)) (mTabs (mVarP 1)))) (mC (.bl false)))
noncomputable def f_eq : SemF := runFn 2 c_eq

noncomputable def c_law_k01 : S := sSeq (sFor (.name 2) (.rng1 (mC (.int 6))) (sSeq (sUnp (.names [6, 7, 8]) (mFrz (mCall 1 f_l_size [mFrz (mVarF 1)]))) (sSeq (sSet 3 (mCall 4 f_l_tables [mFrz (mVarF 1), mFrz (mVarF 6), mFrz (mVarF 7), mFrz (mVarF 8)])) (sSeq (sSet 4 (mLst [mFrz (mBin .mul (mTup [mFrz (mC (.int 0))]) (mVarP 7)), mFrz (mBin .mul (mTup [mFrz (mC (.int 1))]) (mBin .add (mVarP 7) (mC (.int 1)))), mFrz (mBin .mul (mTup [mFrz (mC (.int 1))]) (mBin .sub (mVarP 7) (mC (.int 1)))), mFrz (mBin .mul (mTup [mFrz (mNeg (mC (.int 1)))]) (mVarP 7)), mFrz (mBin .mul (mTup [mFrz (mC (.bl true))]) (mVarP 7))])) (sSeq (sSet 4 (mBin .add (mVarP 4) (mLst [mFrz (mBin .mul (mTup [mFrz (mBin .add (mBin .pow (mC (.int 10)) (mC (.int 6))) (mC (.int 1)))]) (mVarP 7)), mFrz (mBin .mul (mTup [mFrz (mBin .pow (mC (.int 10)) (mC (.int 6)))]) (mVarP 7)), mFrz (mC .non), mFrz (mBin .mul (mLst [mFrz (mC (.int 1))]) (mVarP 7)), mFrz (mBin .mul (mTup [mFrz (mC (.str "1"))]) (mVarP 7)), mFrz (mC (.int 1)), mFrz (mTup [])]))) (sSeq (sFor (.name 5) (.rng1 (mCall 2 f_l_pick [mFrz (mVarF 1), mFrz (mLst [mFrz (mC (.int 0)), mFrz (mC (.int 0)), mFrz (mC (.int 1)), mFrz (mC (.int 1)), mFrz (mC (.int 2))])])) (sSeq (sSet 9 (mCall 2 nextF [mFrz (mVarF 1), mFrz (mBin .add (mLen f_len (mVarP 3)) (mC (.int 1)))])) (sSet 3 (mBin .add (mBin .add (mSlice (mVarP 3) none (some (mVarP 9))) (mTup [mFrz (mCall 2 f_l_pick [mFrz (mVarF 1), mFrz (mVarF 4)])])) (mSlice (mVarP 3) (some (mBin .add (mVarP 9) (mCall 2 nextF [mFrz (mVarF 1), mFrz (mC (.int 2))]))) none))))) (sSeq (sIf (mAnd (mEqM f_eq (mCall 2 nextF [mFrz (mVarF 1), mFrz (mC (.int 4))]) (mC (.int 0))) (mCmp .is (mCall 1 f_l_fault [mFrz (mVarF 3)]) (mC .non))) (sSeq (sSet 9 (mCall 2 nextF [mFrz (mVarF 1), mFrz (mLen f_len (mIdx (mVarP 3) (mC (.int 0))))])) (sSet 3 (mBn .tuple [mComp [12] (.name 12) (.seq (mVarP 3)) (mRet true) (mFrz (mBin .add (mBin .add (mSlice (mVarP 12) none (some (mVarP 9))) (mTup [mFrz (mC (.int 0))])) (mSlice (mVarP 12) (some (mBin .add (mVarP 9) (mC (.int 1)))) none)))]))) sNil) (sSeq (sSet 3 (mCall 2 f_l_pick [mFrz (mVarF 1), mFrz (mBin .add (mBin .mul (mLst [mFrz (mVarF 3)]) (mC (.int 6))) (mLst [mFrz (mBn .list [mVarP 3]), mFrz (mC .non), mFrz (mTup []), mFrz (mTup [mFrz (mBin .mul (mTup [mFrz (mC (.int 1))]) (mC (.int 28)))])]))])) (sSeq (sPar2 10 11 (mCall 1 f_l_tried_k01 [mFrz (mVarF 3)]) (mCall 1 f_l_fault [mFrz (mVarF 3)])) (sIf (mCmp .isnot (mVarP 11) (mC .non)) (sIf (mNot (mT (mCall 2 alikeF [mFrz (mVarF 10), mFrz (mVarF 11)]))) (sRet (mC (.bl false))) sNil) (sIf (mOr (mNot (mT (mB (mIsa (mVarP 10) [.model])))) (mOr (mNot (mEqM f_eq (mVarP 10) (mMake f_init_k01 (mFrz (mVarF 3))))) (mEqM f_eq (mVarP 10) (mVarP 3)))) (sRet (mC (.bl false))) (sIf (mNot (mT (mCall 2 alikeF [mFrz (mLst [mFrz (mProp f_tables (mVarP 10)), mFrz (mProp f_outcomes (mVarP 10)), mFrz (mLen f_len (mVarP 10))]), mFrz (mLst [mFrz (mVarF 3), mFrz (mLen f_len (mIdx (mVarP 3) (mC (.int 0)))), mFrz (mLen f_len (mVarP 3))])]))) (sRet (mC (.bl false))) (sIf (mAnd (mCmp .lt (mLen f_len (mVarP 3)) (mC (.int 4))) (mEqM f_eq (mVarP 10) (mMake f_init_k01 (mFrz (mBin .add (mVarP 3) (mTup [mFrz (mIdx (mVarP 3) (mC (.int 0)))])))))) (sRet (mC (.bl false))) sNil))))))))))))) (sRet (mC (.bl true)))

section
variable {rows : List (List Int)} {n : Nat} {g : Rng}
theorem f_tables_k01 {t : D} : f_tables [.mdl t] g = .ok (.dat t) g := by
  refine run_is (by simp) ?_
  unfold c_tables
  trivial
theorem f_len_k01 : f_len [.mdl (dTab rows)] g = .ok (.dat (.int rows.length)) g := by
  refine run_is (by simp) ?_
  unfold c_len
  trivial
theorem f_outcomes_k01 (G : Good rows n) : f_outcomes [.mdl (dTab rows)] g = .ok (.dat (.int (n : Nat))) g := by
  obtain ⟨r0, h0, hr0, hl0⟩ := G.first
  refine run_is (by simp) ?_
  unfold c_outcomes
  trivial
  refine ix_useI rfl h0 ?_
  trivial
  rw [hl0]
theorem f_eq_k01 {s t : D} (hs : s.fine 60 = true) (ht : t.fine 60 = true) : f_eq [.mdl s, .mdl t] g = .ok (.dat (.bl (s.eqv t))) g := by
  refine run_is (by simp) ?_
  unfold c_eq
  trivial
  exact ⟨hs, ht⟩
theorem f_eq_no {s t : D} (ht : t.isa .model = false) (hk : t.pl = true) : f_eq [.mdl s, t] g = .ok (.dat (.bl false)) g := by
  refine run_is (by simp) ?_
  unfold c_eq
  cases t with
  | mdl _ => cases ht
  | hnd => cases hk
  | fn _ => cases hk
  | exc _ _ => cases hk
  | _ => trivial
end
theorem cut_to {α : Type} {xs : List α} {k : Nat} : cutAt xs none (some (k : Int)) = xs.take k := by
  unfold cutAt
  rw [HT.sIx_nat, HT.sIx_none, List.drop_zero, Nat.sub_zero]
  exact List.take_eq_take_min.symm
theorem cut_from {α : Type} {xs : List α} {k : Nat} : cutAt xs (some (k : Int)) none = xs.drop k := by
  unfold cutAt
  rw [HT.sIx_nat, HT.sIx_none]
  by_cases h : k ≤ xs.length
  · rw [Nat.min_eq_left h]
    exact List.take_of_length_le (by rw [List.length_drop]; exact Nat.le_refl _)
  · rw [Nat.min_eq_right (by omega), Nat.sub_self, List.take_zero, List.drop_of_length_le (by omega)]
theorem odd_rep {x : D} {k : Nat} (h : Atom x) (hk : k ≤ 100) : Odd (.tup (List.replicate k [x]).flatten) := by
  rw [List.flatten_replicate_singleton]
  exact .tup (fun d hd => by rw [List.eq_of_mem_replicate hd]; exact h) (by simpa using hk)
theorem pl_tab (rows : List (List Int)) : D.pl (dTab rows) = true := by
  refine pl_all fun y hy => ?_
  obtain ⟨r, _, rfl⟩ := List.mem_map.mp hy
  refine pl_all fun y hy => ?_
  obtain ⟨z, _, rfl⟩ := List.mem_map.mp hy
  rfl
theorem k01_good {rows : List (List Int)} {n : Nat} (G : Good rows n) {g : Rng} {v2 v4 v5 v6 v7 v8 v9 : Option SV} {Q : Option SV → Env → Rng → Prop}
    (hq : Q none [none, some (.dat .hnd), v2, some (.dat (dTab rows)), v4, v5, v6, v7, v8, v9, some (.dat (.mdl (dTab rows))), some (.dat .non), none] g) :
    Wp ((sIf (mOr (mNot (mT (mB (mIsa (mVarP 10) [.model])))) (mOr (mNot (mEqM f_eq (mVarP 10) (mMake f_init_k01 (mFrz (mVarF 3))))) (mEqM f_eq (mVarP 10) (mVarP 3)))) (sRet (mC (.bl false))) (sIf (mNot (mT (mCall 2 alikeF [mFrz (mLst [mFrz (mProp f_tables (mVarP 10)), mFrz (mProp f_outcomes (mVarP 10)), mFrz (mLen f_len (mVarP 10))]), mFrz (mLst [mFrz (mVarF 3), mFrz (mLen f_len (mIdx (mVarP 3) (mC (.int 0)))), mFrz (mLen f_len (mVarP 3))])]))) (sRet (mC (.bl false))) (sIf (mAnd (mCmp .lt (mLen f_len (mVarP 3)) (mC (.int 4))) (mEqM f_eq (mVarP 10) (mMake f_init_k01 (mFrz (mBin .add (mVarP 3) (mTup [mFrz (mIdx (mVarP 3) (mC (.int 0)))])))))) (sRet (mC (.bl false))) sNil))) [none, some (.dat .hnd), v2, some (.dat (dTab rows)), v4, v5, v6, v7, v8, v9, some (.dat (.mdl (dTab rows))), some (.dat .non), none] g) Q := by
  generalize hS : (sIf (mAnd (mCmp .lt _ _) _) _ sNil : S) = LAST
  have hT := pl_tab rows
  obtain ⟨r0, h0', hr0, hl0⟩ := G.first
  have n27 := G.n27
  have m4 := G.m4
  have hi : f_init_k01 [dTab rows] g = .ok (.dat (dTab rows)) g := f_init_good G
  have ho : f_outcomes [.mdl (dTab rows)] g = .ok (.dat (.int (n : Nat))) g := f_outcomes_k01 G
  have hl : f_len [.mdl (dTab rows)] g = .ok (.dat (.int rows.length)) g := f_len_k01
  have hfi : (dTab rows).fine 60 = true := fine_dTab
  have heq : (dTab rows).eqv (dTab rows) = true := by rw [eqv_dTab, decide_eq_true rfl]
  have hll : (dTab rows).lev 7 = true := by
    refine lev_tup (fun y hy => ?_) (by rw [List.length_map]; omega)
    obtain ⟨r, hr, rfl⟩ := List.mem_map.mp hy
    refine lev_tup (fun y hy => ?_) (by rw [List.length_map, G.len r hr]; omega)
    obtain ⟨z, _, rfl⟩ := List.mem_map.mp hy
    exact lev_int
  obtain ⟨ds, hds⟩ : ∃ ds, ds = rows.map dTi := ⟨_, rfl⟩
  have h0d : ds[0]? = some (dTi r0) := by rw [hds, List.getElem?_map, h0']; rfl
  have eT : dTab rows = .tup ds := by rw [hds]
  have hdl : ds.length = rows.length := by rw [hds, List.length_map]
  obtain ⟨T, hT2⟩ : ∃ T, T = dTab rows := ⟨_, rfl⟩
  have hfT : T.fine 60 = true := by rw [hT2]; exact hfi
  rw [show D.mdl (dTab rows) = D.mdl T from by rw [hT2]] at hq ho hl ⊢
  rw [eT] at hT hq hi hfi heq hll ⊢
  rw [eT] at hT2
  have hT3 : T.eqv (.tup ds) = true := by rw [hT2]; exact heq
  trivial
  refine ⟨hT, ?_⟩
  refine wf_of hi ?_
  trivial
  refine ⟨hT, ?_⟩
  refine wf_of (f_eq_k01 hfT hfi) ?_
  rw [hT3]
  trivial
  refine wf_of (f_eq_no rfl hT) ?_
  trivial
  refine wf_of f_tables_k01 ?_
  trivial
  refine wf_of ho ?_
  trivial
  refine wf_of hl ?_
  trivial
  refine ⟨⟨by omega, by omega⟩, ?_⟩
  refine ix_useI rfl h0d ?_
  trivial
  rw [hl0, hdl]
  have hlev : (D.lst [.tup ds, .int (n : Nat), .int (rows.length : Nat)]).lev 8 = true := by
    refine lev_lst (fun y hy => ?_) (by simp)
    simp only [List.mem_cons, List.not_mem_nil, or_false] at hy
    rcases hy with rfl | rfl | rfl
    · exact hll
    · exact lev_int
    · exact lev_int
  have hlevT : (D.lst [T, .int (n : Nat), .int (rows.length : Nat)]).lev 8 = true := by rw [hT2]; exact hlev
  have halk : alk (D.lst [T, .int (n : Nat), .int (rows.length : Nat)]) (D.lst [.tup ds, .int (n : Nat), .int (rows.length : Nat)]) = true := by rw [hT2]; exact alk_refl hlev
  refine wf_of (alike_ok hlevT hlev) ?_
  rw [halk]
  trivial
  subst hS
  refine wp_ifAnd (rows.length < 4) ?_ (fun hlt => ?_) (fun _ => ?_)
  · trivial
    rw [decide_eq_decide]
    omega
  · trivial
    refine ix_useI rfl h0d ?_
    trivial
    have G2 : Good (rows ++ [r0]) n := by
      refine ⟨by simp, by rw [List.length_append]; show rows.length + 1 ≤ 4; omega, G.n1, G.n27, fun r hr => ?_, fun r hr => ?_, fun r hr => ?_, fun r hr => ?_, fun j hj => ?_⟩
      · rcases List.mem_append.mp hr with hr | hr
        · exact G.len r hr
        · rw [List.mem_singleton] at hr; subst hr; exact hl0
      · rcases List.mem_append.mp hr with hr | hr
        · exact G.lo r hr
        · rw [List.mem_singleton] at hr; subst hr; exact G.lo _ hr0
      · rcases List.mem_append.mp hr with hr | hr
        · exact G.hi r hr
        · rw [List.mem_singleton] at hr; subst hr; exact G.hi _ hr0
      · rcases List.mem_append.mp hr with hr | hr
        · exact G.pos r hr
        · rw [List.mem_singleton] at hr; subst hr; exact G.pos _ hr0
      · obtain ⟨r, hr, h⟩ := G.col j hj
        exact ⟨r, List.mem_append_left _ hr, h⟩
    have e2 : D.tup (ds ++ [dTi r0]) = dTab (rows ++ [r0]) := by
      show _ = D.tup ((rows ++ [r0]).map dTi)
      rw [List.map_append, hds]
      rfl
    have hi2 : f_init_k01 [.tup (ds ++ [dTi r0])] g = .ok (.dat (.tup (ds ++ [dTi r0]))) g := by rw [e2]; exact f_init_good G2
    have hp2 : D.pl (.tup (ds ++ [dTi r0])) = true := by rw [e2]; exact pl_tab _
    have hf2 : D.fine 60 (.tup (ds ++ [dTi r0])) = true := by rw [e2]; exact fine_dTab
    have hne : D.eqv (.tup ds) (.tup (ds ++ [dTi r0])) = false := by
      rw [e2, ← eT, eqv_dTab, decide_eq_false (fun z => by
        have := congrArg List.length z
        rw [List.length_append] at this
        simp at this)]
    refine ⟨by omega, hp2, ?_⟩
    refine wf_of hi2 ?_
    trivial
    refine ⟨hp2, ?_⟩
    refine wf_of (f_eq_k01 hfT hf2) ?_
    have hneT : D.eqv T (.tup (ds ++ [dTi r0])) = false := by rw [hT2]; exact hne
    rw [hneT]
    trivial
    exact hq
  · exact hq
theorem law_k01_plain {g : Rng} (hg : Gd g) : Wp (c_law_k01 [none, some (.dat .hnd), none, none, none, none, none, none, none, none, none, none, none] g) (outK fun sv _ => sv = .dat (.bl true)) := by
  unfold c_law_k01
  trivial
  refine range_use 6 rfl (by omega) ?_
  trivial
  refine wp_go (fun done e g' => Gd g' ∧ ∃ (v4 : Option SV) (v2 v3 v5 v6 v7 v8 v9 v10 v11 : Option D), e = [none, some (.dat .hnd), v2.map .dat, v3.map .dat, v4, v5.map .dat, v6.map .dat, v7.map .dat, v8.map .dat, v9.map .dat, v10.map .dat, v11.map .dat, none]) _ ⟨hg, none, none, none, none, none, none, none, none, none, none, rfl⟩ ?_ ?_
  · rintro done tt rest e g' hx ⟨hg', v4, v2, v3, v5, v6, v7, v8, v9, v10, v11, rfl⟩
    trivial
    refine wf_size hg' (fun m n c g' m1 m4 n1 n27 c1 c2 hg' => ?_)
    trivial
    refine wf_tables m1 m4 n1 n27 c1 c2 hg' (fun rows g' G hm hi hg' => ?_)
    trivial
    refine ⟨by omega, by omega, by omega, by omega, by omega, by decide, by omega, by decide, by omega, by omega, by omega, ?_⟩
    generalize hO : (_ ++ _ : List D) = O
    have oO : ∀ d ∈ O, Odd d := by
      subst hO
      intro d hd
      simp only [List.mem_append, List.mem_cons, List.not_mem_nil, or_false] at hd
      rcases hd with (rfl | rfl | rfl | rfl | rfl) | (rfl | rfl | rfl | rfl | rfl | rfl | rfl)
      · exact odd_rep (.int _) (by omega)
      · exact odd_rep (.int _) (by omega)
      · exact odd_rep (.int _) (by omega)
      · exact odd_rep (.int _) (by omega)
      · exact odd_rep (.bl _) (by omega)
      · exact odd_rep (.int _) (by omega)
      · exact odd_rep (.int _) (by omega)
      · exact .non
      · rw [List.flatten_replicate_singleton, show List.replicate (n : Int).toNat (D.int 1) = (List.replicate n (1 : Int)).map D.int by simp]
        exact .lst (by rw [List.length_replicate]; omega)
      · exact odd_rep .one (by omega)
      · exact .one
      · exact .tup (by simp) (by simp)
    have nO : O ≠ [] := by subst hO; simp
    have lO : O.length ≤ 100 := by subst hO; simp
    clear hO
    refine wf_pickL (by simp) (by simp) hg' (fun d hd g' hg' => ?_)
    obtain ⟨z, rfl, hz⟩ : ∃ z : Nat, d = .int (z : Nat) ∧ z ≤ 2 := by
      simp only [List.mem_cons, List.not_mem_nil, or_false] at hd
      rcases hd with rfl | rfl | rfl | rfl | rfl
      · exact ⟨0, rfl, by omega⟩
      · exact ⟨0, rfl, by omega⟩
      · exact ⟨1, rfl, by omega⟩
      · exact ⟨1, rfl, by omega⟩
      · exact ⟨2, rfl, by omega⟩
    trivial
    refine ⟨by omega, ?_⟩
    rw [show (some (SV.own O) : Option SV) = some (lz true O) from rfl]
    refine wp_go (fun done2 e g2 => Gd g2 ∧ ∃ (items : List D) (b : Bool) (v5 v9 : Option D), (∀ d ∈ items, Odd d) ∧ 1 ≤ items.length ∧ items.length ≤ 4 + done2.length ∧ e = [none, some (.dat .hnd), some (.dat (.int tt)), some (.dat (.tup items)), some (lz b O), v5.map .dat, some (.dat (.int m)), some (.dat (.int n)), some (.dat (.int c)), v9.map .dat, v10.map .dat, v11.map .dat, none]) _
      ⟨hg', rows.map dTi, true, v5, v9, G.fair.odd, by rw [List.length_map]; exact G.m1, by rw [List.length_map]; exact G.m4, rfl⟩ ?_ ?_
    · rintro done2 i rest2 e g2 hx2 ⟨hg2, items, b, v5, v9, ho, l1, l4, rfl⟩
      obtain ⟨i1, i2⟩ := range_split hx2
      trivial
      refine wf_next (by omega) (by omega) hg2 (fun sp g3 hsp hg3 => ?_)
      trivial
      refine wf_pickL nO (by omega) hg3 (fun d hd g4 hg4 => ?_)
      trivial
      rw [cut_to]
      refine ⟨by rw [List.length_take]; omega, ?_⟩
      refine wf_next (by omega) (by omega) hg4 (fun t g5 ht hg5 => ?_)
      trivial
      rw [show (sp : Int) + (t : Int) = ((sp + t : Nat) : Int) by omega, cut_from]
      refine ⟨by simp only [List.length_append, List.length_take, List.length_drop, List.length_cons, List.length_nil]; omega, hg5, items.take sp ++ [d] ++ items.drop (sp + t), false, some (.int i), some (.int sp), fun y hy => ?_, by simp only [List.length_append, List.length_take, List.length_drop, List.length_cons, List.length_nil]; omega, by simp only [List.length_append, List.length_take, List.length_drop, List.length_cons, List.length_nil]; omega, rfl⟩
      rcases List.mem_append.mp hy with hy | hy
      · rcases List.mem_append.mp hy with hy | hy
        · exact ho y (List.mem_of_mem_take hy)
        · rw [List.mem_singleton] at hy
          subst hy
          exact oO _ hd
      · exact ho y (List.mem_of_mem_drop hy)
    · rintro e g2 ⟨hg2, items, b, v5, v9, ho, l1, l4, rfl⟩
      rw [List.length_range] at l4
      rw [seqK_none]
      refine wp_seqI (fun e g => Gd g ∧ ∃ (items : List D) (b : Bool) (v5 v9 : Option D), (∀ d ∈ items, Odd d) ∧ 1 ≤ items.length ∧ items.length ≤ 6 ∧ e = [none, some (.dat .hnd), some (.dat (.int tt)), some (.dat (.tup items)), some (lz b O), v5.map .dat, some (.dat (.int m)), some (.dat (.int n)), some (.dat (.int c)), v9.map .dat, v10.map .dat, v11.map .dat, none]) ?_ ?_
      · trivial
        refine wf_next (by omega) (by omega) hg2 (fun q4 g3 hq4 hg3 => ?_)
        trivial
        refine ⟨fun h0 => ?_, fun h0 => ⟨hg3, items, b, v5, v9, ho, l1, by omega, rfl⟩⟩
        rcases tried_fault (.tup ho) with ⟨s, x, _, _, hf⟩ | ⟨rows, n', e1, G', hf⟩
        · refine wf_of (hf g3).1 ?_
          trivial
          exact ⟨hg3, items, b, v5, v9, ho, l1, by omega, rfl⟩
        · refine wf_of (hf g3).1 ?_
          cases e1
          trivial
          obtain ⟨r0, h0', hr0, hl0⟩ := G'.first
          have n27' := G'.n27
          have n1' := G'.n1
          refine ix_useI rfl h0' ?_
          trivial
          rw [hl0]
          refine wf_next (by omega) (by omega) hg3 (fun sp g4 hsp hg4 => ?_)
          trivial
          refine wp_clAll (fun r => dTi (r.take sp ++ [0] ++ r.drop (sp + 1))) rows (by have := G'.m4; show rows.length ≤ 100000; omega) (fun r hr => ?_) ?_
          · have hlr := G'.len r hr
            trivial
            rw [show (sp : Int) + 1 = ((sp + 1 : Nat) : Int) by omega, cut_to, cut_from]
            refine ⟨?_, ?_, ?_⟩
            · simp only [List.length_append, List.length_take, List.length_drop, List.length_cons, List.length_nil, List.length_map]; omega
            · simp only [List.length_append, List.length_take, List.length_drop, List.length_cons, List.length_nil, List.length_map]; omega
            · simp [List.map_take, List.map_drop]
          · trivial
            refine ⟨hg4, _, b, v5, some (.int sp), fun y hy => ?_, ?_, ?_, rfl⟩
            · obtain ⟨r, hr, rfl⟩ := List.mem_map.mp hy
              have hlr := G'.len r hr
              refine .tup (fun d hd => ?_) ?_
              · obtain ⟨x, _, rfl⟩ := List.mem_map.mp hd
                exact .int x
              · simp only [List.length_append, List.length_take, List.length_drop, List.length_cons, List.length_nil, List.length_map]; omega
            · rw [List.length_map]; exact G'.m1
            · rw [List.length_map]; have := G'.m4; omega
      · rintro e g2 ⟨hg2, items, b, v5, v9, ho, l1, l4, rfl⟩
        trivial
        refine ⟨by omega, by omega, by rw [List.flatten_replicate_singleton, List.length_replicate]; decide, ?_⟩
        rw [List.flatten_replicate_singleton]
        generalize hL : (List.replicate (Int.toNat 6) (D.tup items) ++ _ : List D) = L
        have aL : ∀ d ∈ L, Any d := by
          subst hL
          intro d hd
          simp only [List.mem_append, List.mem_replicate, List.mem_cons, List.not_mem_nil, or_false] at hd
          rcases hd with ⟨_, rfl⟩ | rfl | rfl | rfl | rfl
          · exact .tup ho
          · exact .lst ho
          · exact .non
          · exact .tup (by simp)
          · refine .tup (fun y hy => ?_)
            rw [List.mem_singleton] at hy
            subst hy
            rw [List.flatten_replicate_singleton]
            exact .tup (fun z hz => by rw [(List.mem_replicate.mp hz).2]; exact .int 1) (by rw [List.length_replicate]; decide)
        have nL : L ≠ [] := by
          subst hL
          intro z
          have := congrArg List.length z
          simp only [List.length_append, List.length_cons, List.length_nil] at this
          omega
        have lL : L.length ≤ 100 := by
          subst hL
          simp only [List.length_append, List.length_replicate, List.length_cons, List.length_nil]
          decide
        clear hL
        refine wf_pickL nL (by omega) hg2 (fun d hd g3 hg3 => ?_)
        have aD := aL d hd
        rcases tried_fault aD with ⟨s, x, hs, hx2, hf⟩ | ⟨rows, n', rfl, G', hf⟩
        · trivial
          refine wf_of (hf g3).2 ?_
          trivial
          refine wf_of (hf g3).1 ?_
          trivial
          have hlev : (D.lst [.str s, x]).lev 8 = true := by
            refine lev_lst (fun y hy => ?_) (by simp)
            simp only [List.mem_cons, List.not_mem_nil, or_false] at hy
            rcases hy with rfl | rfl
            · rcases hs with rfl | rfl <;> decide +kernel
            · rcases hx2 with rfl | ⟨k, rfl⟩
              · exact lev_non
              · exact lev_int
          refine wf_of (alike_ok hlev hlev) ?_
          rw [alk_refl hlev]
          trivial
          exact ⟨hg3, some (lz b O), some (.int tt), some d, v5, some (.int m), some (.int n), some (.int c), v9, some (.lst [.str s, x]), some (.lst [.str s, x]), rfl⟩
        · generalize hS : (sIf (mOr (mNot (mT (mB (mIsa (mVarP 10) _)))) _) _ _ : S) = LAST
          obtain ⟨T, hT2⟩ : ∃ T, T = dTab rows := ⟨_, rfl⟩
          rw [← hT2] at hf ⊢
          trivial
          refine wf_of (hf g3).2 ?_
          trivial
          refine wf_of (hf g3).1 ?_
          trivial
          subst hT2
          subst hS
          exact k01_good G' ⟨hg3, some (lz b O), some (.int tt), some (dTab rows), v5, some (.int m), some (.int n), some (.int c), v9, some (.mdl (dTab rows)), some .non, rfl⟩
  · rintro e g' ⟨hg', v4, v2, v3, v5, v6, v7, v8, v9, v10, v11, rfl⟩
    trivial
end PV
set_option Elab.async false
set_option linter.all false
set_option maxRecDepth 100000
set_option maxHeartbeats 4000000
/-! PVE5: what the written part must say of a class of errors with one field. -/
namespace PV
open PySem L2 PySem.Spec PyProof.Rows NdefX

structure XFdG (P : Program) (K : PySem.W.Frag) (mg : Str → Option Value) (C : Addr) (fl : Str) : Prop where
  at_ : ∃ fI fd, OexC K C ∧ PySem.W.findIn K (.ref C) "__init__" = some (some (.ref fI)) ∧ PySem.W.typeIn K (.ref fI) = some (.type "function") ∧ Binds K fd ["self", fl] [] ∧
    ∀ (w : World) (base : Heap), FnOk P w K mg base (L2.CX P w) 1 fI fd ["self", fl] (spSup C fl)
theorem XFdG.k {P : Program} {K : PySem.W.Frag} {mg : Str → Option Value} {c : Cn} {C : Addr} {x fl : Str} (h : XFdG P K mg C fl) (hm : mg x = some (.ref C)) (hf : c.fa x = some C) : XFdK P K mg c x fl := by
  obtain ⟨fI, fd, h1, h2, h3, h4, h5⟩ := h.at_
  exact ⟨C, fI, fd, hm, hf, h1, h2, h3, h4, h5⟩
section
variable {P : Program} {K : PySem.W.Frag} {h : Heap} {mg : Str → Option Value} {C f cc cda N : Addr} {nm q qual fl tx file : Str} {bs bm sub : List Value} {sn : List Str} {ab : Bool} {col : Option Bool} {dd : Option Addr} {k0 k1 k2 k3 k5 : Option Value}
theorem excInit_mk (l : K.lookup C = some (excClassObj nm q C N bs bm true sn sub ab col dd k0 k1 k2 k3 k5 "ValueError.__new__")) (ht : PySem.W.excTail veMro bm = true) : PySem.W.excInitIn K C veMro "ValueError.__new__" = true := by
  unfold PySem.W.excInitIn
  rw [l]
  simp [excClassObj, ht]
theorem xfdg_mk {st : Stmt} {ccl oc cdl dcl : Value} {cld od osd csd an : Option Addr} {csl osl dsl : Array (Option Value)} {vs : Array Value} {tf : Tok} {dV kV doc pm ct : Value} {ar : Arg} {p0 p1 p2 p3 p4 p5 q1 q2 q3 q4 : Pos} {kk : Nat}
    (X : K.In h) (G : h.Ns mainGlobals mg) (lc : K.lookup C = some (excClassObj nm q C N bs bm true sn sub ab col dd k0 k1 k2 k3 k5 "ValueError.__new__")) (hr : PySem.HandSPX.refsVE bm = true) (ht : PySem.W.excTail veMro bm = true)
    (sa : PySem.W.findIn K (.ref C) "__setattr__" = some (some (.builtin "object.__setattr__"))) (sb : PySem.W.subIn K (.ref C) (.type "BaseException") = some true) (ty : PySem.W.typeIn K (.ref C) = some (.type "type")) (kp : PySem.W.keepIn K (.ref C) = true)
    (su : PySem.W.ks_superIn K C C "__init__" = some (some (.builtin "ValueError.__init__"))) (ve : PySem.W.subIn K (.ref C) (.type "ValueError") = some true) (me : PySem.W.mroIn K C (.ref C) = some true) (any : PySem.W.nsIn K cStatics "thirdparty.any" = some none)
    (lcell : K.lookup cc = some ⟨ccl, cld, .cell (some (.ref C)), csl⟩) (lcode : K.lookup cda = some ⟨dcl, csd, .fields vs, dsl⟩) (hvs : vs[2]? = some (.str file tf))
    (ini : PySem.W.findIn K (.ref C) "__init__" = some (some (.ref f))) (tyf : PySem.W.typeIn K (.ref f) = some (.type "function"))
    (lf : K.lookup f = some ⟨oc, od, .func (PySem.W.fnX "__init__" qual (defArgs st) (defBody st) (defScope st) [("__class__", cc)] dV kV doc pm an (.ref cda) ct), osl⟩) (hcd : PySem.W.codeIn K (.ref cda) qual = true)
    (no : PySem.W.findIn K (.ref C) fl = some none) (zs : PySem.W.nsIn K mainGlobals "super" = some none)
    (body : defBody st = [.Expr (.Call (.Attribute (.Call (.Name "super" p0) [] [] p1) "__init__" p2) [.Constant (.str tx) kk p3] [] p4) p5, .Assign [.Attribute (.Name "self" q1) fl q2] (.Name fl q3) q4]) (hln : (p2.endLine == p4.line) = true)
    (Sc : NScope ["self", fl, "__class__"] ["self", fl] ["__class__"] (defScope st)) (hks : (defScope st).names.lookup ("super" : Str) = some .globalImplicit) (hp : ((defArgs st).posonlyargs ++ (defArgs st).args).head? = some ar) (har : ar.arg = ("self" : Str))
    (hb : ∀ us : List Value, us.length = (["self", fl] : List Str).length → bindArgs (PySem.W.fnX "__init__" qual (defArgs st) (defBody st) (defScope st) [("__class__", cc)] dV kV doc pm an (.ref cda) ct) ⟨us, []⟩ = pure ((["self", fl] : List Str).zip us))
    (hfile : ((P.main.file : Str) == file) = true) (htop : (P.main.scope.names.lookup ("super" : Str)).isSome = false) (hf0 : (fl == ("__debug__" : Str)) = false) (hf1 : (fl == ("__classdict__" : Str)) = false) : XFdG P K mg C fl := by
  have ox : OexC K C := ⟨⟨_, _, _, _, _, _, _, _, _, _, _, _, _, _, _, lc, hr⟩, sa, sb, ty, kp⟩
  refine ⟨f, _, ox, ini, tyf, Binds.all hb, fun w base => ?_⟩
  rw [body] at lf ⊢
  exact sup_ok (k := 0) (file := file) ⟨ox, excInit_mk lc ht, su, ve, me, ⟨_, _, _, lcell⟩, ⟨_, _, _, _, _, lcode, hvs⟩, any⟩ lf hln hcd Sc hks (PySem.W.mg_none_of X G zs) no hp har hfile htop hf0 hf1
end
end PV
set_option Elab.async false
set_option linter.all false
set_option maxRecDepth 100000
set_option maxHeartbeats 4000000
/-! PV28: the parts are put together: the recursion of _law_alike, the law's own body. -/
namespace PV
open PySem L2 PySem.Spec PyProof.Rows

/-- f says less than f' -/
def SemF.le (f f' : SemF) : Prop := ∀ ds g, f ds g = .stuck ∨ f ds g = f' ds g
theorem spOf_le {c : Cn} {k : Nat} {f f' : SemF} (h : SemF.le f' f) {vs : List V} {H : Hp} {Q : VK} {E : XK} (p : spOf c k f' vs H Q E) : spOf c k f vs H Q E := by
  obtain ⟨hl, F, ds, g, B, r, q⟩ := p
  refine ⟨hl, F, ds, g, B, r, ?_⟩
  rcases h ds g with e | e
  · rw [e] at q; exact q.elim
  · rw [← e]; exact q
section
variable {P : Program} {w : World} {K : PySem.W.Frag} {mg : Str → Option Value} {base : Heap} {c : Cn} {lvl : Nat} {tab : List (Str × Entry)} {props : List (Str × SemF)} {nums : List (Str × Int)} {cls : List Str} {mk : Option SemF}
def stuckF : SemF := fun _ _ => .stuck
theorem fn_stuck {k : Nat} {f : Addr} {fd : FuncData} {ps : List Str} {n : Nat} : FnOk P w K mg base (L2.CX P w) k f fd ps (spOf c n stuckF) :=
  ⟨fun vs H Q E h => by obtain ⟨_, _, _, _, _, _, q⟩ := h; exact q.elim, fun A outer s H args us vs Q E _ _ _ _ h => by obtain ⟨_, _, _, _, _, _, q⟩ := h; exact q.elim⟩
theorem TabOk.mono {l : Nat} (t : TabOk P w K mg base c lvl tab) (h : lvl ≤ l) : TabOk P w K mg base c l tab := ⟨fun x en e => by
  obtain ⟨k, fa, fd, ps, hk, r⟩ := t.at_ x en e
  exact ⟨k, fa, fd, ps, by omega, r⟩⟩
/-- a def where it stands -/
structure Here (K : PySem.W.Frag) (mg : Str → Option Value) (x : Str) (st : Stmt) (f : Addr) (fd : FuncData) : Prop where
  fn : Fun K x x st f fd
  mg : mg x = some (.ref f)
theorem here_mk {h : Heap} (X : K.In h) (G : h.Ns mainGlobals mg) {x : Str} {st : Stmt} {f : Addr} {od an : Option Addr} {sl : Array (Option Value)} {oc kV dc pm cd ct : Value}
    (a : PySem.W.nsIn K mainGlobals x = some (some (.ref f))) (l : K.lookup f = some ⟨oc, od, .func (PySem.W.fnOf x x (defArgs st) (defBody st) (defScope st) .none kV dc pm an cd ct), sl⟩) (cc : PySem.W.codeIn K cd x = true) (k : PySem.W.keepIn K (.ref f) = true) :
    Here K mg x st f (PySem.W.fnOf x x (defArgs st) (defBody st) (defScope st) .none kV dc pm an cd ct) := ⟨fun_mk l cc k, PySem.W.mg_of X G a⟩
/-- one more def in the table -/
theorem TabOk.add (t : TabOk P w K mg base c lvl tab) (T : Top P K mg c nums cls) (pr : PrOk P w K mg base c lvl props) (mo : MkOk P w K mg base c lvl mk) {x : Str} {st : Stmt} {f : Addr} {fd : FuncData} {N ps : List Str} {n fuel : Nat} {nest : List Nat} {mv : List (Nat × Nat)} {m : S} {xf : Bool} (H : Here K mg x st f fd) (Sc : FnScope N ps (defScope st)) (hn : ps.length = n)
    (hb : Binds K fd ps []) (hf : c.fa x = some f) (hc : cSs fuel (gOf N (defScope st) tab nums props cls nest mk xf) mv (defBody st) = some m) (hx : xf = true → 2 ≤ lvl := by (intro h; cases h)) : TabOk P w K mg base c (lvl + 1) ((x, ⟨n, runFn N.length m⟩) :: tab) :=
  t.cons (def_ok T t pr mo H.fn Sc hn hc hx) H.mg H.fn.kp hb hf
theorem alikeN_at (n : Nat) (ds : List D) (g : Rng) : alikeN n ds g = .stuck ∨ ∃ a b, ds = [a, b] ∧ a.lev n = true ∧ b.lev n = true ∧ alikeN n ds g = .ok (.dat (.bl (alk a b))) g := by
  match ds with
  | [] => exact .inl rfl
  | [_] => exact .inl rfl
  | _ :: _ :: _ :: _ => exact .inl rfl
  | [a, b] =>
    by_cases h : a.lev n = true ∧ b.lev n = true
    · exact .inr ⟨a, b, rfl, h.1, h.2, if_pos h⟩
    · exact .inl (if_neg h)
/-- the recursion of _law_alike -/
theorem alike_chain (T : Top P K mg c nums cls) {st : Stmt} {f : Addr} {fd : FuncData} {N ps : List Str} {fuel : Nat} {nest : List Nat} {mv : List (Nat × Nat)} (H : Here K mg "_law_alike" st f fd) (Sc : FnScope N ps (defScope st)) (hn : ps.length = 2) (hN : N.length = 3) (hb : Binds K fd ps []) (hf : c.fa "_law_alike" = some f)
    (hc : ∀ s, cSs fuel (gOf N (defScope st) [("_law_alike", ⟨2, s⟩)] nums [] cls nest) mv (defBody st) = some (c_l_alike s)) : ∀ n, n ≤ 9 → FnOk P w K mg base (L2.CX P w) (n + 1) f fd ps (spOf c 2 (match n with | 0 => stuckF | n + 1 => alikeN n))
  | 0, _ => fn_stuck
  | 1, _ => by
    have t : TabOk P w K mg base c 1 [("_law_alike", ⟨2, stuckF⟩)] := (TabOk.nil (lvl := 0)).cons fn_stuck H.mg H.fn.kp hb hf
    refine (def_ok T t PrOk.nil MkOk.nil H.fn Sc hn (hc _)).imp fun vs H Q E => spOf_le fun ds g => ?_
    rw [hN]
    rcases alikeN_at 0 ds g with e | ⟨a, b, rfl, h1, h2, e⟩
    · exact .inl e
    · exact .inr (e.trans (alike_step0 h1 h2).symm)
  | n + 2, hn9 => by
    have ih := alike_chain T H Sc hn hN hb hf hc (n + 1) (by omega)
    have t : TabOk P w K mg base c (n + 2) [("_law_alike", ⟨2, alikeN n⟩)] := (TabOk.nil (lvl := n + 1)).cons ih H.mg H.fn.kp hb hf
    refine (def_ok T t PrOk.nil MkOk.nil H.fn Sc hn (hc _)).imp fun vs H Q E => spOf_le fun ds g => ?_
    rw [hN]
    rcases alikeN_at (n + 1) ds g with e | ⟨a, b, rfl, h1, h2, e⟩
    · exact .inl e
    · exact .inr (e.trans (alike_step (by omega) h1 h2).symm)
theorem alike_at (T : Top P K mg c nums cls) {st : Stmt} {f : Addr} {fd : FuncData} {N ps : List Str} {fuel : Nat} {nest : List Nat} {mv : List (Nat × Nat)} (H : Here K mg "_law_alike" st f fd) (Sc : FnScope N ps (defScope st)) (hn : ps.length = 2) (hN : N.length = 3) (hb : Binds K fd ps []) (hf : c.fa "_law_alike" = some f)
    (hc : ∀ s, cSs fuel (gOf N (defScope st) [("_law_alike", ⟨2, s⟩)] nums [] cls nest) mv (defBody st) = some (c_l_alike s)) : FnOk P w K mg base (L2.CX P w) 10 f fd ps (spOf c 2 alikeF) := alike_chain T H Sc hn hN hb hf hc 9 (Nat.le_refl _)
/-! ### the law -/
def spMix (K : PySem.W.Frag) : Sp := fun vs H Q _ => ∃ (a : Addr) (ns : List Int) (seed : Int), vs = [.ref a, .int seed] ∧ SqL K H a (ns.map V.int) ∧ ns.length ≤ 1000 ∧
  ∀ C L s, H C = none → upd H C (.lst (ns.map V.int)) L = none → Q (.ref L) (upd (upd H C (.lst (ns.map V.int))) L (.lst [.int s, .ref C, .int 0]))
def spLaw (K : PySem.W.Frag) : Sp := fun vs H Q _ => ∃ (a : Addr) (ns : List Int), vs = [.ref a] ∧ SqL K H a (ns.map V.int) ∧ ns.length ≤ 63 ∧ ∀ H', Q (.bl true) H'
theorem law_ok {Md : Addr} {fa : Str → Option Addr} (T : ∀ L C, Top P K mg ⟨L, C, Md, fa⟩ nums cls) (tb : ∀ L C, TabOk P w K mg base ⟨L, C, Md, fa⟩ lvl tab) (pr : ∀ L C, PrOk P w K mg base ⟨L, C, Md, fa⟩ lvl props) (mo : ∀ L C, MkOk P w K mg base ⟨L, C, Md, fa⟩ lvl mk)
    {st : Stmt} {f fm : Addr} {fd fdm : FuncData} {N : List Str} {fuel j : Nat} {nest : List Nat} {mv : List (Nat × Nat)} {px pm ps pc pq pa : Pos} {seed : Int} {rest : List Stmt} {m : S} (F : Fun K "law" "law" st f fd) (Sc : FnScope N ["_law_script"] (defScope st))
    (hbody : defBody st = .Assign [.Name "_law_h" px] (.Call (.Name "_law_mix" pm) [.Name "_law_script" ps, .Constant (.int seed) j pc] [] pq) pa :: rest) (Gm : FnOk P w K mg base (L2.CX P w) 1 fm fdm ["_law_script", "_law_seed"] (spMix K)) (hm : mg "_law_mix" = some (.ref fm)) (km : PySem.W.keepIn K (.ref fm) = true) (bm : Binds K fdm ["_law_script", "_law_seed"] [])
    (hN0 : N[0]? = some ("_law_script" : Str)) (hN1 : N[1]? = some ("_law_h" : Str)) (v0 : Vis (defScope st) "_law_script") (lh : L2.Loc (defScope st) "_law_h") (gm : (defScope st).names.lookup ("_law_mix" : Str) = some .globalImplicit) (hlv : 1 ≤ lvl)
    (hrest : cSs fuel (gOf N (defScope st) tab nums props cls nest mk) mv rest = some m) (plain : ∀ g, Gd g → Wp (m (none :: some (.dat .hnd) :: List.replicate (N.length - 2) none) g) (outK fun sv _ => sv = .dat (.bl true))) :
    FnOk P w K mg base (L2.CX P w) (lvl + 1) f fd ["_law_script"] (spLaw K) := by
  refine F.okX Sc (fun vs H Q E h => by obtain ⟨_, _, rfl, _⟩ := h; rfl) (fun cdv A outer s H vs Q E hr h => ?_)
  obtain ⟨a, ns, rfl, hS, hlen, hQ⟩ := h
  have hr1 : Room 1 (A.deeper (envOfC "law" (defScope st) s.heap.objs.size f cdv)) := hr.mono hlv
  have i0 : PE (cxOf (L2.CX P w) P w K mg base N "law" (defScope st) f cdv A outer s H E) (.Name "_law_script" ps) (tVar 0) := pe_var hN0 v0 (by decide) (by decide)
  have i1 : PE (cxOf (L2.CX P w) P w K mg base N "law" (defScope st) f cdv A outer s H E) (.Constant (.int seed) j pc) (tC (.int seed)) := pe_int
  have S1 := ps_set (X := cxOf (L2.CX P w) P w K mg base N "law" (defScope st) f cdv A outer s H E) (i := 1) (pos := pa) (pos' := px) Sc.nd hN1 lh (pe_callSD (dvs := []) (E := fun _ _ _ _ => False) Gm hr1 (x := "_law_mix") (p := pm) (pos := pq) (show Gl _ _ from gm) hm km bm .nil (fun σ => passAt takes0 σ) (pa_cons i0 (pa_cons i1 pa_nil rfl) rfl) (by decide) rfl rfl) (no_comp rfl) (.inl rfl)
  rw [hbody]
  have S2 : PSs (cxOf (L2.CX P w) P w K mg base N "law" (defScope st) f cdv A outer s H E) rest (fun D σ H => ∃ L C, ∃ F0 H0 Fb, tS ⟨L, C, Md, fa⟩ (fnW E) F0 H0 Fb m D σ H) := ⟨fun pins s' σ H' D I ⟨L, C, F0, H0, Fb, h⟩ =>
    ((soundS fuel).ss (gx_of (T L C) (tb L C) (pr L C) (mo L C) Sc hr) (passes_of rfl) ⟨rfl, rfl⟩ hrest F0 H0 Fb).run pins s' σ H' D I h⟩
  refine ⟨_, pss_cons S1 S2, ?_⟩
  refine ⟨.ref a, by rfl, a, ns, seed, rfl, hS, by omega, fun C L s0 hC hL => ?_⟩
  have hLC : upd (upd H C (.lst (ns.map V.int))) L (.lst [.int s0, .ref C, .int 0]) C = some (.lst (ns.map V.int)) := by
    rw [upd_ne (ne_of_none upd_same hL)]; exact upd_same
  have B : Base ⟨L, C, Md, fa⟩ (fun _ => none) ⟨s0, ns, 0⟩ (upd (upd H C (.lst (ns.map V.int))) L (.lst [.int s0, .ref C, .int 0])) :=
    ⟨fun _ _ h => (by cases h), upd_same, hLC, fun z => (ne_of_none upd_same hL : C ≠ L) z.symm, rfl, rfl⟩
  have hNl : 2 ≤ N.length := by
    have := (List.getElem?_eq_some_iff.mp hN1).1
    omega
  have R : Rel ⟨L, C, Md, fa⟩ (fun _ => none) noT (none :: some (.dat .hnd) :: List.replicate (N.length - 2) none) ⟨s0, ns, 0⟩ ((L2.start N [.ref a]).set 1 (some (.ref L))) (upd (upd H C (.lst (ns.map V.int))) L (.lst [.int s0, .ref C, .int 0])) := by
    refine ⟨B, rfl, rfl, (fun _ _ q => by cases q), by simp [L2.start]; omega, fun i sv q => ?_⟩
    match i, q with
    | 0, q => cases q
    | 1, q =>
      cases q
      exact ⟨.ref L, by rw [List.getElem?_set_self (by simp [L2.start]; omega)], .hnd⟩
    | i + 2, q =>
      have q : (List.replicate (N.length - 2) (none : Option SV))[i]? = some (some sv) := q
      have := List.eq_of_mem_replicate (List.mem_of_getElem? q)
      cases this
  refine ⟨L, C, fun _ => none, _, fun _ => none, fun _ => none, noT, _, ⟨s0, ns, 0⟩, R, Old.refl B, ?_⟩
  have pl := plain ⟨s0, ns, 0⟩ (show ns.length ≤ 1000 by omega)
  cases hm : m (none :: some (.dat .hnd) :: List.replicate (N.length - 2) none) ⟨s0, ns, 0⟩ with
  | stuck => rw [hm] at pl; exact pl.elim
  | exc x e' g' => rw [hm] at pl; exact pl.elim
  | ok r e' g' =>
    rw [hm] at pl
    cases r with
    | none =>
      have pl : (SV.dat .non : SV) = .dat (.bl true) := pl
      cases pl
    | some sv =>
      have pl : sv = .dat (.bl true) := pl
      subst pl
      refine fun v F' H' B' x' sb o => ?_
      have o : Rep _ F' v (.bl true) := o
      cases o
      exact hQ H'
end
end PV
set_option Elab.async false
set_option linter.all false
set_option maxRecDepth 100000
set_option maxHeartbeats 4000000
namespace PV
open PySem L2 PySem.Spec PyProof.Rows NdefX
abbrev pw := PySem.Challenge.pw_nothinglost_k01_models_refused
def stAt (i : Nat) : Stmt := pw.main.body.getD i (.Pass ⟨0,0,0,0⟩)
def inCls (j : Nat) : Stmt → Stmt
  | .ClassDef _ _ _ body _ _ _ _ _ _ _ => body.getD j (.Pass ⟨0,0,0,0⟩)
  | s => s
def sMix : Stmt := stAt 14
def nMix : List Str := ["_law_script", "_law_seed", "_law_state", "_law_cell"]
theorem scMix : FnScope nMix ["_law_script", "_law_seed"] (defScope sMix) := ⟨rfl, rfl, rfl, by decide +kernel, rfl, by decide +kernel, by decide +kernel⟩
def mix1 (st x : Int) : Int := (st * 48271 + x.fmod 2147483629 + 1).fmod 2147483647
def spMix1 (K : PySem.W.Frag) : Sp := fun vs H Q _ => ∃ (a : Addr) (ns : List Int) (seed : Int), vs = [.ref a, .int seed] ∧ SqL K H a (ns.map V.int) ∧ ns.length ≤ 1000 ∧
  ∀ C L, H C = none → upd H C (.lst (ns.map V.int)) L = none → Q (.ref L) (upd (upd H C (.lst (ns.map V.int))) L (.lst [.int (ns.foldl mix1 seed), .ref C, .int 0]))
section
variable {P : Program} {w : World} {K : PySem.W.Frag} {mg : Str → Option Value} {base : Heap}
theorem ok_mix {f : Addr} {fd : FuncData} (F : Fun K "_law_mix" "_law_mix" sMix f fd) (bi : ∀ x, biNames.elem x = true → mg x = none) : FnOk P w K mg base (L2.CX P w) 1 f fd ["_law_script", "_law_seed"] (spMix1 K) := by
  refine F.okX scMix (fun vs H Q E h => by obtain ⟨_, _, _, rfl, _⟩ := h; rfl) (fun cdv A outer s H vs Q E hr h => ?_)
  obtain ⟨a, ns, seed, rfl, hS, hlen, k⟩ := h
  have it : ∀ {X : Cx} {a : Expr} {ta : TE} {p pos : Pos}, Gl X "int" → X.mg "int" = none → PE X a ta → starEach [a] X.env = (false, eval a X.env) :: starEach [] X.env → PE X (.Call (.Name "int" p) [a] [] pos) (tCB rInt1 (tCons ta tNil)) :=
    fun g m h n => pe_callTy call_int1 g m (by decide +kernel) (pa_cons h pa_nil n) (by decide +kernel) (by decide +kernel) n rfl
  have lt : ∀ {X : Cx} {a : Expr} {ta : TE} {p pos : Pos}, Gl X "list" → X.mg "list" = none → PE X a ta → starEach [a] X.env = (false, eval a X.env) :: starEach [] X.env → PE X (.Call (.Name "list" p) [a] [] pos) (tCB (rLstA X.K) (tCons ta tNil)) :=
    fun g m h n => pe_callTy call_list_of g m (by decide +kernel) (pa_cons h pa_nil n) (by decide +kernel) (by decide +kernel) n rfl
  have mI : mg "int" = none := bi _ (by decide +kernel)
  have mL : mg "list" = none := bi _ (by decide +kernel)
  refine ⟨_, pss_cons (ps_set (i := 2) scMix.nd rfl (.inl rfl) (pv 1)) (pss_cons (ps_for (passes_of rfl) rfl (pi_list (pv 0)) (pg_name (i := 3) scMix.nd rfl (.inl rfl))
    (pss_one (ps_set (i := 2) scMix.nd rfl (.inl rfl) (pe_op op_modN (it rfl mI (pe_op op_add (pe_op op_add (pe_op op_mulD (pv 2) pe_int) (pe_op op_modN (it rfl mI (pv 3) rfl) pe_int)) pe_int) rfl) pe_int))))
    (pss_one (ps_ret (pe_lst (pa_cons (pv 2) (pa_cons (lt rfl mL (pv 0) rfl) (pa_cons pe_int pa_nil))))))), ?_⟩
  refine ⟨.int seed, rfl, .ref a, rfl, a, rfl, ⟨_, hS⟩, for_list (K := K) (a := a) (xs := ns.map V.int) (fun i σ H' => H' = H ∧ ∃ v, σ = [some (.ref a), some (.int seed), some (.int ((ns.take i).foldl mix1 seed)), v]) ⟨rfl, none, rfl⟩ (fun i σ H' _ ⟨e, _⟩ => by rw [e]; exact hS) ?_ ?_⟩
  · rintro i y σ H' hi ⟨rfl, v, rfl⟩
    rw [List.getElem?_map] at hi
    cases hx : ns[i]? with
    | none => rw [hx] at hi; cases hi
    | some x =>
      rw [hx] at hi
      cases hi
      refine ⟨.int _, rfl, _, 48271, rfl, rfl, .inr (.inl (by decide)), .int x, rfl, .inl ⟨x, rfl, x, 2147483629, rfl, rfl, (show (2147483629 : Int) ≠ 0 by decide), _, _, rfl, rfl, _, 1, rfl, rfl, .inl ⟨_, rfl, _, 2147483647, rfl, rfl, (show (2147483647 : Int) ≠ 0 by decide), rfl, some (.int x), ?_⟩⟩⟩
      have hlt := (List.getElem?_eq_some_iff.mp hx).1
      rw [List.take_add_one, hx, List.foldl_append]
      rfl
  · rintro σ H' ⟨rfl, v, rfl⟩
    rw [List.length_map, List.take_of_length_le (Nat.le_refl _)]
    refine ⟨.int _, rfl, .ref a, rfl, a, _, rfl, .inl hS, fun C hC => ?_⟩
    refine ⟨by show 3 ≤ sizeLine; decide, fun L hL => ?_⟩
    exact k C L hC hL
end

def sNext : Stmt := stAt 15
def nNext : List Str := ["_law_h", "_law_cap", "_law_cell"]
theorem scNext : FnScope nNext ["_law_h", "_law_cap"] (defScope sNext) := ⟨rfl, rfl, rfl, by decide +kernel, rfl, by decide +kernel, by decide +kernel⟩
section
variable {P : Program} {w : World} {K : PySem.W.Frag} {mg : Str → Option Value} {base : Heap} {c : Cn}
theorem ok_next {f : Addr} {fd : FuncData} (F : Fun K "_law_next" "_law_next" sNext f fd) (bi : ∀ x, biNames.elem x = true → mg x = none) : FnOk P w K mg base (L2.CX P w) 1 f fd ["_law_h", "_law_cap"] (spOf c 2 nextF) := by
  refine F.okX scNext (fun vs H Q E h => h.1) (fun cdv A outer s H vs Q E hr h => ?_)
  obtain ⟨hl, F0, ds, g, B, r, p⟩ := h
  generalize hq : nextF ds g = q at p
  unfold nextF at hq
  split at hq
  · rename_i cap
    split at hq
    · rename_i hc
      subst hq
      have ln : ∀ {X : Cx} {a : Expr} {ta : TE} {p pos : Pos}, Gl X "len" → X.mg "len" = none → PE X a ta → starEach [a] X.env = (false, eval a X.env) :: starEach [] X.env → PE X (.Call (.Name "len" p) [a] [] pos) (tCB (fun xs H Q => ∃ x n, xs = [x] ∧ LenV X.K x H n ∧ Q (.int n) H) (tCons ta tNil)) :=
        fun g m h n => pe_callB call_len g m (by decide +kernel) (pa_cons h pa_nil n) (by decide +kernel) (by decide +kernel) n rfl
      have it : ∀ {X : Cx} {a : Expr} {ta : TE} {p pos : Pos}, Gl X "int" → X.mg "int" = none → PE X a ta → starEach [a] X.env = (false, eval a X.env) :: starEach [] X.env → PE X (.Call (.Name "int" p) [a] [] pos) (tCB rInt1 (tCons ta tNil)) :=
        fun g m h n => pe_callTy call_int1 g m (by decide +kernel) (pa_cons h pa_nil n) (by decide +kernel) (by decide +kernel) n rfl
      have mx : ∀ {X : Cx} {a b : Expr} {ta tb : TE} {p pos : Pos}, X.calm = true → Gl X "max" → X.mg "max" = none → PE X a ta → PE X b tb → starEach [a, b] X.env = (false, eval a X.env) :: starEach [b] X.env → starEach [b] X.env = (false, eval b X.env) :: starEach [] X.env → (backTo pos (starEach [b] X.env)).any (·.1) = false → PE X (.Call (.Name "max" p) [a, b] [] pos) (tCB (fun xs H Q => ∃ i j, xs = [.int i, .int j] ∧ Q (.int (if j > i then j else i)) H) (tCons ta (tCons tb tNil))) :=
        fun hc g m h h2 n n2 n3 => pe_callB (call_max2 hc) g m (by decide +kernel) (pa_cons h (pa_cons h2 pa_nil n2) n) (by decide +kernel) (by decide +kernel) n n3
      have mL : mg "len" = none := bi _ (by decide +kernel)
      have mI : mg "int" = none := bi _ (by decide +kernel)
      have mM : mg "max" = none := bi _ (by decide +kernel)
      refine ⟨_, pss_cons (ps_set (i := 2) scNext.nd rfl (.inl rfl) (pe_ix ix_list (pe_op op_cat (pe_ix ix_list (pv 0) pe_int (plain_ix rfl)) (pe_lst (pa_cons pe_int pa_nil)))
        (pe_op op_modN (it rfl mI (pe_ix ix_list (pv 0) pe_int (plain_ix rfl)) rfl) (mx rfl rfl mM pe_int (ln rfl mL (pe_ix ix_list (pv 0) pe_int (plain_ix rfl)) rfl) rfl rfl rfl)) (plain_ix rfl)))
        (pss_cons (ps_if (pt_cmpR op_ge (pv 2) (pe_op op_pow pe_int pe_int) (no_marks rfl))
          (pss_cons (ps_asg (pe_op op_fdivD (pv 2) (pv 1)) (pg_sub (pe_ix ix_list (pv 0) pe_int (plain_ix rfl)) (pe_op op_modN (it rfl mI (pe_ix ix_list (pv 0) pe_int (plain_ix rfl)) rfl) (ln rfl mL (pe_ix ix_list (pv 0) pe_int (plain_ix rfl)) rfl)) set_list))
            (pss_one (ps_ret (pe_op op_modN (it rfl mI (pv 2) rfl) (pv 1))))) pss_nil)
        (pss_cons (ps_asg (pe_op op_modN (it rfl mI (pe_op op_add (pe_op op_add (pe_op op_mulD (pe_ix ix_list (pv 0) pe_int (plain_ix rfl)) pe_int) (pe_op op_mulD (pv 2) pe_int)) pe_int) rfl) pe_int) (pg_sub (pv 0) pe_int set_list))
        (pss_cons (ps_asg (pe_op op_add (pe_ix ix_list (pv 0) pe_int (plain_ix rfl)) pe_int) (pg_sub (pv 0) pe_int set_list))
        (pss_one (ps_ret (pe_op op_modN (it rfl mI (pe_op op_fdivD (pe_ix ix_list (pv 0) pe_int (plain_ix rfl)) pe_int) rfl) (pv 1))))))), ?_⟩
      cases r with
      | cons r1 r2 =>
        cases r1
        cases r2 with
        | cons r2 r3 =>
          cases r2
          cases r3
          have hL := B.hL
          have hC := B.hC
          refine ⟨.ref c.L, rfl, c.L, _, 1, .ref c.C, rfl, rfl, .of hL, rfl, by show 1 ≤ sizeLine; decide, fun l hl => ⟨c.C, l, _, [.int 0], rfl, rfl, by rw [upd_ne (ne_of_none hC hl)]; exact hC, upd_same, ?_, fun ap hp => ?_⟩⟩
          · rw [List.length_map]; exact line_size (n := g.cells.length + 1) (by have := hc.2.2; show g.cells.length + 1 ≤ 100000; omega)
          have nLl : c.L ≠ l := ne_of_none hL hl
          have nCl : c.C ≠ l := ne_of_none hC hl
          have hL1 : upd H l (.lst [.int 0]) c.L = some (.lst [.int g.st, .ref c.C, .int g.ix]) := by rw [upd_ne nLl]; exact hL
          have hC1 : upd H l (.lst [.int 0]) c.C = some (.lst (g.cells.map V.int)) := by rw [upd_ne nCl]; exact hC
          have nLp : c.L ≠ ap := ne_of_none hL1 hp
          have nCp : c.C ≠ ap := ne_of_none hC1 hp
          generalize hH2 : upd (upd H l (.lst [.int 0])) ap (.lst (g.cells.map V.int ++ [V.int 0])) = H2
          have hL2 : H2 c.L = some (.lst [.int g.st, .ref c.C, .int g.ix]) := by rw [← hH2, upd_ne nLp]; exact hL1
          have hC2 : H2 c.C = some (.lst (g.cells.map V.int)) := by rw [← hH2, upd_ne nCp]; exact hC1
          have hp2 : H2 ap = some (.lst (g.cells.map V.int ++ [V.int 0])) := by rw [← hH2, upd_same]
          refine ⟨.ref c.L, rfl, c.L, _, 2, .int g.ix, rfl, rfl, .of hL2, rfl, .inl ⟨g.ix, rfl, ?_⟩⟩
          refine ⟨.ref c.L, rfl, c.L, _, 1, .ref c.C, rfl, rfl, .of hL2, rfl, .ref c.C, g.cells.length, rfl, .inl ⟨_, .of hC2, by simp⟩, ?_⟩
          refine ⟨1, (g.cells.length : Int), rfl, g.ix, _, rfl, rfl, ?_, ?_⟩
          · split <;> omega
          have hmax : (if (g.cells.length : Int) > 1 then (g.cells.length : Int) else 1) = max 1 (g.cells.length : Int) := by split <;> omega
          refine ⟨ap, _, _, .int g.at, rfl, rfl, .of hp2, by rw [hmax]; exact g.at_val, ?_⟩
          refine ⟨.int g.at, rfl, 10, 18, rfl, rfl, ⟨by decide, by decide, by decide⟩, g.at, _, rfl, rfl, _, rfl, ?_⟩
          have ebig : ((10 : Int) ^ (18 : Int).toNat) = bigCell := by decide
          have hk2 : ∀ a o, H a = some o → H2 a = some o := fun a o q => by
            rw [← hH2, upd_ne (ne_of_none (by rw [upd_ne (ne_of_none q hl)]; exact q) hp), upd_ne (ne_of_none q hl)]; exact q
          have hn2 : ∀ a, H2 a = none → H a = none := fun a q => by
            cases z : H a with
            | none => rfl
            | some o => rw [hk2 a o z] at q; cases q
          have hcap : cap ≠ 0 := by omega
          have fin : ∀ (g' : Rng) (H3 : Hp), (∀ a, a ≠ c.L → a ≠ c.C → H3 a = H2 a) → H3 c.L = some (.lst [.int g'.st, .ref c.C, .int g'.ix]) → H3 c.C = some (.lst (g'.cells.map V.int)) → Base c F0 g' H3 ∧ ExtF c F0 H F0 H3 := fun g' H3 e1 e2 e3 => by
            refine ⟨⟨fun a o q => ?_, e2, e3, B.ne, B.FL, B.FC⟩, ⟨Sub.refl _, fun a o n1 n2 q => by rw [e1 a n1 n2]; exact hk2 a o q, fun a q => ?_, fun a o q => .inl q⟩⟩
            · rw [e1 a (by rintro rfl; rw [B.FL] at q; cases q) (by rintro rfl; rw [B.FC] at q; cases q)]
              exact hk2 a o (B.sub a o q)
            · by_cases n1 : a = c.L
              · subst n1; rw [e2] at q; cases q
              · by_cases n2 : a = c.C
                · subst n2; rw [e3] at q; cases q
                · rw [e1 a n1 n2] at q; exact hn2 a q
          by_cases hb : bigCell ≤ g.at
          · obtain ⟨hz, hsp⟩ := Rng.spot_val hb
            have hnx : g.next cap = (g.at.fmod cap, { g with cells := g.cells.set g.spot (g.at.fdiv cap) }) := by unfold Rng.next; rw [if_pos hb]
            rw [hnx] at p
            dsimp only
            rw [if_pos (decide_eq_true (by rw [ebig]; exact hb))]
            refine ⟨.int g.at, rfl, .int cap, rfl, g.at, cap, rfl, rfl, ⟨hcap, ?_⟩, ?_⟩
            · have : cap.natAbs < 2 ^ 60 := by omega
              exact Nat.lt_trans this (Nat.pow_lt_pow_right (by decide) (by decide))
            refine ⟨.ref c.L, rfl, c.L, _, 1, .ref c.C, rfl, rfl, .of hL2, rfl, .ref c.L, rfl, c.L, _, 2, .int g.ix, rfl, rfl, .of hL2, rfl, .inl ⟨g.ix, rfl, ?_⟩⟩
            refine ⟨.ref c.L, rfl, c.L, _, 1, .ref c.C, rfl, rfl, .of hL2, rfl, .ref c.C, g.cells.length, rfl, .inl ⟨_, .of hC2, by simp⟩, ?_⟩
            refine ⟨g.ix, _, rfl, rfl, hz, c.C, _, _, g.spot, rfl, rfl, hC2, by rw [List.length_map]; exact hsp, ?_⟩
            refine ⟨.int g.at, rfl, .inl ⟨g.at, rfl, .int cap, rfl, g.at, cap, rfl, rfl, hcap, ?_⟩⟩
            obtain ⟨b1, b2⟩ := fin { g with cells := g.cells.set g.spot (g.at.fdiv cap) } (upd H2 c.C (.lst ((g.cells.map V.int).set g.spot (.int (g.at.fdiv cap))))) (fun a n1 n2 => upd_ne n2) (by rw [upd_ne B.ne]; exact hL2) (by rw [upd_same]; simp [List.map_set])
            exact p _ F0 _ b1 b2 (.int _)
          · have hnx : g.next cap = ((g.turn.fdiv 7).fmod cap, ⟨g.turn, g.cells, g.ix + 1⟩) := by unfold Rng.next; rw [if_neg hb]
            rw [hnx] at p
            dsimp only
            rw [if_neg (by simp only [decide_eq_true_eq]; rw [ebig]; exact hb)]
            refine ⟨.ref c.L, rfl, c.L, _, 0, .int g.st, rfl, rfl, .of hL2, rfl, g.st, 48271, rfl, rfl, .inr (.inl (by decide)), .int g.at, rfl, g.at, 69621, rfl, rfl, .inr (.inl (by decide)), _, _, rfl, rfl, _, 11, rfl, rfl, .inl ⟨_, rfl, _, 2147483647, rfl, rfl, (show (2147483647 : Int) ≠ 0 by decide), ?_⟩⟩
            refine ⟨.ref c.L, rfl, c.L, _, 0, 0, rfl, rfl, hL2, rfl, ?_⟩
            have hL3 : upd H2 c.L (.lst ([V.int g.st, .ref c.C, .int g.ix].set 0 (.int g.turn))) c.L = some (.lst [.int g.turn, .ref c.C, .int g.ix]) := upd_same
            refine ⟨.ref c.L, rfl, c.L, _, 2, .int g.ix, rfl, rfl, .of hL3, rfl, g.ix, 1, rfl, rfl, .ref c.L, rfl, c.L, _, 2, 2, rfl, rfl, hL3, rfl, ?_⟩
            have hL4 : upd (upd H2 c.L (.lst ([V.int g.st, .ref c.C, .int g.ix].set 0 (.int g.turn)))) c.L (.lst ([V.int g.turn, .ref c.C, .int g.ix].set 2 (.int (g.ix + 1)))) c.L = some (.lst [.int g.turn, .ref c.C, .int (g.ix + 1)]) := upd_same
            refine ⟨.ref c.L, rfl, c.L, _, 0, .int g.turn, rfl, rfl, .of hL4, rfl, g.turn, 7, rfl, rfl, ⟨by decide, by decide⟩, .inl ⟨_, rfl, .int cap, rfl, _, cap, rfl, rfl, hcap, ?_⟩⟩
            obtain ⟨b1, b2⟩ := fin ⟨g.turn, g.cells, g.ix + 1⟩ _ (fun a n1 n2 => by rw [upd_ne n1, upd_ne n1]) hL4 (by rw [upd_ne (Ne.symm B.ne), upd_ne (Ne.symm B.ne)]; exact hC2)
            exact p _ F0 _ b1 b2 (.int _)
    · subst hq; exact p.elim
  · subst hq; exact p.elim
end

def nums0 : List (Str × Int) := [("MOST_TABLES", 4), ("MOST_OUTCOMES", 27), ("MOST_WEIGHT", 1000000)]
theorem sc_alike_law : FnScope ["_law_found", "_law_due", "_law_k"] ["_law_found", "_law_due"] (defScope (stAt 16)) := ⟨rfl, rfl, rfl, by decide +kernel, rfl, by decide +kernel, by decide +kernel⟩
theorem cc_alike_law (s : SemF) : cSs 60 (gOf ["_law_found", "_law_due", "_law_k"] (defScope (stAt 16)) [("_law_alike", ⟨2, s⟩)] nums0 [] ["Model", "InvalidOutcome", "InvalidTables", "LossError"] []) [] (defBody (stAt 16)) = some (c_l_alike s) := by kernel_rfl
theorem sc_prop_tables : FnScope ["self"] ["self"] (defScope (inCls 1 (stAt 12))) := ⟨rfl, rfl, rfl, by decide +kernel, rfl, by decide +kernel, by decide +kernel⟩
theorem cc_prop_tables : cSs 60 (gOf ["self"] (defScope (inCls 1 (stAt 12))) [] nums0 [] ["Model", "InvalidOutcome", "InvalidTables", "LossError"] []) [] (defBody (inCls 1 (stAt 12))) = some c_tables := by kernel_rfl
theorem sc_prop_outcomes : FnScope ["self"] ["self"] (defScope (inCls 2 (stAt 12))) := ⟨rfl, rfl, rfl, by decide +kernel, rfl, by decide +kernel, by decide +kernel⟩
theorem cc_prop_outcomes : cSs 60 (gOf ["self"] (defScope (inCls 2 (stAt 12))) [] nums0 [] ["Model", "InvalidOutcome", "InvalidTables", "LossError"] []) [] (defBody (inCls 2 (stAt 12))) = some c_outcomes := by kernel_rfl
theorem sc_prop_len : FnScope ["self"] ["self"] (defScope (inCls 3 (stAt 12))) := ⟨rfl, rfl, rfl, by decide +kernel, rfl, by decide +kernel, by decide +kernel⟩
theorem cc_prop_len : cSs 60 (gOf ["self"] (defScope (inCls 3 (stAt 12))) [] nums0 [] ["Model", "InvalidOutcome", "InvalidTables", "LossError"] []) [] (defBody (inCls 3 (stAt 12))) = some c_len := by kernel_rfl
theorem sc_prop_eq : FnScope ["self", "other"] ["self", "other"] (defScope (inCls 4 (stAt 12))) := ⟨rfl, rfl, rfl, by decide +kernel, rfl, by decide +kernel, by decide +kernel⟩
theorem cc_prop_eq : cSs 60 (gOf ["self", "other"] (defScope (inCls 4 (stAt 12))) [] nums0 [] ["Model", "InvalidOutcome", "InvalidTables", "LossError"] []) [] (defBody (inCls 4 (stAt 12))) = some c_eq := by kernel_rfl
noncomputable def pr0 : List (Str × SemF) := [("tables", f_tables), ("outcomes", f_outcomes)]
noncomputable def prD : List (Str × SemF) := [("__len__", f_len), ("__eq__", f_eq), ("tables", f_tables), ("outcomes", f_outcomes)]
noncomputable def tb0 : List (Str × Entry) := [("_law_next", ⟨2, nextF⟩)]
theorem sc_is_integer : FnScope ["thing", "low", "high"] ["thing", "low", "high"] (defScope (stAt 5)) := ⟨rfl, rfl, rfl, by decide +kernel, rfl, by decide +kernel, by decide +kernel⟩
theorem cc_is_integer : cSs 60 (gOf ["thing", "low", "high"] (defScope (stAt 5)) tb0 nums0 [] ["Model", "InvalidOutcome", "InvalidTables", "LossError"] [] none) [] (defBody (stAt 5)) = some c_is_integer := by kernel_rfl
noncomputable def tb1 : List (Str × Entry) := ("is_integer", ⟨3, f_is_integer⟩) :: tb0
theorem sc_is_table : FnScope ["thing", "many", "one"] ["thing", "many"] (defScope (stAt 10)) := ⟨rfl, rfl, rfl, by decide +kernel, rfl, by decide +kernel, by decide +kernel⟩
theorem cc_is_table : cSs 60 (gOf ["thing", "many", "one"] (defScope (stAt 10)) tb1 nums0 [] ["Model", "InvalidOutcome", "InvalidTables", "LossError"] [] none) [] (defBody (stAt 10)) = some c_is_table := by kernel_rfl
noncomputable def tb2 : List (Str × Entry) := ("is_table", ⟨2, f_is_table⟩) :: tb1
theorem sc_check_tables_k01 : FnScope ["thing", "many", "index", "table"] ["thing"] (defScope (stAt 11)) := ⟨rfl, rfl, rfl, by decide +kernel, rfl, by decide +kernel, by decide +kernel⟩
theorem cc_check_tables_k01 : cSs 60 (gOf ["thing", "many", "index", "table"] (defScope (stAt 11)) tb2 nums0 [] ["Model", "InvalidOutcome", "InvalidTables", "LossError"] [] none true) [] (defBody (stAt 11)) = some c_check_tables_k01 := by kernel_rfl
noncomputable def tb3 : List (Str × Entry) := ("check_tables", ⟨1, f_check_tables_k01⟩) :: tb2
noncomputable def tb4 : List (Str × Entry) := ("_law_alike", ⟨2, alikeF⟩) :: tb3
theorem sc_l_pick : FnScope ["_law_h", "_law_things"] ["_law_h", "_law_things"] (defScope (stAt 17)) := ⟨rfl, rfl, rfl, by decide +kernel, rfl, by decide +kernel, by decide +kernel⟩
theorem cc_l_pick : cSs 60 (gOf ["_law_h", "_law_things"] (defScope (stAt 17)) tb4 nums0 pr0 ["Model", "InvalidOutcome", "InvalidTables", "LossError"] [] (some f_init_k01)) [] (defBody (stAt 17)) = some c_l_pick := by kernel_rfl
noncomputable def tb5 : List (Str × Entry) := ("_law_pick", ⟨2, f_l_pick⟩) :: tb4
theorem sc_l_tables : FnScope ["_law_h", "_law_many", "_law_outcomes", "_law_cap", "_law_columns", "_law_k", "_law_rows", "_law_outcome", "_law_table", "_law_column", "_law_times", "_law_row"] ["_law_h", "_law_many", "_law_outcomes", "_law_cap"] (defScope (stAt 18)) := ⟨rfl, rfl, rfl, by decide +kernel, rfl, by decide +kernel, by decide +kernel⟩
theorem cc_l_tables : cSs 60 (gOf ["_law_h", "_law_many", "_law_outcomes", "_law_cap", "_law_columns", "_law_k", "_law_rows", "_law_outcome", "_law_table", "_law_column", "_law_times", "_law_row"] (defScope (stAt 18)) tb5 nums0 pr0 ["Model", "InvalidOutcome", "InvalidTables", "LossError"] [6] (some f_init_k01)) [] (defBody (stAt 18)) = some c_l_tables := by kernel_rfl
noncomputable def tb6 : List (Str × Entry) := ("_law_tables", ⟨4, f_l_tables⟩) :: tb5
theorem sc_l_size : FnScope ["_law_h"] ["_law_h"] (defScope (stAt 19)) := ⟨rfl, rfl, rfl, by decide +kernel, rfl, by decide +kernel, by decide +kernel⟩
theorem cc_l_size : cSs 60 (gOf ["_law_h"] (defScope (stAt 19)) tb6 nums0 pr0 ["Model", "InvalidOutcome", "InvalidTables", "LossError"] [] (some f_init_k01)) [] (defBody (stAt 19)) = some c_l_size := by kernel_rfl
noncomputable def tb7 : List (Str × Entry) := ("_law_size", ⟨1, f_l_size⟩) :: tb6
theorem sc_l_whole : FnScope ["_law_thing"] ["_law_thing"] (defScope (stAt 20)) := ⟨rfl, rfl, rfl, by decide +kernel, rfl, by decide +kernel, by decide +kernel⟩
theorem cc_l_whole : cSs 60 (gOf ["_law_thing"] (defScope (stAt 20)) tb7 nums0 pr0 ["Model", "InvalidOutcome", "InvalidTables", "LossError"] [] (some f_init_k01)) [] (defBody (stAt 20)) = some c_l_whole := by kernel_rfl
noncomputable def tb8 : List (Str × Entry) := ("_law_whole", ⟨1, f_l_whole⟩) :: tb7
theorem sc_l_fault : FnScope ["_law_rows", "_law_many", "_law_k", "_law_never", "_law_at", "_law_one", "_law_row"] ["_law_rows"] (defScope (stAt 21)) := ⟨rfl, rfl, rfl, by decide +kernel, rfl, by decide +kernel, by decide +kernel⟩
theorem cc_l_fault : cSs 60 (gOf ["_law_rows", "_law_many", "_law_k", "_law_never", "_law_at", "_law_one", "_law_row"] (defScope (stAt 21)) tb8 nums0 pr0 ["Model", "InvalidOutcome", "InvalidTables", "LossError"] [] (some f_init_k01)) [] (defBody (stAt 21)) = some c_l_fault := by kernel_rfl
noncomputable def tb9 : List (Str × Entry) := ("_law_fault", ⟨1, f_l_fault⟩) :: tb8
theorem sc_l_tried_k01 : FnScope ["_law_rows", "_law_found", "error"] ["_law_rows"] (defScope (stAt 22)) := ⟨rfl, rfl, rfl, by decide +kernel, rfl, by decide +kernel, by decide +kernel⟩
theorem cc_l_tried_k01 : cSs 60 (gOf ["_law_rows", "_law_found", "error"] (defScope (stAt 22)) tb9 nums0 pr0 ["Model", "InvalidOutcome", "InvalidTables", "LossError"] [] (some f_init_k01)) [] (defBody (stAt 22)) = some c_l_tried_k01 := by kernel_rfl
noncomputable def tb10 : List (Str × Entry) := ("_law_tried", ⟨1, f_l_tried_k01⟩) :: tb9
theorem sc_init : FnScope ["self", "tables", "index", "table"] ["self", "tables"] (defScope (inCls 0 (stAt 12))) := ⟨rfl, rfl, rfl, by decide +kernel, rfl, by decide +kernel, by decide +kernel⟩
theorem cb_init : ∃ s1 s2 p1 p2 p3 p4, defBody (inCls 0 (stAt 12)) = [s1, s2, .Assign [.Attribute (.Name "self" p1) "rows" p2] (.Name "tables" p3) p4] ∧ cS 60 (gOf ["self", "tables", "index", "table"] (defScope (inCls 0 (stAt 12))) tb3 nums0 [] ["Model", "InvalidOutcome", "InvalidTables", "LossError"] [] none true) [] s1 = some c_init_k011 ∧ cS 60 (gOf ["self", "tables", "index", "table"] (defScope (inCls 0 (stAt 12))) tb3 nums0 [] ["Model", "InvalidOutcome", "InvalidTables", "LossError"] [] none true) [] s2 = some c_init_k012 := ⟨_, _, _, _, _, _, rfl, by kernel_rfl, by kernel_rfl⟩
theorem sc_law : FnScope ["_law_script", "_law_h", "_law_turn", "_law_rows", "_law_odd", "_law_change", "_law_many", "_law_outcomes", "_law_cap", "_law_spot", "_law_found", "_law_fault_here", "_law_row"] ["_law_script"] (defScope (stAt 23)) := ⟨rfl, rfl, rfl, by decide +kernel, rfl, by decide +kernel, by decide +kernel⟩
theorem cb_law : ∃ px pm ps pc pq pa j rest, defBody (stAt 23) = .Assign [.Name "_law_h" px] (.Call (.Name "_law_mix" pm) [.Name "_law_script" ps, .Constant (.int 1) j pc] [] pq) pa :: rest ∧ cSs 60 (gOf ["_law_script", "_law_h", "_law_turn", "_law_rows", "_law_odd", "_law_change", "_law_many", "_law_outcomes", "_law_cap", "_law_spot", "_law_found", "_law_fault_here", "_law_row"] (defScope (stAt 23)) tb10 nums0 prD ["Model", "InvalidOutcome", "InvalidTables", "LossError"] [] (some f_init_k01)) [] rest = some c_law_k01 := ⟨_, _, _, _, _, _, _, _, rfl, by kernel_rfl⟩
theorem yb_InvalidOutcome : ∃ p0 p1 p2 p3 p4 p5 q1 q2 q3 q4 tx kk, defBody (inCls 0 (stAt 3)) = [.Expr (.Call (.Attribute (.Call (.Name "super" p0) [] [] p1) "__init__" p2) [.Constant (.str tx) kk p3] [] p4) p5, .Assign [.Attribute (.Name "self" q1) "index" q2] (.Name "index" q3) q4] ∧ (p2.endLine == p4.line) = true := ⟨_, _, _, _, _, _, _, _, _, _, _, _, rfl, rfl⟩
theorem ys_InvalidOutcome : NScope ["self", "index", "__class__"] ["self", "index"] ["__class__"] (defScope (inCls 0 (stAt 3))) := nscope_by (by decide +kernel)
theorem yk_InvalidOutcome : (defScope (inCls 0 (stAt 3))).names.lookup ("super" : Str) = some .globalImplicit := rfl
theorem yp_InvalidOutcome : ∃ ar, ((defArgs (inCls 0 (stAt 3))).posonlyargs ++ (defArgs (inCls 0 (stAt 3))).args).head? = some ar ∧ ar.arg = ("self" : Str) := ⟨_, rfl, rfl⟩
theorem yb_InvalidTables : ∃ p0 p1 p2 p3 p4 p5 q1 q2 q3 q4 tx kk, defBody (inCls 0 (stAt 2)) = [.Expr (.Call (.Attribute (.Call (.Name "super" p0) [] [] p1) "__init__" p2) [.Constant (.str tx) kk p3] [] p4) p5, .Assign [.Attribute (.Name "self" q1) "index" q2] (.Name "index" q3) q4] ∧ (p2.endLine == p4.line) = true := ⟨_, _, _, _, _, _, _, _, _, _, _, _, rfl, rfl⟩
theorem ys_InvalidTables : NScope ["self", "index", "__class__"] ["self", "index"] ["__class__"] (defScope (inCls 0 (stAt 2))) := nscope_by (by decide +kernel)
theorem yk_InvalidTables : (defScope (inCls 0 (stAt 2))).names.lookup ("super" : Str) = some .globalImplicit := rfl
theorem yp_InvalidTables : ∃ ar, ((defArgs (inCls 0 (stAt 2))).posonlyargs ++ (defArgs (inCls 0 (stAt 2))).args).head? = some ar ∧ ar.arg = ("self" : Str) := ⟨_, rfl, rfl⟩
section
variable {P : Program} {w : World} {K : PySem.W.Frag} {mg : Str → Option Value} {base : Heap}
theorem tab_pre {c : Cn} (T : Top P K mg c nums0 ["Model", "InvalidOutcome", "InvalidTables", "LossError"]) {x_InvalidOutcome : Addr} {x_InvalidTables : Addr} {x_LossError : Addr} {a__law_next : Addr} {d__law_next : FuncData} (h__law_next : Here K mg "_law_next" (stAt 15) a__law_next d__law_next) {a_is_integer : Addr} {d_is_integer : FuncData} (h_is_integer : Here K mg "is_integer" (stAt 5) a_is_integer d_is_integer) {a_is_table : Addr} {d_is_table : FuncData} (h_is_table : Here K mg "is_table" (stAt 10) a_is_table d_is_table) {a_check_tables : Addr} {d_check_tables : FuncData} (h_check_tables : Here K mg "check_tables" (stAt 11) a_check_tables d_check_tables) {a__law_pick : Addr} {d__law_pick : FuncData} (h__law_pick : Here K mg "_law_pick" (stAt 17) a__law_pick d__law_pick) {a__law_tables : Addr} {d__law_tables : FuncData} (h__law_tables : Here K mg "_law_tables" (stAt 18) a__law_tables d__law_tables) {a__law_size : Addr} {d__law_size : FuncData} (h__law_size : Here K mg "_law_size" (stAt 19) a__law_size d__law_size) {a__law_whole : Addr} {d__law_whole : FuncData} (h__law_whole : Here K mg "_law_whole" (stAt 20) a__law_whole d__law_whole) {a__law_fault : Addr} {d__law_fault : FuncData} (h__law_fault : Here K mg "_law_fault" (stAt 21) a__law_fault d__law_fault) {a__law_tried : Addr} {d__law_tried : FuncData} (h__law_tried : Here K mg "_law_tried" (stAt 22) a__law_tried d__law_tried) {a__law_alike : Addr} {d__law_alike : FuncData} (h__law_alike : Here K mg "_law_alike" (stAt 16) a__law_alike d__law_alike) (hL : ∀ x a, (List.lookup x ((("_law_next", a__law_next) :: ("is_integer", a_is_integer) :: ("is_table", a_is_table) :: ("check_tables", a_check_tables) :: ("_law_pick", a__law_pick) :: ("_law_tables", a__law_tables) :: ("_law_size", a__law_size) :: ("_law_whole", a__law_whole) :: ("_law_fault", a__law_fault) :: ("_law_tried", a__law_tried) :: ("_law_alike", a__law_alike) :: ("InvalidOutcome", x_InvalidOutcome) :: ("InvalidTables", x_InvalidTables) :: ("LossError", x_LossError) :: []) : List (Str × Addr))) = some a → c.fa x = some a) : TabOk P w K mg base c 14 tb3 := by
  have t0 : TabOk P w K mg base c 11 tb0 := (TabOk.nil (lvl := 10)).cons ((ok_next (c := c) h__law_next.fn T.bi).mono (by decide)) h__law_next.mg h__law_next.fn.kp (h__law_next.fn.binds (fun _ _ _ _ _ _ us hl => match us, hl with | [_, _], _ => rfl)) (hL _ _ rfl)
  have t1 : TabOk P w K mg base c 12 tb1 := t0.add T PrOk.nil MkOk.nil h_is_integer sc_is_integer rfl (h_is_integer.fn.binds (fun _ _ _ _ _ _ us hl => match us, hl with | [_, _, _], _ => rfl)) (hL _ _ rfl) cc_is_integer
  have t2 : TabOk P w K mg base c 13 tb2 := t1.add T PrOk.nil MkOk.nil h_is_table sc_is_table rfl (h_is_table.fn.binds (fun _ _ _ _ _ _ us hl => match us, hl with | [_, _], _ => rfl)) (hL _ _ rfl) cc_is_table
  have t3 : TabOk P w K mg base c 14 tb3 := t2.add T PrOk.nil MkOk.nil h_check_tables sc_check_tables_k01 rfl (h_check_tables.fn.binds (fun _ _ _ _ _ _ us hl => match us, hl with | [_], _ => rfl)) (hL _ _ rfl) cc_check_tables_k01 (fun _ => by decide)
  exact t3
theorem init_at {c : Cn} (T : Top P K mg c nums0 ["Model", "InvalidOutcome", "InvalidTables", "LossError"]) {x_InvalidOutcome : Addr} {x_InvalidTables : Addr} {x_LossError : Addr} {a__law_next : Addr} {d__law_next : FuncData} (h__law_next : Here K mg "_law_next" (stAt 15) a__law_next d__law_next) {a_is_integer : Addr} {d_is_integer : FuncData} (h_is_integer : Here K mg "is_integer" (stAt 5) a_is_integer d_is_integer) {a_is_table : Addr} {d_is_table : FuncData} (h_is_table : Here K mg "is_table" (stAt 10) a_is_table d_is_table) {a_check_tables : Addr} {d_check_tables : FuncData} (h_check_tables : Here K mg "check_tables" (stAt 11) a_check_tables d_check_tables) {a__law_pick : Addr} {d__law_pick : FuncData} (h__law_pick : Here K mg "_law_pick" (stAt 17) a__law_pick d__law_pick) {a__law_tables : Addr} {d__law_tables : FuncData} (h__law_tables : Here K mg "_law_tables" (stAt 18) a__law_tables d__law_tables) {a__law_size : Addr} {d__law_size : FuncData} (h__law_size : Here K mg "_law_size" (stAt 19) a__law_size d__law_size) {a__law_whole : Addr} {d__law_whole : FuncData} (h__law_whole : Here K mg "_law_whole" (stAt 20) a__law_whole d__law_whole) {a__law_fault : Addr} {d__law_fault : FuncData} (h__law_fault : Here K mg "_law_fault" (stAt 21) a__law_fault d__law_fault) {a__law_tried : Addr} {d__law_tried : FuncData} (h__law_tried : Here K mg "_law_tried" (stAt 22) a__law_tried d__law_tried) {a__law_alike : Addr} {d__law_alike : FuncData} (h__law_alike : Here K mg "_law_alike" (stAt 16) a__law_alike d__law_alike) {ai : Addr} {di : FuncData} (hi : Fun K "__init__" "Model.__init__" (inCls 0 (stAt 12)) ai di) (hL : ∀ x a, (List.lookup x ((("_law_next", a__law_next) :: ("is_integer", a_is_integer) :: ("is_table", a_is_table) :: ("check_tables", a_check_tables) :: ("_law_pick", a__law_pick) :: ("_law_tables", a__law_tables) :: ("_law_size", a__law_size) :: ("_law_whole", a__law_whole) :: ("_law_fault", a__law_fault) :: ("_law_tried", a__law_tried) :: ("_law_alike", a__law_alike) :: ("InvalidOutcome", x_InvalidOutcome) :: ("InvalidTables", x_InvalidTables) :: ("LossError", x_LossError) :: []) : List (Str × Addr))) = some a → c.fa x = some a) (hS : List.lookup ("self" : Str) ((("_law_next", a__law_next) :: ("is_integer", a_is_integer) :: ("is_table", a_is_table) :: ("check_tables", a_check_tables) :: ("_law_pick", a__law_pick) :: ("_law_tables", a__law_tables) :: ("_law_size", a__law_size) :: ("_law_whole", a__law_whole) :: ("_law_fault", a__law_fault) :: ("_law_tried", a__law_tried) :: ("_law_alike", a__law_alike) :: ("InvalidOutcome", x_InvalidOutcome) :: ("InvalidTables", x_InvalidTables) :: ("LossError", x_LossError) :: []) : List (Str × Addr)) = none) : FnOk P w K mg base (L2.CX P w) 15 ai di ["self", "tables"] (spMk c f_init_k01) := by
  obtain ⟨s1, s2, p1, p2, p3, p4, hb, h1, h2⟩ := cb_init
  have tb : ∀ x, TabOk P w K mg base (c.self x) 14 tb3 := fun x => tab_pre (T.self x) h__law_next h_is_integer h_is_table h_check_tables h__law_pick h__law_tables h__law_size h__law_whole h__law_fault h__law_tried h__law_alike (fun y a e => by
    show (if y = ("self" : Str) then some x else c.fa y) = some a
    by_cases z : y = ("self" : Str)
    · subst z; rw [hS] at e; cases e
    · rw [if_neg z]; exact hL y a e)
  exact init_ok T tb (fun x => PrOk.nil) hi sc_init hb rfl rfl (.inl rfl) (.inl rfl) h1 h2 (fun _ => by decide)
theorem tab_all {c : Cn} (T : Top P K mg c nums0 ["Model", "InvalidOutcome", "InvalidTables", "LossError"]) {x_InvalidOutcome : Addr} {x_InvalidTables : Addr} {x_LossError : Addr} {a__law_next : Addr} {d__law_next : FuncData} (h__law_next : Here K mg "_law_next" (stAt 15) a__law_next d__law_next) {a_is_integer : Addr} {d_is_integer : FuncData} (h_is_integer : Here K mg "is_integer" (stAt 5) a_is_integer d_is_integer) {a_is_table : Addr} {d_is_table : FuncData} (h_is_table : Here K mg "is_table" (stAt 10) a_is_table d_is_table) {a_check_tables : Addr} {d_check_tables : FuncData} (h_check_tables : Here K mg "check_tables" (stAt 11) a_check_tables d_check_tables) {a__law_pick : Addr} {d__law_pick : FuncData} (h__law_pick : Here K mg "_law_pick" (stAt 17) a__law_pick d__law_pick) {a__law_tables : Addr} {d__law_tables : FuncData} (h__law_tables : Here K mg "_law_tables" (stAt 18) a__law_tables d__law_tables) {a__law_size : Addr} {d__law_size : FuncData} (h__law_size : Here K mg "_law_size" (stAt 19) a__law_size d__law_size) {a__law_whole : Addr} {d__law_whole : FuncData} (h__law_whole : Here K mg "_law_whole" (stAt 20) a__law_whole d__law_whole) {a__law_fault : Addr} {d__law_fault : FuncData} (h__law_fault : Here K mg "_law_fault" (stAt 21) a__law_fault d__law_fault) {a__law_tried : Addr} {d__law_tried : FuncData} (h__law_tried : Here K mg "_law_tried" (stAt 22) a__law_tried d__law_tried) {a__law_alike : Addr} {d__law_alike : FuncData} (h__law_alike : Here K mg "_law_alike" (stAt 16) a__law_alike d__law_alike) {ai : Addr} {di : FuncData} (hi : Fun K "__init__" "Model.__init__" (inCls 0 (stAt 12)) ai di) (hM : Mk K c.Md ai) {p_tables q_tables : Addr} {e_tables : FuncData} (hp_tables : PropOf K c.Md "tables" p_tables q_tables) (hq_tables : Fun K "tables" "Model.tables" (inCls 1 (stAt 12)) q_tables e_tables) {p_outcomes q_outcomes : Addr} {e_outcomes : FuncData} (hp_outcomes : PropOf K c.Md "outcomes" p_outcomes q_outcomes) (hq_outcomes : Fun K "outcomes" "Model.outcomes" (inCls 2 (stAt 12)) q_outcomes e_outcomes) {q_len : Addr} {e_len : FuncData} (hp_len : DunOf K c.Md "__len__" q_len) (hq_len : Fun K "__len__" "Model.__len__" (inCls 3 (stAt 12)) q_len e_len) {q_eq : Addr} {e_eq : FuncData} (hp_eq : DunOf K c.Md "__eq__" q_eq) (hq_eq : Fun K "__eq__" "Model.__eq__" (inCls 4 (stAt 12)) q_eq e_eq) (hL : ∀ x a, (List.lookup x ((("_law_next", a__law_next) :: ("is_integer", a_is_integer) :: ("is_table", a_is_table) :: ("check_tables", a_check_tables) :: ("_law_pick", a__law_pick) :: ("_law_tables", a__law_tables) :: ("_law_size", a__law_size) :: ("_law_whole", a__law_whole) :: ("_law_fault", a__law_fault) :: ("_law_tried", a__law_tried) :: ("_law_alike", a__law_alike) :: ("InvalidOutcome", x_InvalidOutcome) :: ("InvalidTables", x_InvalidTables) :: ("LossError", x_LossError) :: []) : List (Str × Addr))) = some a → c.fa x = some a) (hS : List.lookup ("self" : Str) ((("_law_next", a__law_next) :: ("is_integer", a_is_integer) :: ("is_table", a_is_table) :: ("check_tables", a_check_tables) :: ("_law_pick", a__law_pick) :: ("_law_tables", a__law_tables) :: ("_law_size", a__law_size) :: ("_law_whole", a__law_whole) :: ("_law_fault", a__law_fault) :: ("_law_tried", a__law_tried) :: ("_law_alike", a__law_alike) :: ("InvalidOutcome", x_InvalidOutcome) :: ("InvalidTables", x_InvalidTables) :: ("LossError", x_LossError) :: []) : List (Str × Addr)) = none) : TabOk P w K mg base c 25 tb10 ∧ MkOk P w K mg base c 25 (some f_init_k01) ∧ PrOk P w K mg base c 25 prD := by
  have po : ∀ l, 2 ≤ l → PrOk P w K mg base c l pr0 := fun l hl => by
    obtain ⟨l, rfl⟩ : ∃ l2, l = l2 + 1 := ⟨l - 1, by omega⟩
    have hl1 : 1 ≤ l := by omega
    exact (PrOk.cons (PrOk.cons PrOk.nil (PrIs.ofProp hp_outcomes rfl) ((def_ok T (TabOk.nil (lvl := 0)) PrOk.nil MkOk.nil hq_outcomes sc_prop_outcomes rfl cc_prop_outcomes).mono hl1) (hq_outcomes.binds (fun _ _ _ _ _ _ us hl => match us, hl with | [_], _ => rfl))) (PrIs.ofProp hp_tables rfl) ((def_ok T (TabOk.nil (lvl := 0)) PrOk.nil MkOk.nil hq_tables sc_prop_tables rfl cc_prop_tables).mono hl1) (hq_tables.binds (fun _ _ _ _ _ _ us hl => match us, hl with | [_], _ => rfl)))
  have poD : ∀ l, 2 ≤ l → PrOk P w K mg base c l prD := fun l hl => by
    obtain ⟨l, rfl⟩ : ∃ l2, l = l2 + 1 := ⟨l - 1, by omega⟩
    have hl1 : 1 ≤ l := by omega
    exact (PrOk.cons (PrOk.cons (PrOk.cons (PrOk.cons PrOk.nil (PrIs.ofProp hp_outcomes rfl) ((def_ok T (TabOk.nil (lvl := 0)) PrOk.nil MkOk.nil hq_outcomes sc_prop_outcomes rfl cc_prop_outcomes).mono hl1) (hq_outcomes.binds (fun _ _ _ _ _ _ us hl => match us, hl with | [_], _ => rfl))) (PrIs.ofProp hp_tables rfl) ((def_ok T (TabOk.nil (lvl := 0)) PrOk.nil MkOk.nil hq_tables sc_prop_tables rfl cc_prop_tables).mono hl1) (hq_tables.binds (fun _ _ _ _ _ _ us hl => match us, hl with | [_], _ => rfl))) (PrIs.ofDun (pa := 0) hp_eq rfl) ((def_ok T (TabOk.nil (lvl := 0)) PrOk.nil MkOk.nil hq_eq sc_prop_eq rfl cc_prop_eq).mono hl1) (hq_eq.binds (fun _ _ _ _ _ _ us hl => match us, hl with | [_, _], _ => rfl))) (PrIs.ofDun (pa := 0) hp_len rfl) ((def_ok T (TabOk.nil (lvl := 0)) PrOk.nil MkOk.nil hq_len sc_prop_len rfl cc_prop_len).mono hl1) (hq_len.binds (fun _ _ _ _ _ _ us hl => match us, hl with | [_], _ => rfl)))
  have G := init_at T h__law_next h_is_integer h_is_table h_check_tables h__law_pick h__law_tables h__law_size h__law_whole h__law_fault h__law_tried h__law_alike hi hL hS (P := P) (w := w) (base := base)
  have mo0 : ∀ l, 16 ≤ l → MkOk P w K mg base c l (some f_init_k01) := fun l hl => ⟨fun f e => by cases e; exact ⟨_, ai, di, _, hl, hM, G, hi.binds (fun _ _ _ _ _ _ us hl => match us, hl with | [_, _], _ => rfl)⟩⟩
  have t3 : TabOk P w K mg base c 18 tb3 := (tab_pre T h__law_next h_is_integer h_is_table h_check_tables h__law_pick h__law_tables h__law_size h__law_whole h__law_fault h__law_tried h__law_alike hL).mono (by decide)
  have t4 : TabOk P w K mg base c 19 tb4 := t3.cons ((alike_at T h__law_alike sc_alike_law rfl rfl (h__law_alike.fn.binds (fun _ _ _ _ _ _ us hl => match us, hl with | [_, _], _ => rfl)) (hL _ _ rfl) cc_alike_law).mono (by decide)) h__law_alike.mg h__law_alike.fn.kp (h__law_alike.fn.binds (fun _ _ _ _ _ _ us hl => match us, hl with | [_, _], _ => rfl)) (hL _ _ rfl)
  have t5 : TabOk P w K mg base c 20 tb5 := t4.add T (po _ (by decide)) (mo0 _ (by decide)) h__law_pick sc_l_pick rfl (h__law_pick.fn.binds (fun _ _ _ _ _ _ us hl => match us, hl with | [_, _], _ => rfl)) (hL _ _ rfl) cc_l_pick
  have t6 : TabOk P w K mg base c 21 tb6 := t5.add T (po _ (by decide)) (mo0 _ (by decide)) h__law_tables sc_l_tables rfl (h__law_tables.fn.binds (fun _ _ _ _ _ _ us hl => match us, hl with | [_, _, _, _], _ => rfl)) (hL _ _ rfl) cc_l_tables
  have t7 : TabOk P w K mg base c 22 tb7 := t6.add T (po _ (by decide)) (mo0 _ (by decide)) h__law_size sc_l_size rfl (h__law_size.fn.binds (fun _ _ _ _ _ _ us hl => match us, hl with | [_], _ => rfl)) (hL _ _ rfl) cc_l_size
  have t8 : TabOk P w K mg base c 23 tb8 := t7.add T (po _ (by decide)) (mo0 _ (by decide)) h__law_whole sc_l_whole rfl (h__law_whole.fn.binds (fun _ _ _ _ _ _ us hl => match us, hl with | [_], _ => rfl)) (hL _ _ rfl) cc_l_whole
  have t9 : TabOk P w K mg base c 24 tb9 := t8.add T (po _ (by decide)) (mo0 _ (by decide)) h__law_fault sc_l_fault rfl (h__law_fault.fn.binds (fun _ _ _ _ _ _ us hl => match us, hl with | [_], _ => rfl)) (hL _ _ rfl) cc_l_fault
  have t10 : TabOk P w K mg base c 25 tb10 := t9.add T (po _ (by decide)) (mo0 _ (by decide)) h__law_tried sc_l_tried_k01 rfl (h__law_tried.fn.binds (fun _ _ _ _ _ _ us hl => match us, hl with | [_], _ => rfl)) (hL _ _ rfl) cc_l_tried_k01
  exact ⟨t10, mo0 _ (by decide), poD _ (by decide)⟩
theorem law_at {Md : Addr} {x_InvalidOutcome : Addr} {x_InvalidTables : Addr} {x_LossError : Addr} (mx_InvalidOutcome : mg "InvalidOutcome" = some (.ref x_InvalidOutcome)) (xc_InvalidOutcome : XC K "InvalidOutcome" x_InvalidOutcome) (mx_InvalidTables : mg "InvalidTables" = some (.ref x_InvalidTables)) (xc_InvalidTables : XC K "InvalidTables" x_InvalidTables) (mx_LossError : mg "LossError" = some (.ref x_LossError)) (xc_LossError : XC K "LossError" x_LossError) (s_InvalidOutcome_InvalidOutcome : PySem.W.subIn K (.ref x_InvalidOutcome) (.ref x_InvalidOutcome) = some true) (t_InvalidOutcome_InvalidOutcome : PySem.W.kitOne K (.ref x_InvalidOutcome) (.ref x_InvalidOutcome) = some true) (s_InvalidOutcome_InvalidTables : PySem.W.subIn K (.ref x_InvalidOutcome) (.ref x_InvalidTables) = some false) (t_InvalidOutcome_InvalidTables : PySem.W.kitOne K (.ref x_InvalidOutcome) (.ref x_InvalidTables) = some false) (s_InvalidOutcome_LossError : PySem.W.subIn K (.ref x_InvalidOutcome) (.ref x_LossError) = some true) (t_InvalidOutcome_LossError : PySem.W.kitOne K (.ref x_InvalidOutcome) (.ref x_LossError) = some true) (s_InvalidTables_InvalidOutcome : PySem.W.subIn K (.ref x_InvalidTables) (.ref x_InvalidOutcome) = some false) (t_InvalidTables_InvalidOutcome : PySem.W.kitOne K (.ref x_InvalidTables) (.ref x_InvalidOutcome) = some false) (s_InvalidTables_InvalidTables : PySem.W.subIn K (.ref x_InvalidTables) (.ref x_InvalidTables) = some true) (t_InvalidTables_InvalidTables : PySem.W.kitOne K (.ref x_InvalidTables) (.ref x_InvalidTables) = some true) (s_InvalidTables_LossError : PySem.W.subIn K (.ref x_InvalidTables) (.ref x_LossError) = some true) (t_InvalidTables_LossError : PySem.W.kitOne K (.ref x_InvalidTables) (.ref x_LossError) = some true) (s_LossError_InvalidOutcome : PySem.W.subIn K (.ref x_LossError) (.ref x_InvalidOutcome) = some false) (t_LossError_InvalidOutcome : PySem.W.kitOne K (.ref x_LossError) (.ref x_InvalidOutcome) = some false) (s_LossError_InvalidTables : PySem.W.subIn K (.ref x_LossError) (.ref x_InvalidTables) = some false) (t_LossError_InvalidTables : PySem.W.kitOne K (.ref x_LossError) (.ref x_InvalidTables) = some false) (s_LossError_LossError : PySem.W.subIn K (.ref x_LossError) (.ref x_LossError) = some true) (t_LossError_LossError : PySem.W.kitOne K (.ref x_LossError) (.ref x_LossError) = some true) (xg_InvalidOutcome : XFdG P K mg x_InvalidOutcome "index") (xg_InvalidTables : XFdG P K mg x_InvalidTables "index") (mdo : MdOk K Md) (bi : ∀ x, biNames.elem x = true → mg x = none) (hn : ∀ x n, nums0.lookup x = some n → ∃ t, mg x = some (.int n t)) (hc : mg ("Model" : Str) = some (.ref Md)) {a__law_next : Addr} {d__law_next : FuncData} (h__law_next : Here K mg "_law_next" (stAt 15) a__law_next d__law_next) {a_is_integer : Addr} {d_is_integer : FuncData} (h_is_integer : Here K mg "is_integer" (stAt 5) a_is_integer d_is_integer) {a_is_table : Addr} {d_is_table : FuncData} (h_is_table : Here K mg "is_table" (stAt 10) a_is_table d_is_table) {a_check_tables : Addr} {d_check_tables : FuncData} (h_check_tables : Here K mg "check_tables" (stAt 11) a_check_tables d_check_tables) {a__law_pick : Addr} {d__law_pick : FuncData} (h__law_pick : Here K mg "_law_pick" (stAt 17) a__law_pick d__law_pick) {a__law_tables : Addr} {d__law_tables : FuncData} (h__law_tables : Here K mg "_law_tables" (stAt 18) a__law_tables d__law_tables) {a__law_size : Addr} {d__law_size : FuncData} (h__law_size : Here K mg "_law_size" (stAt 19) a__law_size d__law_size) {a__law_whole : Addr} {d__law_whole : FuncData} (h__law_whole : Here K mg "_law_whole" (stAt 20) a__law_whole d__law_whole) {a__law_fault : Addr} {d__law_fault : FuncData} (h__law_fault : Here K mg "_law_fault" (stAt 21) a__law_fault d__law_fault) {a__law_tried : Addr} {d__law_tried : FuncData} (h__law_tried : Here K mg "_law_tried" (stAt 22) a__law_tried d__law_tried) {a__law_alike : Addr} {d__law_alike : FuncData} (h__law_alike : Here K mg "_law_alike" (stAt 16) a__law_alike d__law_alike) {ai : Addr} {di : FuncData} (hi : Fun K "__init__" "Model.__init__" (inCls 0 (stAt 12)) ai di) (hM : Mk K Md ai) {p_tables q_tables : Addr} {e_tables : FuncData} (hp_tables : PropOf K Md "tables" p_tables q_tables) (hq_tables : Fun K "tables" "Model.tables" (inCls 1 (stAt 12)) q_tables e_tables) {p_outcomes q_outcomes : Addr} {e_outcomes : FuncData} (hp_outcomes : PropOf K Md "outcomes" p_outcomes q_outcomes) (hq_outcomes : Fun K "outcomes" "Model.outcomes" (inCls 2 (stAt 12)) q_outcomes e_outcomes) {q_len : Addr} {e_len : FuncData} (hp_len : DunOf K Md "__len__" q_len) (hq_len : Fun K "__len__" "Model.__len__" (inCls 3 (stAt 12)) q_len e_len) {q_eq : Addr} {e_eq : FuncData} (hp_eq : DunOf K Md "__eq__" q_eq) (hq_eq : Fun K "__eq__" "Model.__eq__" (inCls 4 (stAt 12)) q_eq e_eq) {am al : Addr} {dm dl : FuncData} (h_mix : Here K mg "_law_mix" sMix am dm) (h_law : Here K mg "law" (stAt 23) al dl) :
    FnOk P w K mg base (L2.CX P w) 26 al dl ["_law_script"] (spLaw K) := by
  obtain ⟨px, pm, ps, pc, pq, pa, j, rest, hb, hr⟩ := cb_law
  have T : ∀ L C, Top P K mg ⟨L, C, Md, fun x => List.lookup x ((("_law_next", a__law_next) :: ("is_integer", a_is_integer) :: ("is_table", a_is_table) :: ("check_tables", a_check_tables) :: ("_law_pick", a__law_pick) :: ("_law_tables", a__law_tables) :: ("_law_size", a__law_size) :: ("_law_whole", a__law_whole) :: ("_law_fault", a__law_fault) :: ("_law_tried", a__law_tried) :: ("_law_alike", a__law_alike) :: ("InvalidOutcome", x_InvalidOutcome) :: ("InvalidTables", x_InvalidTables) :: ("LossError", x_LossError) :: []) : List (Str × Addr))⟩ nums0 ["Model", "InvalidOutcome", "InvalidTables", "LossError"] := fun L C => ⟨mdo, bi, hn, (by
    refine ⟨fun y hy ny => ?_, fun y z C D hy ny hz nz e1 e2 => ?_⟩
    · have hy := List.elem_iff.mp hy; simp only [List.mem_cons, List.not_mem_nil, or_false] at hy; rcases hy with rfl | rfl | rfl | rfl
      · exact absurd rfl ny
      · exact ⟨by decide, x_InvalidOutcome, mx_InvalidOutcome, rfl, xc_InvalidOutcome⟩
      · exact ⟨by decide, x_InvalidTables, mx_InvalidTables, rfl, xc_InvalidTables⟩
      · exact ⟨by decide, x_LossError, mx_LossError, rfl, xc_LossError⟩
    · have hy := List.elem_iff.mp hy; simp only [List.mem_cons, List.not_mem_nil, or_false] at hy; rcases hy with rfl | rfl | rfl | rfl
      · exact absurd rfl ny
      · have hz := List.elem_iff.mp hz; simp only [List.mem_cons, List.not_mem_nil, or_false] at hz; rcases hz with rfl | rfl | rfl | rfl
        · exact absurd rfl nz
        · cases e1; cases e2; exact ⟨s_InvalidOutcome_InvalidOutcome, t_InvalidOutcome_InvalidOutcome⟩
        · cases e1; cases e2; exact ⟨s_InvalidOutcome_InvalidTables, t_InvalidOutcome_InvalidTables⟩
        · cases e1; cases e2; exact ⟨s_InvalidOutcome_LossError, t_InvalidOutcome_LossError⟩
      · have hz := List.elem_iff.mp hz; simp only [List.mem_cons, List.not_mem_nil, or_false] at hz; rcases hz with rfl | rfl | rfl | rfl
        · exact absurd rfl nz
        · cases e1; cases e2; exact ⟨s_InvalidTables_InvalidOutcome, t_InvalidTables_InvalidOutcome⟩
        · cases e1; cases e2; exact ⟨s_InvalidTables_InvalidTables, t_InvalidTables_InvalidTables⟩
        · cases e1; cases e2; exact ⟨s_InvalidTables_LossError, t_InvalidTables_LossError⟩
      · have hz := List.elem_iff.mp hz; simp only [List.mem_cons, List.not_mem_nil, or_false] at hz; rcases hz with rfl | rfl | rfl | rfl
        · exact absurd rfl nz
        · cases e1; cases e2; exact ⟨s_LossError_InvalidOutcome, t_LossError_InvalidOutcome⟩
        · cases e1; cases e2; exact ⟨s_LossError_InvalidTables, t_LossError_InvalidTables⟩
        · cases e1; cases e2; exact ⟨s_LossError_LossError, t_LossError_LossError⟩
    ), (by
    intro y fl hy ny hf
    have hy := List.elem_iff.mp hy; simp only [List.mem_cons, List.not_mem_nil, or_false] at hy; rcases hy with rfl | rfl | rfl | rfl
    · exact absurd rfl ny
    · have e0 : fldOf "InvalidOutcome" = (["index"] : List Str) := by decide +kernel
      rw [e0] at hf
      cases hf
      exact xg_InvalidOutcome.k mx_InvalidOutcome rfl
    · have e0 : fldOf "InvalidTables" = (["index"] : List Str) := by decide +kernel
      rw [e0] at hf
      cases hf
      exact xg_InvalidTables.k mx_InvalidTables rfl
    · have e0 : fldOf "LossError" = ([] : List Str) := by decide +kernel
      rw [e0] at hf
      cases hf
    ), fun _ => hc⟩
  have A := fun L C => tab_all (P := P) (w := w) (base := base) (T L C) h__law_next h_is_integer h_is_table h_check_tables h__law_pick h__law_tables h__law_size h__law_whole h__law_fault h__law_tried h__law_alike hi hM hp_tables hq_tables hp_outcomes hq_outcomes hp_len hq_len hp_eq hq_eq (fun x a e => e) rfl
  have Gm : FnOk P w K mg base (L2.CX P w) 1 am dm ["_law_script", "_law_seed"] (spMix K) := (ok_mix h_mix.fn bi).imp fun vs H Q E h => by
    obtain ⟨a, ns, seed, e1, e2, e3, e4⟩ := h
    exact ⟨a, ns, seed, e1, e2, e3, fun C L hC hL => e4 C L _ hC hL⟩
  exact law_ok (props := prD) (mk := (some f_init_k01)) T (fun L C => (A L C).1) (fun L C => (A L C).2.2) (fun L C => (A L C).2.1) h_law.fn sc_law hb Gm h_mix.mg h_mix.fn.kp (h_mix.fn.binds (fun _ _ _ _ _ _ us hl => match us, hl with | [_, _], _ => rfl)) rfl rfl (by first | exact .inl rfl | exact .inr rfl) (by first | exact .inl rfl | exact .inr rfl) rfl (by decide) hr fun g hg => law_k01_plain hg
end
end PV
set_option Elab.async false
set_option linter.all false
set_option maxRecDepth 100000
set_option maxHeartbeats 4000000
namespace PV
open PySem L2 PySem.Spec PyProof.Rows
theorem lookup_mem {α : Type} {x : Str} {n : α} : ∀ {l : List (Str × α)}, l.lookup x = some n → (x, n) ∈ l
  | [], h => by cases h
  | (y, m) :: l, h => by
    rw [List.lookup_cons] at h
    split at h
    · rename_i e
      have ey : x = y := eq_of_beq e
      subst ey
      cases h
      exact List.mem_cons_self
    · exact List.mem_cons_of_mem _ (lookup_mem h)
theorem all_mk {P : Program} {w : World} {K : PySem.W.Frag} {h : Heap} {mg : Str → Option Value} {fa : Addr} (X : K.In h) (G : h.Ns mainGlobals mg) (hfa : mg "law" = some (.ref fa))
    {f0 : Addr} {od0 an0 : Option Addr} {sl0 : Array (Option Value)} {oc0 kV0 dc0 pm0 cd0 ct0 : Value} {f1 : Addr} {od1 an1 : Option Addr} {sl1 : Array (Option Value)} {oc1 kV1 dc1 pm1 cd1 ct1 : Value} {f2 : Addr} {od2 an2 : Option Addr} {sl2 : Array (Option Value)} {oc2 kV2 dc2 pm2 cd2 ct2 : Value} {f3 : Addr} {od3 an3 : Option Addr} {sl3 : Array (Option Value)} {oc3 kV3 dc3 pm3 cd3 ct3 : Value} {f4 : Addr} {od4 an4 : Option Addr} {sl4 : Array (Option Value)} {oc4 kV4 dc4 pm4 cd4 ct4 : Value} {f5 : Addr} {od5 an5 : Option Addr} {sl5 : Array (Option Value)} {oc5 kV5 dc5 pm5 cd5 ct5 : Value} {f6 : Addr} {od6 an6 : Option Addr} {sl6 : Array (Option Value)} {oc6 kV6 dc6 pm6 cd6 ct6 : Value} {f7 : Addr} {od7 an7 : Option Addr} {sl7 : Array (Option Value)} {oc7 kV7 dc7 pm7 cd7 ct7 : Value} {f8 : Addr} {od8 an8 : Option Addr} {sl8 : Array (Option Value)} {oc8 kV8 dc8 pm8 cd8 ct8 : Value} {f9 : Addr} {od9 an9 : Option Addr} {sl9 : Array (Option Value)} {oc9 kV9 dc9 pm9 cd9 ct9 : Value} {f10 : Addr} {od10 an10 : Option Addr} {sl10 : Array (Option Value)} {oc10 kV10 dc10 pm10 cd10 ct10 : Value} {f11 : Addr} {od11 an11 : Option Addr} {sl11 : Array (Option Value)} {oc11 kV11 dc11 pm11 cd11 ct11 : Value} {f12 : Addr} {od12 an12 : Option Addr} {sl12 : Array (Option Value)} {oc12 kV12 dc12 pm12 cd12 ct12 : Value} {Md fi : Addr} {odi ani : Option Addr} {sli : Array (Option Value)} {oci kVi dci pmi cdi cti : Value} {gp_tables gq_tables : Addr} {odp_tables anp_tables : Option Addr} {slp_tables : Array (Option Value)} {ocp_tables kVp_tables dcp_tables pmp_tables cdp_tables ctp_tables : Value} {rsp_tables : List Value} {gp_outcomes gq_outcomes : Addr} {odp_outcomes anp_outcomes : Option Addr} {slp_outcomes : Array (Option Value)} {ocp_outcomes kVp_outcomes dcp_outcomes pmp_outcomes cdp_outcomes ctp_outcomes : Value} {rsp_outcomes : List Value} {gq_len : Addr} {odp_len anp_len : Option Addr} {slp_len : Array (Option Value)} {ocp_len kVp_len dcp_len pmp_len cdp_len ctp_len : Value} {gq_eq : Addr} {odp_eq anp_eq : Option Addr} {slp_eq : Array (Option Value)} {ocp_eq kVp_eq dcp_eq pmp_eq cdp_eq ctp_eq : Value} {x_InvalidOutcome : Addr} {x_InvalidTables : Addr} {x_LossError : Addr} {nm_InvalidOutcome q_InvalidOutcome file_InvalidOutcome : Str} {N_InvalidOutcome f_InvalidOutcome cc_InvalidOutcome cda_InvalidOutcome : Addr} {bs_InvalidOutcome bm_InvalidOutcome sub_InvalidOutcome : List Value} {sn_InvalidOutcome : List Str} {ab_InvalidOutcome : Bool} {col_InvalidOutcome : Option Bool} {dd_InvalidOutcome : Option Addr} {k0_InvalidOutcome k1_InvalidOutcome k2_InvalidOutcome k3_InvalidOutcome k5_InvalidOutcome : Option Value} {ccl_InvalidOutcome oc_InvalidOutcome dcl_InvalidOutcome kV_InvalidOutcome doc_InvalidOutcome pm_InvalidOutcome ct_InvalidOutcome : Value} {cld_InvalidOutcome od_InvalidOutcome csd_InvalidOutcome an_InvalidOutcome : Option Addr} {csl_InvalidOutcome osl_InvalidOutcome dsl_InvalidOutcome : Array (Option Value)} {vs_InvalidOutcome : Array Value} {tf_InvalidOutcome : Tok} {nm_InvalidTables q_InvalidTables file_InvalidTables : Str} {N_InvalidTables f_InvalidTables cc_InvalidTables cda_InvalidTables : Addr} {bs_InvalidTables bm_InvalidTables sub_InvalidTables : List Value} {sn_InvalidTables : List Str} {ab_InvalidTables : Bool} {col_InvalidTables : Option Bool} {dd_InvalidTables : Option Addr} {k0_InvalidTables k1_InvalidTables k2_InvalidTables k3_InvalidTables k5_InvalidTables : Option Value} {ccl_InvalidTables oc_InvalidTables dcl_InvalidTables kV_InvalidTables doc_InvalidTables pm_InvalidTables ct_InvalidTables : Value} {cld_InvalidTables od_InvalidTables csd_InvalidTables an_InvalidTables : Option Addr} {csl_InvalidTables osl_InvalidTables dsl_InvalidTables : Array (Option Value)} {vs_InvalidTables : Array Value} {tf_InvalidTables : Tok} {tk0 : Tok} {tk1 : Tok} {tk2 : Tok}
    (a0 : PySem.W.nsIn K mainGlobals "_law_next" = some (some (.ref f0))) (l0 : K.lookup f0 = some ⟨oc0, od0, .func (PySem.W.fnOf "_law_next" "_law_next" (defArgs (stAt 15)) (defBody (stAt 15)) (defScope (stAt 15)) .none kV0 dc0 pm0 an0 cd0 ct0), sl0⟩) (c0 : PySem.W.codeIn K cd0 "_law_next" = true) (k0 : PySem.W.keepIn K (.ref f0) = true) (a1 : PySem.W.nsIn K mainGlobals "is_integer" = some (some (.ref f1))) (l1 : K.lookup f1 = some ⟨oc1, od1, .func (PySem.W.fnOf "is_integer" "is_integer" (defArgs (stAt 5)) (defBody (stAt 5)) (defScope (stAt 5)) .none kV1 dc1 pm1 an1 cd1 ct1), sl1⟩) (c1 : PySem.W.codeIn K cd1 "is_integer" = true) (k1 : PySem.W.keepIn K (.ref f1) = true) (a2 : PySem.W.nsIn K mainGlobals "is_table" = some (some (.ref f2))) (l2 : K.lookup f2 = some ⟨oc2, od2, .func (PySem.W.fnOf "is_table" "is_table" (defArgs (stAt 10)) (defBody (stAt 10)) (defScope (stAt 10)) .none kV2 dc2 pm2 an2 cd2 ct2), sl2⟩) (c2 : PySem.W.codeIn K cd2 "is_table" = true) (k2 : PySem.W.keepIn K (.ref f2) = true) (a3 : PySem.W.nsIn K mainGlobals "check_tables" = some (some (.ref f3))) (l3 : K.lookup f3 = some ⟨oc3, od3, .func (PySem.W.fnOf "check_tables" "check_tables" (defArgs (stAt 11)) (defBody (stAt 11)) (defScope (stAt 11)) .none kV3 dc3 pm3 an3 cd3 ct3), sl3⟩) (c3 : PySem.W.codeIn K cd3 "check_tables" = true) (k3 : PySem.W.keepIn K (.ref f3) = true) (a4 : PySem.W.nsIn K mainGlobals "_law_pick" = some (some (.ref f4))) (l4 : K.lookup f4 = some ⟨oc4, od4, .func (PySem.W.fnOf "_law_pick" "_law_pick" (defArgs (stAt 17)) (defBody (stAt 17)) (defScope (stAt 17)) .none kV4 dc4 pm4 an4 cd4 ct4), sl4⟩) (c4 : PySem.W.codeIn K cd4 "_law_pick" = true) (k4 : PySem.W.keepIn K (.ref f4) = true) (a5 : PySem.W.nsIn K mainGlobals "_law_tables" = some (some (.ref f5))) (l5 : K.lookup f5 = some ⟨oc5, od5, .func (PySem.W.fnOf "_law_tables" "_law_tables" (defArgs (stAt 18)) (defBody (stAt 18)) (defScope (stAt 18)) .none kV5 dc5 pm5 an5 cd5 ct5), sl5⟩) (c5 : PySem.W.codeIn K cd5 "_law_tables" = true) (k5 : PySem.W.keepIn K (.ref f5) = true) (a6 : PySem.W.nsIn K mainGlobals "_law_size" = some (some (.ref f6))) (l6 : K.lookup f6 = some ⟨oc6, od6, .func (PySem.W.fnOf "_law_size" "_law_size" (defArgs (stAt 19)) (defBody (stAt 19)) (defScope (stAt 19)) .none kV6 dc6 pm6 an6 cd6 ct6), sl6⟩) (c6 : PySem.W.codeIn K cd6 "_law_size" = true) (k6 : PySem.W.keepIn K (.ref f6) = true) (a7 : PySem.W.nsIn K mainGlobals "_law_whole" = some (some (.ref f7))) (l7 : K.lookup f7 = some ⟨oc7, od7, .func (PySem.W.fnOf "_law_whole" "_law_whole" (defArgs (stAt 20)) (defBody (stAt 20)) (defScope (stAt 20)) .none kV7 dc7 pm7 an7 cd7 ct7), sl7⟩) (c7 : PySem.W.codeIn K cd7 "_law_whole" = true) (k7 : PySem.W.keepIn K (.ref f7) = true) (a8 : PySem.W.nsIn K mainGlobals "_law_fault" = some (some (.ref f8))) (l8 : K.lookup f8 = some ⟨oc8, od8, .func (PySem.W.fnOf "_law_fault" "_law_fault" (defArgs (stAt 21)) (defBody (stAt 21)) (defScope (stAt 21)) .none kV8 dc8 pm8 an8 cd8 ct8), sl8⟩) (c8 : PySem.W.codeIn K cd8 "_law_fault" = true) (k8 : PySem.W.keepIn K (.ref f8) = true) (a9 : PySem.W.nsIn K mainGlobals "_law_tried" = some (some (.ref f9))) (l9 : K.lookup f9 = some ⟨oc9, od9, .func (PySem.W.fnOf "_law_tried" "_law_tried" (defArgs (stAt 22)) (defBody (stAt 22)) (defScope (stAt 22)) .none kV9 dc9 pm9 an9 cd9 ct9), sl9⟩) (c9 : PySem.W.codeIn K cd9 "_law_tried" = true) (k9 : PySem.W.keepIn K (.ref f9) = true) (a10 : PySem.W.nsIn K mainGlobals "_law_alike" = some (some (.ref f10))) (l10 : K.lookup f10 = some ⟨oc10, od10, .func (PySem.W.fnOf "_law_alike" "_law_alike" (defArgs (stAt 16)) (defBody (stAt 16)) (defScope (stAt 16)) .none kV10 dc10 pm10 an10 cd10 ct10), sl10⟩) (c10 : PySem.W.codeIn K cd10 "_law_alike" = true) (k10 : PySem.W.keepIn K (.ref f10) = true) (a11 : PySem.W.nsIn K mainGlobals "_law_mix" = some (some (.ref f11))) (l11 : K.lookup f11 = some ⟨oc11, od11, .func (PySem.W.fnOf "_law_mix" "_law_mix" (defArgs (stAt 14)) (defBody (stAt 14)) (defScope (stAt 14)) .none kV11 dc11 pm11 an11 cd11 ct11), sl11⟩) (c11 : PySem.W.codeIn K cd11 "_law_mix" = true) (k11 : PySem.W.keepIn K (.ref f11) = true) (a12 : PySem.W.nsIn K mainGlobals "law" = some (some (.ref f12))) (l12 : K.lookup f12 = some ⟨oc12, od12, .func (PySem.W.fnOf "law" "law" (defArgs (stAt 23)) (defBody (stAt 23)) (defScope (stAt 23)) .none kV12 dc12 pm12 an12 cd12 ct12), sl12⟩) (c12 : PySem.W.codeIn K cd12 "law" = true) (k12 : PySem.W.keepIn K (.ref f12) = true) (aM : PySem.W.nsIn K mainGlobals "Model" = some (some (.ref Md))) (ai : PySem.W.findIn K (.ref Md) "__init__" = some (some (.ref fi))) (ii : PySem.W.isFn K (.ref fi) = true) (li : K.lookup fi = some ⟨oci, odi, .func (PySem.W.fnOf "__init__" "Model.__init__" (defArgs (inCls 0 (stAt 12))) (defBody (inCls 0 (stAt 12))) (defScope (inCls 0 (stAt 12))) .none kVi dci pmi ani cdi cti), sli⟩) (ci : PySem.W.codeIn K cdi "Model.__init__" = true) (ki : PySem.W.keepIn K (.ref fi) = true) (mkM : PySem.W.makesIn K Md = true) (kpM : PySem.W.keepIn K (.ref Md) = true) (pg : PySem.W.plainGet K Md Str.empty = true) (hd : PySem.W.hasDictIn K Md = true) (po : PySem.W.plainOver K Md = true) (sa : PySem.W.findIn K (.ref Md) "__setattr__" = some (some (.builtin "object.__setattr__"))) (nR : PySem.W.findIn K (.ref Md) "rows" = some none) (ha : PySem.W.findIn K (.ref Md) "__class__" = some (some (.builtin "object.__class__"))) (hn : PySem.W.specialIn K (.builtin "object.__class__") "__get__" = some (some (.builtin "getset_descriptor.__get__"))) (tk : PySem.W.takesIn K (.builtin "object.__class__") = some true) (mro : PySem.W.mroIn K Md (.type "object") = some true) (pa_tables : PySem.W.findIn K (.ref Md) "tables" = some (some (.ref gp_tables))) (pb_tables : PySem.W.specialIn K (.ref gp_tables) "__get__" = some (some (.builtin "property.__get__"))) (pc_tables : PySem.W.takesIn K (.ref gp_tables) = some true) (pd_tables : PySem.W.recIn K gp_tables "property" = some (.ref gq_tables :: rsp_tables)) (pl_tables : K.lookup gq_tables = some ⟨ocp_tables, odp_tables, .func (PySem.W.fnOf "tables" "Model.tables" (defArgs (inCls 1 (stAt 12))) (defBody (inCls 1 (stAt 12))) (defScope (inCls 1 (stAt 12))) .none kVp_tables dcp_tables pmp_tables anp_tables cdp_tables ctp_tables), slp_tables⟩) (pe_tables : PySem.W.codeIn K cdp_tables "Model.tables" = true) (pf_tables : PySem.W.keepIn K (.ref gq_tables) = true) (pa_outcomes : PySem.W.findIn K (.ref Md) "outcomes" = some (some (.ref gp_outcomes))) (pb_outcomes : PySem.W.specialIn K (.ref gp_outcomes) "__get__" = some (some (.builtin "property.__get__"))) (pc_outcomes : PySem.W.takesIn K (.ref gp_outcomes) = some true) (pd_outcomes : PySem.W.recIn K gp_outcomes "property" = some (.ref gq_outcomes :: rsp_outcomes)) (pl_outcomes : K.lookup gq_outcomes = some ⟨ocp_outcomes, odp_outcomes, .func (PySem.W.fnOf "outcomes" "Model.outcomes" (defArgs (inCls 2 (stAt 12))) (defBody (inCls 2 (stAt 12))) (defScope (inCls 2 (stAt 12))) .none kVp_outcomes dcp_outcomes pmp_outcomes anp_outcomes cdp_outcomes ctp_outcomes), slp_outcomes⟩) (pe_outcomes : PySem.W.codeIn K cdp_outcomes "Model.outcomes" = true) (pf_outcomes : PySem.W.keepIn K (.ref gq_outcomes) = true) (da_len : PySem.W.findIn K (.ref Md) "__len__" = some (some (.ref gq_len))) (db_len : PySem.W.isFn K (.ref gq_len) = true) (dc_len : PySem.W.notFirst K Md (.type "tuple") = true) (pl_len : K.lookup gq_len = some ⟨ocp_len, odp_len, .func (PySem.W.fnOf "__len__" "Model.__len__" (defArgs (inCls 3 (stAt 12))) (defBody (inCls 3 (stAt 12))) (defScope (inCls 3 (stAt 12))) .none kVp_len dcp_len pmp_len anp_len cdp_len ctp_len), slp_len⟩) (pe_len : PySem.W.codeIn K cdp_len "Model.__len__" = true) (pf_len : PySem.W.keepIn K (.ref gq_len) = true) (da_eq : PySem.W.findIn K (.ref Md) "__eq__" = some (some (.ref gq_eq))) (db_eq : PySem.W.isFn K (.ref gq_eq) = true) (dc_eq : PySem.W.notFirst K Md (.type "tuple") = true) (pl_eq : K.lookup gq_eq = some ⟨ocp_eq, odp_eq, .func (PySem.W.fnOf "__eq__" "Model.__eq__" (defArgs (inCls 4 (stAt 12))) (defBody (inCls 4 (stAt 12))) (defScope (inCls 4 (stAt 12))) .none kVp_eq dcp_eq pmp_eq anp_eq cdp_eq ctp_eq), slp_eq⟩) (pe_eq : PySem.W.codeIn K cdp_eq "Model.__eq__" = true) (pf_eq : PySem.W.keepIn K (.ref gq_eq) = true) (xa_InvalidOutcome : PySem.W.nsIn K mainGlobals "InvalidOutcome" = some (some (.ref x_InvalidOutcome))) (xc_InvalidOutcome : PySem.W.keepIn K (.ref x_InvalidOutcome) = true) (xd_InvalidOutcome : PySem.W.subIn K (.ref x_InvalidOutcome) (.type "BaseException") = some true) (xe_InvalidOutcome : PySem.W.typeIn K (.ref x_InvalidOutcome) = some (.type "type")) (xf_InvalidOutcome : PySem.W.findIn K (.ref x_InvalidOutcome) "__getattribute__" = some (some (.builtin "BaseException.__getattribute__"))) (xg_InvalidOutcome : PySem.W.findIn K (.ref x_InvalidOutcome) "__getattr__" = some none) (xh_InvalidOutcome : PySem.W.hasDictIn K x_InvalidOutcome = true) (xi_InvalidOutcome : PySem.W.findIn K (.ref x_InvalidOutcome) "__class__" = some (some (.builtin "object.__class__"))) (xj_InvalidOutcome : PySem.W.mroIn K x_InvalidOutcome (.type "object") = some true) (xn_InvalidOutcome_index : PySem.W.findIn K (.ref x_InvalidOutcome) "index" = some none) (xn_InvalidOutcome_line : PySem.W.findIn K (.ref x_InvalidOutcome) "line" = some none) (xn_InvalidOutcome_word : PySem.W.findIn K (.ref x_InvalidOutcome) "word" = some none) (xa_InvalidTables : PySem.W.nsIn K mainGlobals "InvalidTables" = some (some (.ref x_InvalidTables))) (xc_InvalidTables : PySem.W.keepIn K (.ref x_InvalidTables) = true) (xd_InvalidTables : PySem.W.subIn K (.ref x_InvalidTables) (.type "BaseException") = some true) (xe_InvalidTables : PySem.W.typeIn K (.ref x_InvalidTables) = some (.type "type")) (xf_InvalidTables : PySem.W.findIn K (.ref x_InvalidTables) "__getattribute__" = some (some (.builtin "BaseException.__getattribute__"))) (xg_InvalidTables : PySem.W.findIn K (.ref x_InvalidTables) "__getattr__" = some none) (xh_InvalidTables : PySem.W.hasDictIn K x_InvalidTables = true) (xi_InvalidTables : PySem.W.findIn K (.ref x_InvalidTables) "__class__" = some (some (.builtin "object.__class__"))) (xj_InvalidTables : PySem.W.mroIn K x_InvalidTables (.type "object") = some true) (xn_InvalidTables_index : PySem.W.findIn K (.ref x_InvalidTables) "index" = some none) (xn_InvalidTables_line : PySem.W.findIn K (.ref x_InvalidTables) "line" = some none) (xn_InvalidTables_word : PySem.W.findIn K (.ref x_InvalidTables) "word" = some none) (xa_LossError : PySem.W.nsIn K mainGlobals "LossError" = some (some (.ref x_LossError))) (xb_LossError : PySem.W.excIn K x_LossError veMro "ValueError.__new__" = true) (xc_LossError : PySem.W.keepIn K (.ref x_LossError) = true) (xd_LossError : PySem.W.subIn K (.ref x_LossError) (.type "BaseException") = some true) (xe_LossError : PySem.W.typeIn K (.ref x_LossError) = some (.type "type")) (xf_LossError : PySem.W.findIn K (.ref x_LossError) "__getattribute__" = some (some (.builtin "BaseException.__getattribute__"))) (xg_LossError : PySem.W.findIn K (.ref x_LossError) "__getattr__" = some none) (xh_LossError : PySem.W.hasDictIn K x_LossError = true) (xi_LossError : PySem.W.findIn K (.ref x_LossError) "__class__" = some (some (.builtin "object.__class__"))) (xj_LossError : PySem.W.mroIn K x_LossError (.type "object") = some true) (xn_LossError_index : PySem.W.findIn K (.ref x_LossError) "index" = some none) (xn_LossError_line : PySem.W.findIn K (.ref x_LossError) "line" = some none) (xn_LossError_word : PySem.W.findIn K (.ref x_LossError) "word" = some none) (yl_InvalidOutcome : K.lookup x_InvalidOutcome = some (excClassObj nm_InvalidOutcome q_InvalidOutcome x_InvalidOutcome N_InvalidOutcome bs_InvalidOutcome bm_InvalidOutcome true sn_InvalidOutcome sub_InvalidOutcome ab_InvalidOutcome col_InvalidOutcome dd_InvalidOutcome k0_InvalidOutcome k1_InvalidOutcome k2_InvalidOutcome k3_InvalidOutcome k5_InvalidOutcome "ValueError.__new__")) (yr_InvalidOutcome : PySem.HandSPX.refsVE bm_InvalidOutcome = true) (yt_InvalidOutcome : PySem.W.excTail veMro bm_InvalidOutcome = true) (ya_InvalidOutcome : PySem.W.findIn K (.ref x_InvalidOutcome) "__setattr__" = some (some (.builtin "object.__setattr__"))) (yu_InvalidOutcome : PySem.W.ks_superIn K x_InvalidOutcome x_InvalidOutcome "__init__" = some (some (.builtin "ValueError.__init__"))) (yv_InvalidOutcome : PySem.W.subIn K (.ref x_InvalidOutcome) (.type "ValueError") = some true) (ym_InvalidOutcome : PySem.W.mroIn K x_InvalidOutcome (.ref x_InvalidOutcome) = some true) (yi_InvalidOutcome : PySem.W.findIn K (.ref x_InvalidOutcome) "__init__" = some (some (.ref f_InvalidOutcome))) (yf_InvalidOutcome : PySem.W.typeIn K (.ref f_InvalidOutcome) = some (.type "function")) (yn_InvalidOutcome : K.lookup f_InvalidOutcome = some ⟨oc_InvalidOutcome, od_InvalidOutcome, .func (PySem.W.fnX "__init__" "InvalidOutcome.__init__" (defArgs (inCls 0 (stAt 3))) (defBody (inCls 0 (stAt 3))) (defScope (inCls 0 (stAt 3))) [("__class__", cc_InvalidOutcome)] .none kV_InvalidOutcome doc_InvalidOutcome pm_InvalidOutcome an_InvalidOutcome (.ref cda_InvalidOutcome) ct_InvalidOutcome), osl_InvalidOutcome⟩) (yc_InvalidOutcome : PySem.W.codeIn K (.ref cda_InvalidOutcome) "InvalidOutcome.__init__" = true) (ye_InvalidOutcome : K.lookup cc_InvalidOutcome = some ⟨ccl_InvalidOutcome, cld_InvalidOutcome, .cell (some (.ref x_InvalidOutcome)), csl_InvalidOutcome⟩) (yd_InvalidOutcome : K.lookup cda_InvalidOutcome = some ⟨dcl_InvalidOutcome, csd_InvalidOutcome, .fields vs_InvalidOutcome, dsl_InvalidOutcome⟩) (yw_InvalidOutcome : vs_InvalidOutcome[2]? = some (.str file_InvalidOutcome tf_InvalidOutcome)) (yh_InvalidOutcome : ((P.main.file : Str) == file_InvalidOutcome) = true) (yl_InvalidTables : K.lookup x_InvalidTables = some (excClassObj nm_InvalidTables q_InvalidTables x_InvalidTables N_InvalidTables bs_InvalidTables bm_InvalidTables true sn_InvalidTables sub_InvalidTables ab_InvalidTables col_InvalidTables dd_InvalidTables k0_InvalidTables k1_InvalidTables k2_InvalidTables k3_InvalidTables k5_InvalidTables "ValueError.__new__")) (yr_InvalidTables : PySem.HandSPX.refsVE bm_InvalidTables = true) (yt_InvalidTables : PySem.W.excTail veMro bm_InvalidTables = true) (ya_InvalidTables : PySem.W.findIn K (.ref x_InvalidTables) "__setattr__" = some (some (.builtin "object.__setattr__"))) (yu_InvalidTables : PySem.W.ks_superIn K x_InvalidTables x_InvalidTables "__init__" = some (some (.builtin "ValueError.__init__"))) (yv_InvalidTables : PySem.W.subIn K (.ref x_InvalidTables) (.type "ValueError") = some true) (ym_InvalidTables : PySem.W.mroIn K x_InvalidTables (.ref x_InvalidTables) = some true) (yi_InvalidTables : PySem.W.findIn K (.ref x_InvalidTables) "__init__" = some (some (.ref f_InvalidTables))) (yf_InvalidTables : PySem.W.typeIn K (.ref f_InvalidTables) = some (.type "function")) (yn_InvalidTables : K.lookup f_InvalidTables = some ⟨oc_InvalidTables, od_InvalidTables, .func (PySem.W.fnX "__init__" "InvalidTables.__init__" (defArgs (inCls 0 (stAt 2))) (defBody (inCls 0 (stAt 2))) (defScope (inCls 0 (stAt 2))) [("__class__", cc_InvalidTables)] .none kV_InvalidTables doc_InvalidTables pm_InvalidTables an_InvalidTables (.ref cda_InvalidTables) ct_InvalidTables), osl_InvalidTables⟩) (yc_InvalidTables : PySem.W.codeIn K (.ref cda_InvalidTables) "InvalidTables.__init__" = true) (ye_InvalidTables : K.lookup cc_InvalidTables = some ⟨ccl_InvalidTables, cld_InvalidTables, .cell (some (.ref x_InvalidTables)), csl_InvalidTables⟩) (yd_InvalidTables : K.lookup cda_InvalidTables = some ⟨dcl_InvalidTables, csd_InvalidTables, .fields vs_InvalidTables, dsl_InvalidTables⟩) (yw_InvalidTables : vs_InvalidTables[2]? = some (.str file_InvalidTables tf_InvalidTables)) (yh_InvalidTables : ((P.main.file : Str) == file_InvalidTables) = true) (yq : PySem.W.nsIn K cStatics "thirdparty.any" = some none) (yz : PySem.W.nsIn K mainGlobals "super" = some none) (yo : (P.main.scope.names.lookup ("super" : Str)).isSome = false) (xs_InvalidOutcome_InvalidOutcome : PySem.W.subIn K (.ref x_InvalidOutcome) (.ref x_InvalidOutcome) = some true) (xt_InvalidOutcome_InvalidOutcome : PySem.W.kitOne K (.ref x_InvalidOutcome) (.ref x_InvalidOutcome) = some true) (xs_InvalidOutcome_InvalidTables : PySem.W.subIn K (.ref x_InvalidOutcome) (.ref x_InvalidTables) = some false) (xt_InvalidOutcome_InvalidTables : PySem.W.kitOne K (.ref x_InvalidOutcome) (.ref x_InvalidTables) = some false) (xs_InvalidOutcome_LossError : PySem.W.subIn K (.ref x_InvalidOutcome) (.ref x_LossError) = some true) (xt_InvalidOutcome_LossError : PySem.W.kitOne K (.ref x_InvalidOutcome) (.ref x_LossError) = some true) (xs_InvalidTables_InvalidOutcome : PySem.W.subIn K (.ref x_InvalidTables) (.ref x_InvalidOutcome) = some false) (xt_InvalidTables_InvalidOutcome : PySem.W.kitOne K (.ref x_InvalidTables) (.ref x_InvalidOutcome) = some false) (xs_InvalidTables_InvalidTables : PySem.W.subIn K (.ref x_InvalidTables) (.ref x_InvalidTables) = some true) (xt_InvalidTables_InvalidTables : PySem.W.kitOne K (.ref x_InvalidTables) (.ref x_InvalidTables) = some true) (xs_InvalidTables_LossError : PySem.W.subIn K (.ref x_InvalidTables) (.ref x_LossError) = some true) (xt_InvalidTables_LossError : PySem.W.kitOne K (.ref x_InvalidTables) (.ref x_LossError) = some true) (xs_LossError_InvalidOutcome : PySem.W.subIn K (.ref x_LossError) (.ref x_InvalidOutcome) = some false) (xt_LossError_InvalidOutcome : PySem.W.kitOne K (.ref x_LossError) (.ref x_InvalidOutcome) = some false) (xs_LossError_InvalidTables : PySem.W.subIn K (.ref x_LossError) (.ref x_InvalidTables) = some false) (xt_LossError_InvalidTables : PySem.W.kitOne K (.ref x_LossError) (.ref x_InvalidTables) = some false) (xs_LossError_LossError : PySem.W.subIn K (.ref x_LossError) (.ref x_LossError) = some true) (xt_LossError_LossError : PySem.W.kitOne K (.ref x_LossError) (.ref x_LossError) = some true) (kN : PySem.W.kitOne K (.type "NoneType") (.ref Md) = some false) (kB : PySem.W.kitOne K (.type "bool") (.ref Md) = some false) (kI : PySem.W.kitOne K (.type "int") (.ref Md) = some false) (kS : PySem.W.kitOne K (.type "str") (.ref Md) = some false) (kT : PySem.W.kitOne K (.type "tuple") (.ref Md) = some false) (kL : PySem.W.kitOne K (.type "list") (.ref Md) = some false) (mB : PySem.W.kitOne K (.ref Md) (.type "bool") = some false) (mI : PySem.W.kitOne K (.ref Md) (.type "int") = some false) (mS : PySem.W.kitOne K (.ref Md) (.type "str") = some false) (mT : PySem.W.kitOne K (.ref Md) (.type "tuple") = some false) (mL : PySem.W.kitOne K (.ref Md) (.type "list") = some false) (z_range : PySem.W.nsIn K mainGlobals "range" = some none) (z_enumerate : PySem.W.nsIn K mainGlobals "enumerate" = some none) (z_zip : PySem.W.nsIn K mainGlobals "zip" = some none) (z_len : PySem.W.nsIn K mainGlobals "len" = some none) (z_sum : PySem.W.nsIn K mainGlobals "sum" = some none) (z_max : PySem.W.nsIn K mainGlobals "max" = some none) (z_min : PySem.W.nsIn K mainGlobals "min" = some none) (z_abs : PySem.W.nsIn K mainGlobals "abs" = some none) (z_all : PySem.W.nsIn K mainGlobals "all" = some none) (z_any : PySem.W.nsIn K mainGlobals "any" = some none) (z_tuple : PySem.W.nsIn K mainGlobals "tuple" = some none) (z_list : PySem.W.nsIn K mainGlobals "list" = some none) (z_str : PySem.W.nsIn K mainGlobals "str" = some none) (z_int : PySem.W.nsIn K mainGlobals "int" = some none) (z_bool : PySem.W.nsIn K mainGlobals "bool" = some none) (z_isinstance : PySem.W.nsIn K mainGlobals "isinstance" = some none) (z_sorted : PySem.W.nsIn K mainGlobals "sorted" = some none) (n0 : PySem.W.nsIn K mainGlobals "MOST_TABLES" = some (some (.int 4 tk0))) (n1 : PySem.W.nsIn K mainGlobals "MOST_OUTCOMES" = some (some (.int 27 tk1))) (n2 : PySem.W.nsIn K mainGlobals "MOST_WEIGHT" = some (some (.int 1000000 tk2))) :
    ∃ fd : FuncData, (∀ (s : Shared) (v : Value), BindsTo s fd ⟨[v], []⟩ [("_law_script", v)]) ∧ ∀ base : Heap, K.In base → base.Ns mainGlobals mg → FnOk P w K mg base (L2.CX P w) 26 fa fd ["_law_script"] (spLaw K) := by
  have e := hfa.symm.trans (PySem.W.mg_of X G a12)
  cases e
  have bi : ∀ x, biNames.elem x = true → mg x = none := fun x hx => by
    have hx : x ∈ biNames := List.elem_iff.mp hx
    simp only [biNames, List.mem_cons, List.not_mem_nil, or_false] at hx
    rcases hx with rfl | rfl | rfl | rfl | rfl | rfl | rfl | rfl | rfl | rfl | rfl | rfl | rfl | rfl | rfl | rfl | rfl
    · exact PySem.W.mg_none_of X G z_range
    · exact PySem.W.mg_none_of X G z_enumerate
    · exact PySem.W.mg_none_of X G z_zip
    · exact PySem.W.mg_none_of X G z_len
    · exact PySem.W.mg_none_of X G z_sum
    · exact PySem.W.mg_none_of X G z_max
    · exact PySem.W.mg_none_of X G z_min
    · exact PySem.W.mg_none_of X G z_abs
    · exact PySem.W.mg_none_of X G z_all
    · exact PySem.W.mg_none_of X G z_any
    · exact PySem.W.mg_none_of X G z_tuple
    · exact PySem.W.mg_none_of X G z_list
    · exact PySem.W.mg_none_of X G z_str
    · exact PySem.W.mg_none_of X G z_int
    · exact PySem.W.mg_none_of X G z_bool
    · exact PySem.W.mg_none_of X G z_isinstance
    · exact PySem.W.mg_none_of X G z_sorted

  have hn0 : ∀ x n, nums0.lookup x = some n → ∃ t, mg x = some (.int n t) := fun x n e => by
    have hm := lookup_mem e
    simp only [nums0, List.mem_cons, List.not_mem_nil, or_false, Prod.mk.injEq] at hm
    rcases hm with ⟨rfl, rfl⟩ | ⟨rfl, rfl⟩ | ⟨rfl, rfl⟩
    · exact ⟨tk0, PySem.W.mg_of X G n0⟩
    · exact ⟨tk1, PySem.W.mg_of X G n1⟩
    · exact ⟨tk2, PySem.W.mg_of X G n2⟩
  have nf_InvalidOutcome : ∀ f, flds.elem f = true → PySem.W.findIn K (.ref x_InvalidOutcome) f = some none := fun f hf => by
    have hf := List.elem_iff.mp hf
    simp only [flds, List.mem_cons, List.not_mem_nil, or_false] at hf
    rcases hf with rfl | rfl | rfl
    · exact xn_InvalidOutcome_index
    · exact xn_InvalidOutcome_line
    · exact xn_InvalidOutcome_word
  have nf_InvalidTables : ∀ f, flds.elem f = true → PySem.W.findIn K (.ref x_InvalidTables) f = some none := fun f hf => by
    have hf := List.elem_iff.mp hf
    simp only [flds, List.mem_cons, List.not_mem_nil, or_false] at hf
    rcases hf with rfl | rfl | rfl
    · exact xn_InvalidTables_index
    · exact xn_InvalidTables_line
    · exact xn_InvalidTables_word
  have nf_LossError : ∀ f, flds.elem f = true → PySem.W.findIn K (.ref x_LossError) f = some none := fun f hf => by
    have hf := List.elem_iff.mp hf
    simp only [flds, List.mem_cons, List.not_mem_nil, or_false] at hf
    rcases hf with rfl | rfl | rfl
    · exact xn_LossError_index
    · exact xn_LossError_line
    · exact xn_LossError_word
  have xfg_InvalidOutcome : XFdG P K mg x_InvalidOutcome "index" := by
    obtain ⟨p0, p1, p2, p3, p4, p5, q1, q2, q3, q4, tx, kk, hb, hl⟩ := yb_InvalidOutcome
    obtain ⟨ar, h1, h2⟩ := yp_InvalidOutcome
    exact xfdg_mk (cdl := .none) (osd := none) (tx := tx) (kk := kk) X G yl_InvalidOutcome yr_InvalidOutcome yt_InvalidOutcome ya_InvalidOutcome xd_InvalidOutcome xe_InvalidOutcome xc_InvalidOutcome yu_InvalidOutcome yv_InvalidOutcome ym_InvalidOutcome yq ye_InvalidOutcome yd_InvalidOutcome yw_InvalidOutcome yi_InvalidOutcome yf_InvalidOutcome yn_InvalidOutcome yc_InvalidOutcome xn_InvalidOutcome_index yz hb hl ys_InvalidOutcome yk_InvalidOutcome h1 h2 (fun us hl => match us, hl with | [_, _], _ => rfl) yh_InvalidOutcome yo (by decide) (by decide)
  have xfg_InvalidTables : XFdG P K mg x_InvalidTables "index" := by
    obtain ⟨p0, p1, p2, p3, p4, p5, q1, q2, q3, q4, tx, kk, hb, hl⟩ := yb_InvalidTables
    obtain ⟨ar, h1, h2⟩ := yp_InvalidTables
    exact xfdg_mk (cdl := .none) (osd := none) (tx := tx) (kk := kk) X G yl_InvalidTables yr_InvalidTables yt_InvalidTables ya_InvalidTables xd_InvalidTables xe_InvalidTables xc_InvalidTables yu_InvalidTables yv_InvalidTables ym_InvalidTables yq ye_InvalidTables yd_InvalidTables yw_InvalidTables yi_InvalidTables yf_InvalidTables yn_InvalidTables yc_InvalidTables xn_InvalidTables_index yz hb hl ys_InvalidTables yk_InvalidTables h1 h2 (fun us hl => match us, hl with | [_, _], _ => rfl) yh_InvalidTables yo (by decide) (by decide)
  have mdo : MdOk K Md := ⟨⟨pg, hd, po, sa⟩, nR, ha, hn, tk, mro, kN, kB, kI, kS, kT, kL, mB, mI, mS, mT, mL⟩
  refine ⟨PySem.W.fnOf "law" "law" (defArgs (stAt 23)) (defBody (stAt 23)) (defScope (stAt 23)) .none kV12 dc12 pm12 an12 cd12 ct12, fun s v => .of_eq rfl, fun base _ _ => ?_⟩
  exact law_at (PySem.W.mg_of X G xa_InvalidOutcome) ⟨(fun z => absurd z (by decide +kernel)), nf_InvalidOutcome, xc_InvalidOutcome, xd_InvalidOutcome, xe_InvalidOutcome, ⟨xf_InvalidOutcome, xg_InvalidOutcome, xd_InvalidOutcome, xh_InvalidOutcome, xi_InvalidOutcome, hn, tk, xj_InvalidOutcome⟩⟩ (PySem.W.mg_of X G xa_InvalidTables) ⟨(fun z => absurd z (by decide +kernel)), nf_InvalidTables, xc_InvalidTables, xd_InvalidTables, xe_InvalidTables, ⟨xf_InvalidTables, xg_InvalidTables, xd_InvalidTables, xh_InvalidTables, xi_InvalidTables, hn, tk, xj_InvalidTables⟩⟩ (PySem.W.mg_of X G xa_LossError) ⟨fun _ => xb_LossError, nf_LossError, xc_LossError, xd_LossError, xe_LossError, ⟨xf_LossError, xg_LossError, xd_LossError, xh_LossError, xi_LossError, hn, tk, xj_LossError⟩⟩ xs_InvalidOutcome_InvalidOutcome xt_InvalidOutcome_InvalidOutcome xs_InvalidOutcome_InvalidTables xt_InvalidOutcome_InvalidTables xs_InvalidOutcome_LossError xt_InvalidOutcome_LossError xs_InvalidTables_InvalidOutcome xt_InvalidTables_InvalidOutcome xs_InvalidTables_InvalidTables xt_InvalidTables_InvalidTables xs_InvalidTables_LossError xt_InvalidTables_LossError xs_LossError_InvalidOutcome xt_LossError_InvalidOutcome xs_LossError_InvalidTables xt_LossError_InvalidTables xs_LossError_LossError xt_LossError_LossError xfg_InvalidOutcome xfg_InvalidTables mdo bi hn0 (PySem.W.mg_of X G aM) (here_mk (st := stAt 15) X G a0 l0 c0 k0) (here_mk (st := stAt 5) X G a1 l1 c1 k1) (here_mk (st := stAt 10) X G a2 l2 c2 k2) (here_mk (st := stAt 11) X G a3 l3 c3 k3) (here_mk (st := stAt 17) X G a4 l4 c4 k4) (here_mk (st := stAt 18) X G a5 l5 c5 k5) (here_mk (st := stAt 19) X G a6 l6 c6 k6) (here_mk (st := stAt 20) X G a7 l7 c7 k7) (here_mk (st := stAt 21) X G a8 l8 c8 k8) (here_mk (st := stAt 22) X G a9 l9 c9 k9) (here_mk (st := stAt 16) X G a10 l10 c10 k10) (fun_mk (st := (inCls 0 (stAt 12))) li ci ki) ⟨mkM, ai, ii, kpM⟩ ⟨pa_tables, pb_tables, pc_tables, _, pd_tables⟩ (fun_mk (st := (inCls 1 (stAt 12))) pl_tables pe_tables pf_tables) ⟨pa_outcomes, pb_outcomes, pc_outcomes, _, pd_outcomes⟩ (fun_mk (st := (inCls 2 (stAt 12))) pl_outcomes pe_outcomes pf_outcomes) ⟨da_len, db_len, dc_len⟩ (fun_mk (st := (inCls 3 (stAt 12))) pl_len pe_len pf_len) ⟨da_eq, db_eq, dc_eq⟩ (fun_mk (st := (inCls 4 (stAt 12))) pl_eq pe_eq pf_eq) (here_mk (st := stAt 14) X G a11 l11 c11 k11) (here_mk (st := stAt 23) X G a12 l12 c12 k12)
end PV
open PySem PySem.W PyProof.Rows
set_option maxRecDepth 100000 in
set_option maxHeartbeats 0 in
theorem PySem.Challenge.cw_nothinglost_k01_models_refused_holds : PySem.Challenge.rw_nothinglost_k01_models_refused.Holds := by
  w_on; o_law; k_head; (case hw => w_witness2)
  k_fill
  refine L2.walk_of (l := PySem.Challenge.rw_nothinglost_k01_models_refused) (n := 63) (k := 26) (x := "_law_script") (CX := fun w => L2.CX (PySem.Challenge.rw_nothinglost_k01_models_refused).prog w) (sp := fun w => PV.spLaw _) rfl (by decide) rfl ⟨rfl, by decide, by decide⟩ (fun w h Y => PySem.W.kIn_of Y) ?F (fun _ _ a ns hl _ hS => ⟨a, ns, rfl, hS, hl, fun _ => rfl⟩) (fun _ _ _ _ _ h => by obtain ⟨_, _, _, _, _, _, _, _, _, _, _, _, q⟩ := h; exact q)
  case F =>
    intro w mg fa h KX G hmg
    refine' PV.all_mk KX G hmg ?a0 ?l0 ?c0 ?k0 ?a1 ?l1 ?c1 ?k1 ?a2 ?l2 ?c2 ?k2 ?a3 ?l3 ?c3 ?k3 ?a4 ?l4 ?c4 ?k4 ?a5 ?l5 ?c5 ?k5 ?a6 ?l6 ?c6 ?k6 ?a7 ?l7 ?c7 ?k7 ?a8 ?l8 ?c8 ?k8 ?a9 ?l9 ?c9 ?k9 ?a10 ?l10 ?c10 ?k10 ?a11 ?l11 ?c11 ?k11 ?a12 ?l12 ?c12 ?k12 ?aM ?ai ?ii ?li ?ci ?ki ?mkM ?kpM ?pg ?hd ?po ?sa ?nR ?ha ?hn ?tk ?mro ?pa_tables ?pb_tables ?pc_tables ?pd_tables ?pl_tables ?pe_tables ?pf_tables ?pa_outcomes ?pb_outcomes ?pc_outcomes ?pd_outcomes ?pl_outcomes ?pe_outcomes ?pf_outcomes ?da_len ?db_len ?dc_len ?pl_len ?pe_len ?pf_len ?da_eq ?db_eq ?dc_eq ?pl_eq ?pe_eq ?pf_eq ?xa_InvalidOutcome ?xc_InvalidOutcome ?xd_InvalidOutcome ?xe_InvalidOutcome ?xf_InvalidOutcome ?xg_InvalidOutcome ?xh_InvalidOutcome ?xi_InvalidOutcome ?xj_InvalidOutcome ?xn_InvalidOutcome_index ?xn_InvalidOutcome_line ?xn_InvalidOutcome_word ?xa_InvalidTables ?xc_InvalidTables ?xd_InvalidTables ?xe_InvalidTables ?xf_InvalidTables ?xg_InvalidTables ?xh_InvalidTables ?xi_InvalidTables ?xj_InvalidTables ?xn_InvalidTables_index ?xn_InvalidTables_line ?xn_InvalidTables_word ?xa_LossError ?xb_LossError ?xc_LossError ?xd_LossError ?xe_LossError ?xf_LossError ?xg_LossError ?xh_LossError ?xi_LossError ?xj_LossError ?xn_LossError_index ?xn_LossError_line ?xn_LossError_word ?yl_InvalidOutcome ?yr_InvalidOutcome ?yt_InvalidOutcome ?ya_InvalidOutcome ?yu_InvalidOutcome ?yv_InvalidOutcome ?ym_InvalidOutcome ?yi_InvalidOutcome ?yf_InvalidOutcome ?yn_InvalidOutcome ?yc_InvalidOutcome ?ye_InvalidOutcome ?yd_InvalidOutcome ?yw_InvalidOutcome ?yh_InvalidOutcome ?yl_InvalidTables ?yr_InvalidTables ?yt_InvalidTables ?ya_InvalidTables ?yu_InvalidTables ?yv_InvalidTables ?ym_InvalidTables ?yi_InvalidTables ?yf_InvalidTables ?yn_InvalidTables ?yc_InvalidTables ?ye_InvalidTables ?yd_InvalidTables ?yw_InvalidTables ?yh_InvalidTables ?yq ?yz ?yo ?xs_InvalidOutcome_InvalidOutcome ?xt_InvalidOutcome_InvalidOutcome ?xs_InvalidOutcome_InvalidTables ?xt_InvalidOutcome_InvalidTables ?xs_InvalidOutcome_LossError ?xt_InvalidOutcome_LossError ?xs_InvalidTables_InvalidOutcome ?xt_InvalidTables_InvalidOutcome ?xs_InvalidTables_InvalidTables ?xt_InvalidTables_InvalidTables ?xs_InvalidTables_LossError ?xt_InvalidTables_LossError ?xs_LossError_InvalidOutcome ?xt_LossError_InvalidOutcome ?xs_LossError_InvalidTables ?xt_LossError_InvalidTables ?xs_LossError_LossError ?xt_LossError_LossError ?kN ?kB ?kI ?kS ?kT ?kL ?mB ?mI ?mS ?mT ?mL ?z_range ?z_enumerate ?z_zip ?z_len ?z_sum ?z_max ?z_min ?z_abs ?z_all ?z_any ?z_tuple ?z_list ?z_str ?z_int ?z_bool ?z_isinstance ?z_sorted ?n0 ?n1 ?n2
    (case a0 => k_is); (case l0 => k_is); (case c0 => k_is); (case k0 => k_is); (case a1 => k_is); (case l1 => k_is); (case c1 => k_is); (case k1 => k_is); (case a2 => k_is); (case l2 => k_is); (case c2 => k_is); (case k2 => k_is); (case a3 => k_is); (case l3 => k_is); (case c3 => k_is); (case k3 => k_is); (case a4 => k_is); (case l4 => k_is); (case c4 => k_is); (case k4 => k_is); (case a5 => k_is); (case l5 => k_is); (case c5 => k_is); (case k5 => k_is); (case a6 => k_is); (case l6 => k_is); (case c6 => k_is); (case k6 => k_is); (case a7 => k_is); (case l7 => k_is); (case c7 => k_is); (case k7 => k_is); (case a8 => k_is); (case l8 => k_is); (case c8 => k_is); (case k8 => k_is); (case a9 => k_is); (case l9 => k_is); (case c9 => k_is); (case k9 => k_is); (case a10 => k_is); (case l10 => k_is); (case c10 => k_is); (case k10 => k_is); (case a11 => k_is); (case l11 => k_is); (case c11 => k_is); (case k11 => k_is); (case a12 => k_is); (case l12 => k_is); (case c12 => k_is); (case k12 => k_is); (case aM => k_is); (case ai => k_is); (case ii => k_is); (case li => k_is); (case ci => k_is); (case ki => k_is); (case mkM => k_is); (case kpM => k_is); (case pg => k_is); (case hd => k_is); (case po => k_is); (case sa => k_is); (case nR => k_is); (case ha => k_is); (case hn => k_is); (case tk => k_is); (case mro => k_is); (case pa_tables => k_is); (case pb_tables => k_is); (case pc_tables => k_is); (case pd_tables => k_is); (case pl_tables => k_is); (case pe_tables => k_is); (case pf_tables => k_is); (case pa_outcomes => k_is); (case pb_outcomes => k_is); (case pc_outcomes => k_is); (case pd_outcomes => k_is); (case pl_outcomes => k_is); (case pe_outcomes => k_is); (case pf_outcomes => k_is); (case da_len => k_is); (case db_len => k_is); (case dc_len => k_is); (case pl_len => k_is); (case pe_len => k_is); (case pf_len => k_is); (case da_eq => k_is); (case db_eq => k_is); (case dc_eq => k_is); (case pl_eq => k_is); (case pe_eq => k_is); (case pf_eq => k_is); (case xa_InvalidOutcome => k_is); (case xc_InvalidOutcome => k_is); (case xd_InvalidOutcome => k_is); (case xe_InvalidOutcome => k_is); (case xf_InvalidOutcome => k_is); (case xg_InvalidOutcome => k_is); (case xh_InvalidOutcome => k_is); (case xi_InvalidOutcome => k_is); (case xj_InvalidOutcome => k_is); (case xn_InvalidOutcome_index => k_is); (case xn_InvalidOutcome_line => k_is); (case xn_InvalidOutcome_word => k_is); (case xa_InvalidTables => k_is); (case xc_InvalidTables => k_is); (case xd_InvalidTables => k_is); (case xe_InvalidTables => k_is); (case xf_InvalidTables => k_is); (case xg_InvalidTables => k_is); (case xh_InvalidTables => k_is); (case xi_InvalidTables => k_is); (case xj_InvalidTables => k_is); (case xn_InvalidTables_index => k_is); (case xn_InvalidTables_line => k_is); (case xn_InvalidTables_word => k_is); (case xa_LossError => k_is); (case xb_LossError => k_exc); (case xc_LossError => k_is); (case xd_LossError => k_is); (case xe_LossError => k_is); (case xf_LossError => k_is); (case xg_LossError => k_is); (case xh_LossError => k_is); (case xi_LossError => k_is); (case xj_LossError => k_is); (case xn_LossError_index => k_is); (case xn_LossError_line => k_is); (case xn_LossError_word => k_is); (case yl_InvalidOutcome => k_is); (case yr_InvalidOutcome => (first | rfl | kernel_rfl | decide +kernel)); (case yt_InvalidOutcome => (first | rfl | kernel_rfl | decide +kernel)); (case ya_InvalidOutcome => k_is); (case yu_InvalidOutcome => ks_is); (case yv_InvalidOutcome => k_is); (case ym_InvalidOutcome => k_is); (case yi_InvalidOutcome => k_is); (case yf_InvalidOutcome => k_is); (case yn_InvalidOutcome => k_is); (case yc_InvalidOutcome => k_is); (case ye_InvalidOutcome => k_is); (case yd_InvalidOutcome => k_is); (case yw_InvalidOutcome => (first | rfl | kernel_rfl | decide +kernel)); (case yh_InvalidOutcome => (first | rfl | kernel_rfl | decide +kernel)); (case yl_InvalidTables => k_is); (case yr_InvalidTables => (first | rfl | kernel_rfl | decide +kernel)); (case yt_InvalidTables => (first | rfl | kernel_rfl | decide +kernel)); (case ya_InvalidTables => k_is); (case yu_InvalidTables => ks_is); (case yv_InvalidTables => k_is); (case ym_InvalidTables => k_is); (case yi_InvalidTables => k_is); (case yf_InvalidTables => k_is); (case yn_InvalidTables => k_is); (case yc_InvalidTables => k_is); (case ye_InvalidTables => k_is); (case yd_InvalidTables => k_is); (case yw_InvalidTables => (first | rfl | kernel_rfl | decide +kernel)); (case yh_InvalidTables => (first | rfl | kernel_rfl | decide +kernel)); (case yq => k_is); (case yz => k_is); (case yo => (first | rfl | kernel_rfl | decide +kernel)); (case xs_InvalidOutcome_InvalidOutcome => k_is); (case xt_InvalidOutcome_InvalidOutcome => kit_is); (case xs_InvalidOutcome_InvalidTables => k_is); (case xt_InvalidOutcome_InvalidTables => kit_is); (case xs_InvalidOutcome_LossError => k_is); (case xt_InvalidOutcome_LossError => kit_is); (case xs_InvalidTables_InvalidOutcome => k_is); (case xt_InvalidTables_InvalidOutcome => kit_is); (case xs_InvalidTables_InvalidTables => k_is); (case xt_InvalidTables_InvalidTables => kit_is); (case xs_InvalidTables_LossError => k_is); (case xt_InvalidTables_LossError => kit_is); (case xs_LossError_InvalidOutcome => k_is); (case xt_LossError_InvalidOutcome => kit_is); (case xs_LossError_InvalidTables => k_is); (case xt_LossError_InvalidTables => kit_is); (case xs_LossError_LossError => k_is); (case xt_LossError_LossError => kit_is); (case kN => kit_is); (case kB => kit_is); (case kI => kit_is); (case kS => kit_is); (case kT => kit_is); (case kL => kit_is); (case mB => kit_is); (case mI => kit_is); (case mS => kit_is); (case mT => kit_is); (case mL => kit_is); (case z_range => k_is); (case z_enumerate => k_is); (case z_zip => k_is); (case z_len => k_is); (case z_sum => k_is); (case z_max => k_is); (case z_min => k_is); (case z_abs => k_is); (case z_all => k_is); (case z_any => k_is); (case z_tuple => k_is); (case z_list => k_is); (case z_str => k_is); (case z_int => k_is); (case z_bool => k_is); (case z_isinstance => k_is); (case z_sorted => k_is); (case n0 => k_is); (case n1 => k_is); (case n2 => k_is)

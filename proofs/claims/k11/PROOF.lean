import PyProof.Rows.All
import Wide.All
import OpenK.AllK
import Wide.FinOn
import KE.KStateDown
import HandS.ForMost
import HandS.Exc
import HandS.TryOnly
import HandS.Wide
import HandS.Text
import HandS.TupMul
import HandS.TupAny
import HandS.Deep
import HandS.ExcOwn
import HandS.WordsExc
import HandS.Iter
import HandS.Zip
import HandS.Walk
import KE.GoesEnum
import KE.GoesMore
import HandS.RevTup
import KE.KDictZip
import KE.DatumOrd
import HandS.IsInst
import HandS.Conv
import HandS.Style
import HandS.More
import KE.KIndexOf
import KE.GoesZip
import KE.KExcSuper
import HandS.ExcInit
import HandS.ExcField
import HandS.ExcIs
import HandS.TryMany
import HandS.Nested
import HandS.Property
import HandS.HeadWalk
import HandS.FStr
import HandS.Defaults
import HandS.Head0
import HandS.Head1
import HandS.Head2
import HandS.HeadEnd
import HandS.HeadHook1
import HandS.HeadHook2
import HandS.HeadHook4
import HandS.HeadNt
import HandS.EndTab
import PySem.Challenge.RW_openshut_k11_texts_refused
set_option Elab.async false
set_option linter.all false
set_option maxRecDepth 100000
set_option maxHeartbeats 4000000
/-! Part A: the pure side: data, a store, the small syntax, its meaning. -/
namespace Py
open PySem PySem.Spec PyProof.Rows L2

inductive D where
  | non | bl (b : Bool) | int (i : Int) | str (s : Str)
  | tup (ds : List D) | lst (ds : List D) | obj (C : Str) (ns : List Str) (ds : List D) | loc (n : Nat) | fn (f : Nat) | scr (ds : List D)
inductive O where
  | lst (ds : List D)
  | ins (C : Str) (ns : List Str) (ds : List D)
  | dT (ks : List (List Key)) (ds : List D)
structure Ex where
  c : Str
  ns : List Str
  ds : List D
abbrev Sto := List O
abbrev Env := List (Option D)
inductive R (α : Type) where
  | ok (a : α) (S : Sto)
  | exc (e : Ex) (S : Sto)
  | stuck
def R.bind {α β : Type} : R α → (α → Sto → R β) → R β
  | .ok a S, k => k a S
  | .exc e S, _ => .exc e S
  | .stuck, _ => .stuck
@[simp] theorem R.bind_ok {α β : Type} (a : α) (S : Sto) (k : α → Sto → R β) : (R.ok a S).bind k = k a S := rfl
@[simp] theorem R.bind_exc {α β : Type} (e : Ex) (S : Sto) (k : α → Sto → R β) : (R.exc e S).bind k = .exc e S := rfl
@[simp] theorem R.bind_stuck {α β : Type} (k : α → Sto → R β) : (R.stuck).bind k = .stuck := rfl
/-- nothing that is raised may leave -/
def R.nox {α : Type} : R α → R α
  | .exc _ _ => .stuck
  | r => r
@[simp] theorem R.nox_ok {α : Type} (a : α) (S : Sto) : (R.ok a S).nox = .ok a S := rfl
@[simp] theorem R.nox_stuck {α : Type} : (R.stuck : R α).nox = .stuck := rfl
@[simp] theorem R.nox_exc {α : Type} (e : Ex) (S : Sto) : (R.exc e S : R α).nox = .stuck := rfl
def R.lift {α : Type} (o : Option α) (S : Sto) : R α := match o with
  | some a => .ok a S
  | none => .stuck
@[simp] theorem R.lift_some {α : Type} (a : α) (S : Sto) : R.lift (some a) S = .ok a S := rfl
@[simp] theorem R.lift_none {α : Type} (S : Sto) : R.lift (none : Option α) S = .stuck := rfl

/-! ### data as the library's data -/
mutual
def D.py : D → Option PyData
  | .non => some .none
  | .bl b => some (.bool b)
  | .int i => some (.int i)
  | .str s => some (.str s)
  | .tup ds => (D.pys ds).map PyData.tuple
  | .lst ds => (D.pys ds).map PyData.list
  | .obj _ _ _ => none
  | .loc _ => none
  | .fn _ => none
  | .scr _ => none
def D.pys : List D → Option (List PyData)
  | [] => some []
  | d :: ds => match D.py d, D.pys ds with
    | some x, some xs => some (x :: xs)
    | _, _ => none
end
/-- what stands at a place, if it is a list -/
@[simp] def lstAt (S : Sto) (n : Nat) : Option (List D) := match S[n]? with
  | some (.lst ds) => some ds
  | _ => none
/-- a list in the store seen as data -/
@[simp] def deref (S : Sto) : D → D
  | .loc n => match lstAt S n with
    | some ds => .lst ds
    | none => .loc n
  | d => d
/-- the items of a list or tuple -/
@[simp] def seqD (S : Sto) : D → Option (List D)
  | .tup ds => some ds
  | .lst ds => some ds
  | .loc n => lstAt S n
  | .scr ds => some ds
  | _ => none
/-- == as Python has it, on data -/
def eqD (S : Sto) (x y : D) : Option Bool := match (deref S x).py, (deref S y).py with
  | some a, some b => if SeqAt.shaped a && SeqAt.shaped b then some (PyData.eqv a b) else none
  | _, _ => none
/-- x in c -/
def inD (S : Sto) (x c : D) : Option Bool := match (deref S x).py, (deref S c).py with
  | some d, some (.list ds) => if SeqAt.shaped d && SeqAt.shaped (.list ds) then some (ds.any fun y => PyData.eqv y d) else none
  | some d, some (.tuple ds) => if SeqAt.shaped d && SeqAt.shaped (.tuple ds) then some (ds.any fun y => PyData.eqv y d) else none
  | some (.str i), some (.str j) => some (!(Builtin.Str.occurrences j i 0 j.length 1).isEmpty)
  | _, _ => none
def intsD : List D → Option (List Int)
  | [] => some []
  | .int i :: ds => (intsD ds).map (i :: ·)
  | _ => none
def boolsD : List D → Option (List Bool)
  | [] => some []
  | .bl i :: ds => (boolsD ds).map (i :: ·)
  | _ => none
def strsD : List D → Option (List Str)
  | [] => some []
  | .str i :: ds => (strsD ds).map (i :: ·)
  | _ => none

/-! ### operators -/
def mulOk (i j : Int) : Bool := decide (i.natAbs.log2 < 63) || decide (j.natAbs.log2 < 63) || decide (i.natAbs.log2 + j.natAbs.log2 < 1000000)
def ndivOk (j : Int) : Bool := decide (j < 0) && decide (j.natAbs.log2 < 9000)
def divOk (j : Int) : Bool := decide (0 < j) && decide (j.natAbs.log2 < 9000)
@[simp] def binD (op : Operator) (S : Sto) (x y : D) : Option D := match op with
  | .Add => (match deref S x, deref S y with
    | .int i, .int j => some (.int (i + j))
    | .str i, .str j => if i.length + j.length ≤ 10000 then some (.str (i ++ j)) else none
    | .tup a, .tup b => if a.length + b.length ≤ 10000 then some (.tup (a ++ b)) else none
    | .lst a, .lst b => if a.length + b.length ≤ 10000 then some (.lst (a ++ b)) else none
    | _, _ => none)
  | .Sub => (match x, y with
    | .int i, .int j => some (.int (i - j))
    | _, _ => none)
  | .Mult => (match x, y with
    | .int i, .int j => if mulOk i j then some (.int (i * j)) else none
    | .tup a, .int k => if a ≠ [] ∧ 2 ≤ k ∧ k ≤ 1000 ∧ a.length ≤ 1000 then some (.tup (List.replicate k.toNat a).flatten) else none
    | .lst a, .int k => if 0 ≤ k ∧ k ≤ 1000 ∧ a.length ≤ 1000 then some (.lst (List.replicate k.toNat a).flatten) else none
    | _, _ => none)
  | .FloorDiv => (match x, y with
    | .int i, .int j => if divOk j then some (.int (i / j)) else if ndivOk j then some (.int (i.fdiv j)) else none
    | _, _ => none)
  | .Mod => (match x, y with
    | .int i, .int j => if 0 < j then some (.int (i % j)) else none
    | _, _ => none)
  | .Pow => (match x, y with
    | .int i, .int j => if 0 ≤ j ∧ j ≤ 1000 ∧ i.natAbs < 2 ^ 64 then some (.int (i ^ j.toNat)) else none
    | _, _ => none)
  | _ => none
inductive Cm where
  | eq | ne | lt | le | gt | ge | isN | notN | inS | notIn
deriving DecidableEq
@[simp] def cmpD (S : Sto) (op : Cm) (x y : D) : Option Bool := match op with
  | .eq => eqD S x y
  | .ne => (eqD S x y).map (!·)
  | .lt => match x, y with
    | .int i, .int j => some (decide (i < j))
    | _, _ => none
  | .le => match x, y with
    | .int i, .int j => some (decide (i ≤ j))
    | _, _ => none
  | .gt => match x, y with
    | .int i, .int j => some (decide (j < i))
    | _, _ => none
  | .ge => match x, y with
    | .int i, .int j => some (decide (j ≤ i))
    | _, _ => none
  | .isN => match y, x with
    | .non, .non => some true
    | .non, _ => some false
    | _, _ => none
  | .notN => match y, x with
    | .non, .non => some false
    | .non, _ => some true
    | _, _ => none
  | .inS => inD S x y
  | .notIn => (inD S x y).map (!·)

/-! ### equality of data, for guards -/
mutual
def D.same : D → D → Bool
  | .non, .non => true
  | .bl a, .bl b => a == b
  | .int a, .int b => a == b
  | .str a, .str b => a == b
  | .tup a, .tup b => D.sames a b
  | .lst a, .lst b => D.sames a b
  | .obj C a b, .obj C' a' b' => C == C' && a == a' && D.sames b b'
  | .loc a, .loc b => a == b
  | .fn a, .fn b => a == b
  | .scr a, .scr b => D.sames a b
  | _, _ => false
def D.sames : List D → List D → Bool
  | [], [] => true
  | x :: xs, y :: ys => D.same x y && D.sames xs ys
  | _, _ => false
end
/-! ### which places a value names -/
mutual
def D.und (k : Nat) : D → Bool
  | .tup ds => D.unds k ds
  | .lst ds => D.unds k ds
  | .obj _ _ ds => D.unds k ds
  | .loc n => n < k
  | .scr ds => D.unds k ds
  | _ => true
def D.unds (k : Nat) : List D → Bool
  | [] => true
  | d :: ds => D.und k d && D.unds k ds
end
def O.und (k : Nat) : O → Bool
  | .lst ds => D.unds k ds
  | .ins _ _ ds => D.unds k ds
  | .dT _ ds => D.unds k ds
def closed (k : Nat) (S : Sto) : Bool := S.all (O.und k)
/-- the end of a call: what the callee made is let go; a list that it gives back is from now on never changed -/
def cut (k : Nat) (d : D) (S : Sto) : R D :=
  if S.length ≤ k then .ok d S else
  if closed k (S.take k) then
    match d with
    | .loc n => if n < k then .ok d (S.take k) else (match lstAt S n with
      | some ds => if D.unds k ds then .ok (.lst ds) (S.take k) else .stuck
      | none => .stuck)
    | d => if d.und k then .ok d (S.take k) else .stuck
  else .stuck
def cutX (k : Nat) (e : Ex) (S : Sto) : R D :=
  if S.length ≤ k then .exc e S else
  if closed k (S.take k) && D.unds k e.ds then .exc e (S.take k) else .stuck

/-! ### the syntax -/
inductive Ty where
  | int | bool | str | tup | lst | cls (C : Str)
deriving DecidableEq
inductive Bi where
  | len | abs | int | min1 | min2 | max2 | sum | any | all | tuple
deriving DecidableEq
inductive Bm where
  | append | insert | index | reverse | join | split | replace
deriving DecidableEq
mutual
inductive Tg where
  | nm (i : Nat)
  | tp (ts : Tgs)
inductive Tgs where
  | nil
  | cons (t : Tg) (ts : Tgs)
end
mutual
inductive Tm where
  | var (i : Nat)
  | con (d : D)
  | gco (x : Str) (d : D)
  | tup (es : Tms)
  | lst (own : Bool) (es : Tms)
  | bin (op : Operator) (a b : Tm)
  | neg (a : Tm)
  | not (a : Tm)
  | cmp (op : Cm) (a b : Tm)
  | cha (op op' : Cm) (a b c : Tm)
  | and (a b : Tm)
  | or (a b : Tm)
  | ite (c a b : Tm)
  | ix (a i : Tm)
  | sl (a lo hi : Tm)
  | rev (a : Tm)
  | call (f : Nat) (es : Tms)
  | new (C : Str) (f : Nat) (frz : Bool) (es : Tms)
  | meth (C m : Str) (f : Nat) (o : Tm) (es : Tms)
  | fld (C x : Str) (o : Tm)
  | prop (C : Str) (f : Nat) (o : Tm)
  | oeq (C : Str) (f : Nat) (a b : Tm)
  | olen (C : Str) (f : Nat) (a : Tm)
  | fnv (x : Str) (f : Nat)
  | isi (ts : List Ty) (a : Tm)
  | bi (b : Bi) (es : Tms)
  | lof (own : Bool) (e : Tm)
  | lrg1 (own : Bool) (a : Tm)
  | lrg2 (own : Bool) (a b : Tm)
  | tzip (a b : Tm)
  | bm (b : Bm) (o : Tm) (es : Tms)
  | comp (own : Bool) (vs : List Nat) (t : Tg) (w : It) (c : Tms) (e : Tm)
  | comp2 (own : Bool) (vs : List Nat) (t : Tg) (w : It) (vs1 : List Nat) (t1 : Tg) (w1 : It) (c1 : Tms) (e : Tm)
  | dict
  | dget (o : Tm) (es : Tms)
  | din (neg : Bool) (es : Tms) (o : Tm)
  | fstr (es : Tms)
  | tjn (o e : Tm)
  | tsp (o e : Tm)
  | sti (e : Tm)
  | ist (e : Tm)
  | ixs (a i : Tm)
  | calv (fs : List Nat) (a : Tm) (es : Tms)
inductive Tms where
  | nil
  | cons (e : Tm) (es : Tms)
inductive It where
  | val (e : Tm)
  | rng (es : Tms)
  | enum (es : Tms)
  | zip (es : Tms)
  | txt (e : Tm)
  | enk (a b : Tm)
end
/-- what an except suite tells of the error -/
inductive HL where
  | con (d : D)
  | fld (x : Str)
inductive HT where
  | lf (l : HL)
  | lst (ls : List HL)
  | tup (ls : List HL)
  | isi (C : Str) (a b : HT)
inductive HS where
  | asg (j : Nat) (t : HT)
  | ret (t : HT)
  | sel (j i v : Nat) (Cs ws : List Str)
mutual
inductive Sm where
  | asg (t : Tg) (e : Tm)
  | par (is : List Nat) (es : Tms)
  | sto (o i e : Tm)
  | sfl (C x : Str) (o e : Tm)
  | dput (o : Tm) (es : Tms) (e : Tm)
  | try_ (b : Sms) (i : Option Nat) (xs : List Str) (hs : List (Str × HS))
  | ex (e : Tm)
  | ite (c : Tm) (a b : Sms)
  | whl (c : Tm) (b : Sms)
  | for_ (t : Tg) (w : It) (b : Sms)
  | ret (e : Tm)
  | rai (C : Str) (ns : List Str) (es : Tms)
  | nvr
  | pass
inductive Sms where
  | nil
  | cons (s : Sm) (ss : Sms)
end

/-! ### the meaning of what needs no calls -/
@[simp] def truthD : D → Option Bool
  | .bl b => some b
  | _ => none
@[simp] def negD : D → Option D
  | .int i => some (.int (-i))
  | _ => none
/-- an index as Python has it -/
@[simp] def ixD (S : Sto) (x i : D) : Option D := match seqD S x, i with
  | some ds, .int i => L2.atI ds i
  | _, _ => none
@[simp] def boundD : D → Option (Option Int)
  | .non => some none
  | .int i => some (some i)
  | _ => none
def cutD {α : Type} (ds : List α) (lo hi : Option Int) : List α := (ds.drop (HT.sIx ds.length 0 lo)).take (HT.sIx ds.length ds.length hi - HT.sIx ds.length 0 lo)
@[simp] def slD (S : Sto) (x lo hi : D) : Option D := (boundD lo).bind fun l => (boundD hi).bind fun h => match deref S x with
  | .tup ds => some (.tup (cutD ds l h))
  | .lst ds => some (.lst (cutD ds l h))
  | _ => none
inductive DT where
  | non | bl | int | str | tup | lst | dict | cls (C : Str)
deriving DecidableEq
/-- the type of a value -/
@[simp] def oTy : O → DT
  | .lst _ => .lst
  | .dT _ _ => .dict
  | .ins C _ _ => .cls C
@[simp] def dTy (S : Sto) : D → Option DT
  | .non => some .non
  | .bl _ => some .bl
  | .int _ => some .int
  | .str _ => some .str
  | .tup _ => some .tup
  | .lst _ => some .lst
  | .scr _ => some .lst
  | .obj C _ _ => some (.cls C)
  | .loc n => (S[n]?).map oTy
  | .fn _ => none
@[simp] def isTyT : DT → Ty → Bool
  | .int, .int => true
  | .bl, .int => true
  | .bl, .bool => true
  | .str, .str => true
  | .tup, .tup => true
  | .lst, .lst => true
  | .cls C, .cls C' => C == C'
  | _, _ => false
@[simp] def lookD (x : Str) : List Str → List D → Option D
  | n :: ns, d :: ds => if n = x then some d else lookD x ns ds
  | _, _ => none
/-- the fields of an instance of C -/
@[simp] def insN (S : Sto) (C : Str) : D → Option (List Str)
  | .obj C' ns _ => if C' = C then some ns else none
  | .loc n => match S[n]? with
    | some (.ins C' ns _) => if C' = C then some ns else none
    | _ => none
  | _ => none
@[simp] def blR (d : D) (S : Sto) : R D := match d with
  | .bl b => .ok (.bl b) S
  | _ => .stuck
@[simp] def lenR (d : D) (S : Sto) : R D := match d with
  | .int n => if 0 ≤ n ∧ n ≤ 10000 then .ok (.int n) S else .stuck
  | _ => .stuck
@[simp] def fldD (S : Sto) (C x : Str) : D → Option D
  | .obj C' ns ds => if C' = C then lookD x ns ds else none
  | .loc n => match S[n]? with
    | some (.ins C' ns ds) => if C' = C then lookD x ns ds else none
    | _ => none
  | _ => none
def minL : List Int → Option Int
  | [] => none
  | i :: is => some (is.foldl (fun a b => if b < a then b else a) i)
@[simp] def zipD : List D → List D → List D
  | a :: as, b :: bs => .tup [a, b] :: zipD as bs
  | _, _ => []
/-- the items of a list -/
@[simp] def lseqD (S : Sto) : D → Option (List D)
  | .lst ds => some ds
  | .loc n => lstAt S n
  | .scr ds => some ds
  | _ => none
@[simp] def revD (S : Sto) (x : D) : Option D := match x with
  | .tup ds => some (.tup ds.reverse)
  | x => (lseqD S x).map fun ds => .lst ds.reverse
@[simp] def lenD (S : Sto) (d : D) : Option D := match d with
  | .str s => if s.length ≤ 10000 then some (.int s.length) else none
  | d => (seqD S d).map fun ds => .int ds.length
@[simp] def absD (d : D) : Option D := match d with
  | .int i => some (.int (if i < 0 then -i else i))
  | _ => none
@[simp] def intD (d : D) : Option D := match d with
  | .int i => some (.int i)
  | _ => none
@[simp] def bi1 (S : Sto) (b : Bi) (d : D) : Option D := match b with
  | .len => lenD S d
  | .abs => absD d
  | .int => intD d
  | .min1 => (seqD S d).bind fun ds => (intsD ds).bind fun is => (minL is).map D.int
  | .sum => (lseqD S d).bind fun ds => (intsD ds).bind fun is => some (.int is.sum)
  | .any => (lseqD S d).bind fun ds => (boolsD ds).map fun bs => .bl (bs.any id)
  | .all => (lseqD S d).bind fun ds => (boolsD ds).map fun bs => .bl (bs.all id)
  | .tuple => (seqD S d).map fun ds => .tup ds
  | _ => none
@[simp] def bi2 (b : Bi) (x y : D) : Option D := match x, y with
  | .int i, .int j => (match b with
    | .min2 => some (.int (if j < i then j else i))
    | .max2 => some (.int (if j > i then j else i))
    | _ => none)
  | _, _ => none
@[simp] def biD (S : Sto) (b : Bi) (ds : List D) : Option D := match ds with
  | [d] => bi1 S b d
  | [x, y] => bi2 b x y
  | _ => none
@[simp] def tzD (a b : D) : Option D := match a, b with
  | .tup as, .tup bs => if as.length ≤ 10000 ∧ bs.length ≤ 10000 then some (.tup (zipD as bs)) else none
  | _, _ => none
/-! what a target stores -/
mutual
@[simp] def asgT (S : Sto) : Tg → D → Env → Option Env
  | .nm i, d, δ => if i < δ.length then some (δ.set i (some d)) else none
  | .tp ts, d, δ => match d with
    | .tup ds => asgTs S ts ds δ
    | _ => none
@[simp] def asgTs (S : Sto) : Tgs → List D → Env → Option Env
  | .nil, ds, δ => (match ds with
    | [] => some δ
    | _ => none)
  | .cons t ts, ds, δ => (match ds with
    | d :: ds => (asgT S t d δ).bind fun δ' => asgTs S ts ds δ'
    | [] => none)
end
@[simp] def setsE : List Nat → List D → Env → Option Env
  | [], [], δ => some δ
  | i :: is, d :: ds, δ => setsE is ds (δ.set i (some d))
  | _, _, _ => none
def wipeE (δ : Env) : List Nat → Env
  | [] => δ
  | v :: vs => (wipeE δ vs).set v none
def enumD (k : Int) : List D → List D
  | [] => []
  | d :: ds => .tup [.int k, d] :: enumD (k + 1) ds
def rngD (lo : Int) : Nat → List D
  | 0 => []
  | n + 1 => .int lo :: rngD (lo + 1) n
/-- what is walked: the items, the place of the list if it may change -/
abbrev Wk := List D × Option Nat × List D
@[simp] def srcD (S : Sto) (d : D) : Option Nat := match d with
  | .loc n => some n
  | _ => none
@[simp] def rngW : List D → Option Wk
  | [.int n] => if -1000 ≤ n ∧ n ≤ 1000 then some (rngD 0 n.toNat, none, []) else none
  | [.int m, .int n] => if -1000 ≤ m ∧ m ≤ 1000 ∧ -1000 ≤ n ∧ n ≤ 1000 then some (rngD m (n - m).toNat, none, []) else none
  | _ => none
/-- zip of two lists, two tuples, a tuple and a list -/
def zipW : List D → Option Wk
  | [.lst xs, .lst ys] => some (zipD xs ys, none, [])
  | [.tup xs, .tup ys] => some (zipD xs ys, none, [])
  | [.tup xs, .lst ys] => some (zipD xs ys, none, [])
  | _ => none
@[simp] def enumW (S : Sto) : List D → Option Wk
  | [d] => (seqD S d).map fun ds => (enumD 0 ds, srcD S d, ds)
  | _ => none
def okWk (w : Wk) (S : Sto) : Bool := match w.2.1 with
  | none => true
  | some n => match lstAt S n with
    | some ds => D.sames ds w.2.2
    | none => false
/-- one item after another into a list -/
def compL (f : D → Sto → R (Option D)) (w : Wk) : List D → List D → Sto → R (List D)
  | [], acc, S => if okWk w S then .ok acc S else .stuck
  | d :: ds, acc, S => if okWk w S then (f d S).nox.bind fun o S1 => if acc.length < 10000 then compL f w ds (match o with | some y => acc ++ [y] | none => acc) S1 else .stuck else .stuck
def compLs (f : D → List D → Sto → R (List D)) (w : Wk) : List D → List D → Sto → R (List D)
  | [], acc, S => if okWk w S then .ok acc S else .stuck
  | d :: ds, acc, S => if okWk w S then (f d acc S).nox.bind fun acc' S1 => compLs f w ds acc' S1 else .stuck
/-- a new list -/
@[simp] def newL (own : Bool) (ds : List D) (S : Sto) : R D := if ds.length ≤ 10000 then (if own then .ok (.loc S.length) (S ++ [.lst ds]) else .ok (.lst ds) S) else .stuck
@[simp] def appD (o : D) (ds : List D) (S : Sto) : R D := match o, ds with
  | .loc n, [d] => (match lstAt S n with
    | some xs => if xs.length < 10000 then .ok .non (S.set n (.lst (xs ++ [d]))) else .stuck
    | none => .stuck)
  | _, _ => .stuck
@[simp] def insD (o : D) (ds : List D) (S : Sto) : R D := match o, ds with
  | .loc n, [.int i, d] => (match lstAt S n with
    | some xs => if 0 ≤ i ∧ i ≤ xs.length ∧ xs.length < 10000 then .ok .non (S.set n (.lst (xs.take i.toNat ++ d :: xs.drop i.toNat))) else .stuck
    | none => .stuck)
  | _, _ => .stuck
@[simp] def idxD (o : D) (ds : List D) (S : Sto) : R D := match ds with
  | [.int i] => (match (seqD S o).bind intsD with
    | some is => if i ∈ is then .ok (.int (is.idxOf i)) S else .stuck
    | none => .stuck)
  | _ => .stuck
def rvsD (o : D) (ds : List D) (S : Sto) : R D := match o, ds with
  | .loc n, [] => (match lstAt S n with
    | some xs => .ok .non (S.set n (.lst xs.reverse))
    | none => .stuck)
  | _, _ => .stuck
/-- tuples have index -/
@[simp] def ixT : Bm → D → Bool
  | .index, .tup _ => true
  | _, _ => false
@[simp] def bmD (b : Bm) (o : D) (ds : List D) (S : Sto) : R D := match b with
  | .append => appD o ds S
  | .insert => insD o ds S
  | .index => idxD o ds S
  | .reverse => rvsD o ds S
  | _ => .stuck
/-! dicts whose keys are tuples -/
def keyOf : D → Option Key
  | .int i => some (Sum.inl i)
  | .str s => some (Sum.inr s)
  | _ => none
def keysD : List D → Option (List Key)
  | [] => some []
  | d :: ds => match keyOf d, keysD ds with
    | some k, some ks => some (k :: ks)
    | _, _ => none
def keysG (ds : List D) : Option (List Key) := if ds.length ≤ 100 then keysD ds else none
def dictAt (S : Sto) : D → Option (List (List Key) × List D)
  | .loc n => match S[n]? with
    | some (.dT ks ds) => some (ks, ds)
    | _ => none
  | _ => none
def dval : List (List Key) → List D → List Key → Option D
  | k' :: ks, d :: ds, k => if k' = k then some d else dval ks ds k
  | _, _, _ => none
def dgetD (S : Sto) (x : D) (ds : List D) : Option D := (dictAt S x).bind fun p => (keysG ds).bind fun k => dval p.1 p.2 k
def dinD (S : Sto) (x : D) (ds : List D) : Option Bool := (dictAt S x).bind fun p => (keysG ds).map fun k => (dval p.1 p.2 k).isSome
def dputD (S : Sto) (x : D) (ds : List D) (v : D) : Option Sto := match x with
  | .loc n => (dictAt S x).bind fun p => (keysG ds).bind fun k => if p.1.length < 10000 ∧ (dval p.1 p.2 k).isSome = false then some (S.set n (.dT (p.1 ++ [k]) (p.2 ++ [v]))) else none
  | _ => none
@[simp] def isNon : Tm → Bool
  | .con .non => true
  | _ => false
@[simp] def intR (d : D) (S : Sto) : R D := match d with
  | .int i => .ok (.int i) S
  | _ => .stuck
/-! texts -/
def isStrD : D → Bool
  | .str _ => true
  | _ => false
def joinD (S : Sto) (x y : D) : Option D := match x with
  | .str a => ((seqD S y).bind strsD).bind fun ys => if (ys.map (·.length)).sum + ys.length * a.length ≤ 10000 then some (.str (Txt.join a ys)) else none
  | _ => none
def splitD (x y : D) : Option D := match x, y with
  | .str a, .str b => if (b.length == 0) = false ∧ a.length ≤ 10000 then some (.lst ((Txt.split a b).map .str)) else none
  | _, _ => none
def stiD : D → Option D
  | .int i => if i.natAbs.log2 < 1920 then some (.str (toString i)) else none
  | _ => none
def istD : D → Option D
  | .str a => if a.length ≤ 640 then (PySem.intText? a).map .int else none
  | _ => none
def ixsD (x y : D) : Option D := match x, y with
  | .str z, .int i => if 0 ≤ i ∧ i < 10000 then (z.cps[i.toNat]?).map fun c => .str ⟨#[c]⟩ else none
  | _, _ => none
def fmtD : D → Option Str
  | .str y => if y.length ≤ 10000 then some y else none
  | .int i => if i.natAbs.log2 < 1920 then some (toString i) else none
  | _ => none
def fmtA (acc : Str) (d : D) : Option Str := (fmtD d).bind fun y => if (acc ++ y).length ≤ 10000 then some (acc ++ y) else none
def txtW : D → Option Wk
  | .str x => some (x.cps.toList.map fun c => .str ⟨#[c]⟩, none, [])
  | _ => none
def enkW (x y : D) : Option Wk := match x, y with
  | .lst ds, .int k => if -1000 ≤ k ∧ k ≤ 1000 then some (enumD k ds, none, []) else none
  | _, _ => none
abbrev Fns := Nat → List D → Sto → R D
/-- C(..) -/
@[simp] def newD (Φ : Fns) (C : Str) (f : Nat) (frz : Bool) (ds : List D) (S : Sto) : R D :=
  (Φ f (.loc S.length :: ds) (S ++ [.ins C [] []])).bind fun d S2 => match d with
    | .non => if frz then (match S2[S.length]? with
        | some (.ins C' ns xs) => if C' = C ∧ S2.length = S.length + 1 ∧ closed S.length (S2.take S.length) = true ∧ D.unds S.length xs = true then .ok (.obj C ns xs) (S2.take S.length) else .stuck
        | _ => .stuck)
      else .ok (.loc S.length) S2
    | _ => .stuck
mutual
@[simp] def ev (Φ : Fns) : Tm → Env → Sto → R D
  | .var i, δ, S => (match δ[i]? with
    | some (some d) => .ok d S
    | _ => .stuck)
  | .con d, _, S => .ok d S
  | .gco _ d, _, S => .ok d S
  | .tup es, δ, S => (evs Φ es δ S).bind fun ds S => if ds.length ≤ 10000 then .ok (.tup ds) S else .stuck
  | .lst own es, δ, S => (evs Φ es δ S).bind fun ds S => newL own ds S
  | .bin op a b, δ, S => (ev Φ a δ S).bind fun x S => (ev Φ b δ S).bind fun y S => R.lift (binD op S x y) S
  | .neg a, δ, S => (ev Φ a δ S).bind fun x S => R.lift (negD x) S
  | .not a, δ, S => (ev Φ a δ S).bind fun x S => R.lift ((truthD x).map fun b => .bl (!b)) S
  | .cmp op a b, δ, S => (ev Φ a δ S).bind fun x S => (ev Φ b δ S).bind fun y S => R.lift ((cmpD S op x y).map D.bl) S
  | .cha op op' a b c, δ, S => (ev Φ a δ S).bind fun x S => (ev Φ b δ S).bind fun y S => (R.lift (cmpD S op x y) S).bind fun t S =>
      if t then (ev Φ c δ S).bind fun z S => R.lift ((cmpD S op' y z).map D.bl) S else .ok (.bl false) S
  | .and a b, δ, S => (ev Φ a δ S).bind fun x S => (R.lift (truthD x) S).bind fun t S => if t then (ev Φ b δ S).bind fun y S => R.lift ((truthD y).map D.bl) S else .ok (.bl false) S
  | .or a b, δ, S => (ev Φ a δ S).bind fun x S => (R.lift (truthD x) S).bind fun t S => if t then .ok (.bl true) S else (ev Φ b δ S).bind fun y S => R.lift ((truthD y).map D.bl) S
  | .ite c a b, δ, S => (ev Φ c δ S).bind fun x S => (R.lift (truthD x) S).bind fun t S => if t then ev Φ a δ S else ev Φ b δ S
  | .ix a i, δ, S => (ev Φ a δ S).bind fun x S => (ev Φ i δ S).bind fun y S => R.lift (ixD S x y) S
  | .sl a lo hi, δ, S => (ev Φ a δ S).bind fun x S => (if isNon lo then R.ok .non S else (ev Φ lo δ S).bind fun d S => intR d S).bind fun l S =>
      (if isNon hi then R.ok .non S else (ev Φ hi δ S).bind fun d S => intR d S).bind fun h S => R.lift (slD S x l h) S
  | .rev a, δ, S => (ev Φ a δ S).bind fun x S => R.lift (revD S x) S
  | .call f es, δ, S => (evs Φ es δ S).bind fun ds S => Φ f ds S
  | .new C f frz es, δ, S => (evs Φ es δ S).bind fun ds S => newD Φ C f frz ds S
  | .meth C m f o es, δ, S => (ev Φ o δ S).bind fun x S => match insN S C x with
    | some ns => if ns.contains m then .stuck else (evs Φ es δ S).bind fun ds S => Φ f (x :: ds) S
    | none => .stuck
  | .fld C x o, δ, S => (ev Φ o δ S).bind fun d S => R.lift (fldD S C x d) S
  | .prop C f o, δ, S => (ev Φ o δ S).bind fun x S => if (insN S C x).isSome then (Φ f [x] S).nox else .stuck
  | .oeq C f a b, δ, S => (ev Φ a δ S).bind fun x S => (ev Φ b δ S).bind fun y S => if ((insN S C x).isSome && (dTy S y).isSome) = true then (Φ f [x, y] S).nox.bind blR else .stuck
  | .olen C f a, δ, S => (ev Φ a δ S).bind fun x S => if (insN S C x).isSome then (Φ f [x] S).nox.bind lenR else .stuck
  | .fnv _ f, _, S => .ok (.fn f) S
  | .isi ts a, δ, S => (ev Φ a δ S).bind fun x S => R.lift ((dTy S x).map fun t => .bl (ts.any (isTyT t))) S
  | .bi b es, δ, S => (evs Φ es δ S).bind fun ds S => R.lift (biD S b ds) S
  | .lof own e, δ, S => (ev Φ e δ S).bind fun d S => (R.lift (seqD S d) S).bind fun ds S => newL own ds S
  | .lrg1 own a, δ, S => (ev Φ a δ S).bind fun x S => (R.lift (rngW [x]) S).bind fun k S => newL own k.1 S
  | .lrg2 own a b, δ, S => (ev Φ a δ S).bind fun x S => (ev Φ b δ S).bind fun y S => (R.lift (rngW [x, y]) S).bind fun k S => newL own k.1 S
  | .tzip a b, δ, S => (ev Φ a δ S).bind fun x S => (ev Φ b δ S).bind fun y S => R.lift (tzD x y) S
  | .bm b o es, δ, S => (ev Φ o δ S).bind fun x S => if ((lseqD S x).isSome || ixT b x) = true then (evs Φ es δ S).bind fun ds S => bmD b x ds S else .stuck
  | .comp own vs t w c e, δ, S => (evI Φ w δ S).bind fun k S => (compL (fun d S => match asgT S t d (wipeE δ vs) with
      | some δ' => (evc Φ c δ' S).bind fun b S => if b then (ev Φ e δ' S).bind fun y S => .ok (some y) S else .ok none S
      | none => .stuck) k k.1 [] S).bind fun ds S => newL own ds S
  | .comp2 own vs t w vs1 t1 w1 c1 e, δ, S => (evI Φ w δ S).bind fun k S => (compLs (fun d acc S => match asgT S t d (wipeE δ vs) with
      | some δ' => (evI Φ w1 δ' S).bind fun k1 S => (compL (fun d S => match asgT S t1 d (wipeE δ' vs1) with
          | some δ'' => (evc Φ c1 δ'' S).bind fun b S => if b then (ev Φ e δ'' S).bind fun y S => .ok (some y) S else .ok none S
          | none => .stuck) k1 k1.1 acc S)
      | none => .stuck) k k.1 [] S).bind fun ds S => newL own ds S
  | .dict, _, S => .ok (.loc S.length) (S ++ [.dT [] []])
  | .dget o es, δ, S => (ev Φ o δ S).bind fun x S => (evs Φ es δ S).bind fun ds S => R.lift (dgetD S x ds) S
  | .din neg es o, δ, S => (evs Φ es δ S).bind fun ds S => if (keysG ds).isSome then (ev Φ o δ S).bind fun x S => R.lift ((dinD S x ds).map fun b => .bl (if neg then !b else b)) S else .stuck
  | .fstr es, δ, S => evf Φ es Str.empty δ S
  | .tjn o e, δ, S => (ev Φ o δ S).bind fun x S => if isStrD x = true then (ev Φ e δ S).bind fun y S => R.lift (joinD S x y) S else .stuck
  | .tsp o e, δ, S => (ev Φ o δ S).bind fun x S => if isStrD x = true then (ev Φ e δ S).bind fun y S => R.lift (splitD x y) S else .stuck
  | .sti e, δ, S => (ev Φ e δ S).bind fun x S => R.lift (stiD x) S
  | .ist e, δ, S => (ev Φ e δ S).bind fun x S => R.lift (istD x) S
  | .ixs a i, δ, S => (ev Φ a δ S).bind fun x S => (ev Φ i δ S).bind fun y S => R.lift (ixsD x y) S
  | .calv fs a es, δ, S => (ev Φ a δ S).bind fun d S => match d with
    | .fn f => if fs.contains f then (evs Φ es δ S).bind fun ds S => Φ f ds S else .stuck
    | _ => .stuck
@[simp] def evs (Φ : Fns) : Tms → Env → Sto → R (List D)
  | .nil, _, S => .ok [] S
  | .cons e es, δ, S => (ev Φ e δ S).bind fun d S => (evs Φ es δ S).bind fun ds S => .ok (d :: ds) S
/-- the parts of a format -/
@[simp] def evf (Φ : Fns) : Tms → Str → Env → Sto → R D
  | .nil, acc, _, S => .ok (.str acc) S
  | .cons e es, acc, δ, S => (ev Φ e δ S).bind fun d S => (R.lift (fmtA acc d) S).bind fun acc S => evf Φ es acc δ S
/-- at most one condition -/
@[simp] def evc (Φ : Fns) : Tms → Env → Sto → R Bool
  | .nil, _, S => .ok true S
  | .cons e .nil, δ, S => (ev Φ e δ S).bind fun d S => R.lift (truthD d) S
  | .cons _ _, _, _ => .stuck
@[simp] def evI (Φ : Fns) : It → Env → Sto → R Wk
  | .val e, δ, S => (ev Φ e δ S).bind fun d S => R.lift ((seqD S d).map fun ds => (ds, srcD S d, ds)) S
  | .rng es, δ, S => (evs Φ es δ S).bind fun ds S => R.lift (rngW ds) S
  | .enum es, δ, S => (evs Φ es δ S).bind fun ds S => R.lift (enumW S ds) S
  | .zip es, δ, S => (evs Φ es δ S).bind fun ds S => R.lift (zipW ds) S
  | .txt e, δ, S => (ev Φ e δ S).bind fun d S => R.lift (txtW d) S
  | .enk a b, δ, S => (ev Φ a δ S).bind fun x S => (ev Φ b δ S).bind fun y S => R.lift (enkW x y) S
end
/-- a test -/
@[simp] def evT (Φ : Fns) (e : Tm) (δ : Env) (S : Sto) : R Bool := (ev Φ e δ S).bind fun d S => R.lift (truthD d) S

/-! ### statements -/
inductive Out where
  | nxt (δ : Env) (S : Sto)
  | ret (d : D) (S : Sto)
  | exc (e : Ex) (δ : Env) (S : Sto)
  | stuck
def Out.of {α : Type} (δ : Env) : R α → (α → Sto → Out) → Out
  | .ok a S, k => k a S
  | .exc e S, _ => .exc e δ S
  | .stuck, _ => .stuck
@[simp] theorem Out.of_ok {α : Type} (δ : Env) (a : α) (S : Sto) (k : α → Sto → Out) : Out.of δ (.ok a S) k = k a S := rfl
@[simp] theorem Out.of_exc {α : Type} (δ : Env) (e : Ex) (S : Sto) (k : α → Sto → Out) : Out.of δ (.exc e S) k = .exc e δ S := rfl
@[simp] theorem Out.of_stuck {α : Type} (δ : Env) (k : α → Sto → Out) : Out.of δ .stuck k = .stuck := rfl
def Out.bind : Out → (Env → Sto → Out) → Out
  | .nxt δ S, k => k δ S
  | .ret d S, _ => .ret d S
  | .exc e δ S, _ => .exc e δ S
  | .stuck, _ => .stuck
@[simp] theorem Out.bind_nxt (δ : Env) (S : Sto) (k : Env → Sto → Out) : (Out.nxt δ S).bind k = k δ S := rfl
@[simp] theorem Out.bind_ret (d : D) (S : Sto) (k : Env → Sto → Out) : (Out.ret d S).bind k = .ret d S := rfl
@[simp] theorem Out.bind_exc (e : Ex) (δ : Env) (S : Sto) (k : Env → Sto → Out) : (Out.exc e δ S).bind k = .exc e δ S := rfl
@[simp] theorem Out.bind_stuck (k : Env → Sto → Out) : Out.stuck.bind k = .stuck := rfl
/-- what is raised is caught -/
def Out.catch : Out → (Ex → Env → Sto → Out) → Out
  | .exc e δ S, k => k e δ S
  | o, _ => o
@[simp] theorem Out.catch_nxt (δ : Env) (S : Sto) (k : Ex → Env → Sto → Out) : (Out.nxt δ S).catch k = .nxt δ S := rfl
@[simp] theorem Out.catch_ret (d : D) (S : Sto) (k : Ex → Env → Sto → Out) : (Out.ret d S).catch k = .ret d S := rfl
@[simp] theorem Out.catch_exc (e : Ex) (δ : Env) (S : Sto) (k : Ex → Env → Sto → Out) : (Out.exc e δ S).catch k = k e δ S := rfl
@[simp] theorem Out.catch_stuck (k : Ex → Env → Sto → Out) : Out.stuck.catch k = .stuck := rfl
def evHL (e : Ex) : HL → Option D
  | .con d => some d
  | .fld x => lookD x e.ns e.ds
def evHLs (e : Ex) : List HL → Option (List D)
  | [] => some []
  | l :: ls => (evHL e l).bind fun d => (evHLs e ls).bind fun ds => some (d :: ds)
/-- own errors stand right below StageError -/
def subX (c C : Str) : Bool := c == C || C == ("StageError" : Str)
def evHT (e : Ex) : HT → Option D
  | .lf l => evHL e l
  | .lst ls => (evHLs e ls).bind fun ds => if ds.length ≤ 1000 then some (.lst ds) else none
  | .tup ls => (evHLs e ls).bind fun ds => if ds.length ≤ 1000 then some (.tup ds) else none
  | .isi C a b => if subX e.c C then evHT e a else evHT e b
def unE : Option Nat → Env → Env
  | none, δ => δ
  | some i, δ => δ.set i none
/-- the words where the bools hold -/
def selL : List Str → List Bool → List D
  | w :: ws, b :: bs => if b then .str w :: selL ws bs else selL ws bs
  | _, _ => []
def hdG (i : Option Nat) : List (Str × HS) → Ex → Env → Sto → Out
  | [], e, δ, S => .exc e δ S
  | (C, h) :: r, e, δ, S => if subX e.c C then (match h with
      | .asg j t => (match evHT e t with
        | some d => if j < δ.length then .nxt (unE i (δ.set j (some d))) S else .stuck
        | none => .stuck)
      | .ret t => (match evHT e t with
        | some d => .ret d S
        | none => .stuck)
      | .sel j m _ Cs ws => if j < δ.length ∧ m < δ.length ∧ Cs.length = ws.length ∧ ws.length ≤ 100 then .nxt (unE i ((δ.set j (some (.lst (Cs.map fun C => .bl (subX e.c C))))).set m (some (.lst (selL ws (Cs.map (subX e.c))))))) S else .stuck) else hdG i r e δ S
def okI : Option Nat → Env → Bool
  | none, _ => true
  | some i, δ => decide (i < δ.length)
def hdX (i : Option Nat) (xs : List Str) (hs : List (Str × HS)) (e : Ex) (δ : Env) (S : Sto) : Out := if (xs.contains e.c && okI i δ) = true then hdG i hs e δ S else .stuck
/-- nothing that is raised may leave -/
def Out.nox : Out → Out
  | .exc _ _ _ => .stuck
  | o => o
@[simp] theorem Out.nox_nxt (δ : Env) (S : Sto) : (Out.nxt δ S).nox = .nxt δ S := rfl
@[simp] theorem Out.nox_ret (d : D) (S : Sto) : (Out.ret d S).nox = .ret d S := rfl
def whF (c : Env → Sto → R Bool) (b : Env → Sto → Out) : Nat → Env → Sto → Out
  | 0, _, _ => .stuck
  | n + 1, δ, S => Out.of δ (c δ S) fun t S1 => if t then (b δ S1).bind fun δ' S' => whF c b n δ' S' else .nxt δ S1
open Classical in
noncomputable def whW (c : Env → Sto → R Bool) (b : Env → Sto → Out) (δ : Env) (S : Sto) : Out :=
  if h : ∃ n, whF c b n δ S ≠ .stuck then whF c b (Classical.choose h) δ S else .stuck
def forL (t : Tg) (b : Env → Sto → Out) (w : Wk) : List D → Env → Sto → Out
  | [], δ, S => if okWk w S then .nxt δ S else .stuck
  | d :: ds, δ, S => if okWk w S then (match asgT S t d δ with
    | some δ' => (b δ' S).bind fun δ'' S' => forL t b w ds δ'' S'
    | none => .stuck) else .stuck
@[simp] def putD (x : Str) (d : D) : List Str → List D → List Str × List D
  | n :: ns, e :: ds => if n = x then (n :: ns, d :: ds) else let r := putD x d ns ds; (n :: r.1, e :: r.2)
  | _, _ => ([x], [d])
def keyD : D → Option (List Key)
  | .tup ds => ds.mapM fun d => match d with
    | .int i => some (Sum.inl i)
    | .str s => some (Sum.inr s)
    | _ => none
  | _ => none
/-- o[i] = d -/
@[simp] def stoD (o i d : D) (S : Sto) : Option Sto := match o, i with
  | .loc n, .int j => (lstAt S n).bind fun xs => (L2.ixN xs.length j).map fun k => S.set n (.lst (xs.set k d))
  | _, _ => none
@[simp] def sflD (C x : Str) (o d : D) (S : Sto) : Option Sto := match o with
  | .loc n => match S[n]? with
    | some (.ins C' ns ds) => if C' = C ∧ ns.length < 100 then some (S.set n (.ins C (putD x d ns ds).1 (putD x d ns ds).2)) else none
    | _ => none
  | _ => none
mutual
@[simp] noncomputable def evS (Φ : Fns) : Sm → Env → Sto → Out
  | .asg t e, δ, S => Out.of δ (ev Φ e δ S) fun d S => (match asgT S t d δ with
    | some δ' => .nxt δ' S
    | none => .stuck)
  | .par is es, δ, S => Out.of δ (evs Φ es δ S) fun ds S => (match setsE is ds δ with
    | some δ' => .nxt δ' S
    | none => .stuck)
  | .sto o i e, δ, S => Out.of δ (ev Φ e δ S) fun d S => Out.of δ (ev Φ o δ S) fun x S => Out.of δ (ev Φ i δ S) fun j S => (match stoD x j d S with
    | some S' => .nxt δ S'
    | none => .stuck)
  | .sfl C x o e, δ, S => Out.of δ (ev Φ e δ S) fun d S => Out.of δ (ev Φ o δ S) fun y S => (match sflD C x y d S with
    | some S' => .nxt δ S'
    | none => .stuck)
  | .dput o es e, δ, S => Out.of δ (ev Φ e δ S) fun v S => Out.of δ (ev Φ o δ S) fun x S => Out.of δ (evs Φ es δ S) fun ds S => (match dputD S x ds v with
    | some S' => .nxt δ S'
    | none => .stuck)
  | .try_ b i xs hs, δ, S => (evSs Φ b δ S).catch (hdX i xs hs)
  | .ex e, δ, S => Out.of δ (ev Φ e δ S) fun _ S => .nxt δ S
  | .ite c a b, δ, S => Out.of δ (evT Φ c δ S) fun t S => if t then evSs Φ a δ S else evSs Φ b δ S
  | .whl c b, δ, S => whW (evT Φ c) (evSs Φ b) δ S
  | .for_ t w b, δ, S => Out.of δ (evI Φ w δ S) fun k S => forL t (evSs Φ b) k k.1 δ S
  | .ret e, δ, S => Out.of δ (ev Φ e δ S) fun d S => .ret d S
  | .nvr, _, _ => .stuck
  | .rai C ns es, δ, S => Out.of δ (evs Φ es δ S) fun ds S => if ds.length = ns.length then .exc ⟨C, ns.reverse, ds.reverse⟩ δ S else .stuck
  | .pass, δ, S => .nxt δ S
@[simp] noncomputable def evSs (Φ : Fns) : Sms → Env → Sto → Out
  | .nil, δ, S => .nxt δ S
  | .cons s ss, δ, S => (evS Φ s δ S).bind fun δ S => evSs Φ ss δ S
end
structure FD where
  np : Nat
  ns : Nat
  own : Bool
  body : Sms
@[simp] noncomputable def runF (Φ : Fns) (fd : FD) (ds : List D) (S : Sto) : R D :=
  if ds.length = fd.np then (match evSs Φ fd.body (ds.map some ++ List.replicate (fd.ns - fd.np) none) S with
    | .nxt _ S' => if fd.own then .ok .non S' else cut S.length .non S'
    | .ret d S' => if fd.own then .ok d S' else cut S.length d S'
    | .exc e _ S' => cutX S.length e S'
    | .stuck => .stuck)
  else .stuck
noncomputable def Phi (tbl : List (Nat × FD)) : Nat → Fns
  | 0, _, _, _ => .stuck
  | n + 1, f, ds, S => match tbl.lookup f with
    | some fd => runF (Phi tbl n) fd ds S
    | none => .stuck
end Py

set_option Elab.async false
set_option linter.all false
set_option maxRecDepth 100000
set_option maxHeartbeats 4000000
/-! Part A1: tuples made at run time, with what they are kept (so that their methods can be called). -/
namespace RT
open PySem PySem.Spec PyProof.Rows HT L2
/-- what a rule for a new tuple asks of what follows -/
def NT (H : Hp) (Q : VK) (vs : List V) : Prop := ∀ (p : Addr) (o : Obj), H p = none → o.dict = none → Q (.ref p) (upd H p (.frz o (.tup vs)))
section
variable {X : Cx} {pins : List (Addr × Obj)} {σ : L2.St} {H : Hp} {s : Shared} {Q : VK}
theorem laid {vs : List V} {us : List Value} {k : Nat} (I : Inv X pins σ H s) (r : Vals vs us) (hz : vs.length ≤ sizeLine) (q : NT H Q vs) :
    EP X pins σ Q (.ref s.heap.objs.size) { s with heap := s.heap.push { cls := .type "tuple", data := .seq us.toArray }, toks := k } :=
  ⟨.ref s.heap.objs.size, _, I.laid (o := .frz { cls := .type "tuple", data := .seq us.toArray } (.tup vs)) (fun b u e => Heap.get?_push_of_some _ e) (Nat.le_refl _) ⟨Heap.get?_push_size _ rfl, hz, us, r, ⟨_, Heap.get?_push_size _ rfl, rfl, _, rfl⟩⟩, rfl, q _ _ (I.hok.fresh (Nat.le_refl _)) rfl⟩
end
section
variable {X : Cx} {es : List Expr} {t : TA} {pos : Pos}
def tTupF (t : TA) : TE := fun σ H Q => t σ H fun xs H1 => xs.length ≤ sizeLine ∧ NT H1 Q xs
theorem pe_tupF {x1} (h : PA X es t) : PE X (.Tuple es x1 pos) (tTupF t) := by
  refine ⟨fun pins s σ H Q I hq => ?_⟩
  refine wpAny_Tuple_spliced (thn (h.run pos pins s σ H _ I hq) fun us s1 ⟨xs, H1, I1, r, z, q⟩ => ⟨by rw [← r.length]; exact z, ?_⟩)
  exact laid (k := s1.toks) I1 r z q
/-- t + u -/
def rCatF (K : PySem.W.Frag) : R2 := fun x y H Q => ∃ a b xs ys, x = .ref a ∧ y = .ref b ∧ SqT K H a xs ∧ SqT K H b ys ∧ xs.length + ys.length ≤ sizeLine ∧
  (xs = [] → Q (.ref b) H) ∧ (xs ≠ [] → ys = [] → Q (.ref a) H) ∧ (xs ≠ [] → ys ≠ [] → NT H Q (xs ++ ys))
theorem op_catF : OpR X (binaryOp .Add) (rCatF X.K) := by
  intro pins s σ H x y v u Q I rx ry h
  obtain ⟨a, b, xs, ys, rfl, rfl, ha, hb, hz, q0, q1, q2⟩ := h
  cases rx
  cases ry
  obtain ⟨its, r1, p1, _⟩ := I.tuple ha
  obtain ⟨its2, r2, p2, _⟩ := I.tuple hb
  by_cases hx : xs = []
  · subst hx
    cases r1
    exact cat_tup0 p1 p2 ⟨.ref b, H, I, rfl, q0 rfl⟩
  · refine HT.cat_tup p1 p2 (fun z => hx (r1.nil_iff.mp z)) (fun z => ⟨.ref a, H, I, rfl, q1 hx (r2.nil_iff.mp z)⟩) (fun z => ?_) (by rw [← r1.length, ← r2.length]; exact hz)
    exact laid (k := s.toks) I (r1.append r2) (by rw [List.length_append]; exact hz) (q2 hx fun w => z (r2.nil_iff.mpr w))
/-- t[lo:hi] -/
def rSlF (K : PySem.W.Frag) : V → Option Int → Option Int → Hp → VK → Prop := fun x lo hi H Q => ∃ a xs, x = .ref a ∧ SqT K H a xs ∧
  (HT.sIx xs.length 0 lo = 0 ∧ HT.sIx xs.length xs.length hi = xs.length → Q (.ref a) H) ∧ (¬ (HT.sIx xs.length 0 lo = 0 ∧ HT.sIx xs.length xs.length hi = xs.length) → NT H Q (cutV xs lo hi))
theorem sl_tupF : SlR X (rSlF X.K) := by
  intro pins s σ H x v vl vu lo hi sl Q I rx hs pl pu h
  obtain ⟨a, xs, rfl, hx, q1, q2⟩ := h
  cases rx
  obtain ⟨its, r, ht, hz⟩ := I.tuple hx
  have hlen : its.toArray.size = xs.length := by rw [List.size_toArray]; exact r.length.symm
  refine ⟨"tuple", _, PyProof.Rows.slot_tuple_getitem.lookup, ht.typeIs, ?_⟩
  by_cases hw : HT.sIx xs.length 0 lo = 0 ∧ HT.sIx xs.length xs.length hi = xs.length
  · exact getItem_tuple_whole ht hs pl pu (by rw [hlen]; exact hw) ⟨.ref a, H, I, rfl, q1 hw⟩
  · refine HT.getItem_tuple_cut ht hs pl pu (by rw [hlen]; exact hw) ?_ (by rw [hlen]; exact hz)
    rw [hlen]
    exact laid (k := s.toks) I ((r.drop (HT.sIx xs.length 0 lo)).take (HT.sIx xs.length xs.length hi - HT.sIx xs.length 0 lo)) (Nat.le_trans (cutV_length xs lo hi) hz) (q2 hw)
/-- tuple(..) -/
theorem call_tupF : CallR X (.type "tuple") (fun xs H Q => ∃ p ys, xs = [.ref p] ∧ ((SqL X.K H p ys ∧ NT H Q ys) ∨ (SqT X.K H p ys ∧ Q (.ref p) H))) := by
  intro pins s σ H xs us Q I r h
  obtain ⟨p, ys, rfl, h⟩ := h
  obtain ⟨u, rfl, rx⟩ := vals1 r
  cases rx
  rcases h with ⟨hq, q⟩ | ⟨hq, q⟩
  · obtain ⟨its, r', pl, hz⟩ := I.list hq
    have hlen := r'.length
    refine call_tuple_list pl.isList (fun h' kp => ?_) (by simp only [List.size_toArray] <;> omega)
    have I1 : Inv X pins σ H { s with heap := h' } := I.kept (t' := s.toks) kp
    exact laid (k := s.toks) I1 r' hz q
  · obtain ⟨its, r', pl, hz⟩ := I.tuple hq
    exact call_tuple_same pl ⟨.ref p, H, I, rfl, q⟩
def rRepF (K : PySem.W.Frag) : R2 := fun x y H Q => ∃ l k xs, x = .ref l ∧ y = .int k ∧ SqT K H l xs ∧ xs ≠ [] ∧ 2 ≤ k ∧ k ≤ 1000 ∧ xs.length ≤ 1000 ∧ NT H Q (List.replicate k.toNat xs).flatten
theorem op_repF : OpR X (binaryOp .Mult) (rRepF X.K) := by
  intro pins s σ H x y v u Q I rx ry h
  obtain ⟨l, k, xs, rfl, rfl, hT, hne, h1, h2, hz, q⟩ := h
  cases rx
  obtain ⟨t, rfl⟩ := ry
  obtain ⟨its, r, ⟨⟨cls, dd, data, sl⟩, ho, hc, n, hd⟩, hs⟩ := I.tuple hT
  simp only at hc hd
  subst hc hd
  have hle : its.length = xs.length := r.length.symm
  have hi : its.toArray.isEmpty = false := by
    cases its with
    | nil => exact absurd (List.eq_nil_of_length_eq_zero hle.symm) hne
    | cons a b => rfl
  have hsz0 : its.toArray.size = xs.length := by rw [List.size_toArray, hle]
  have hm : ((its.toArray.size : Nat) : Int) * k ≤ 1000000 := by
    rw [hsz0]
    have a1 : ((xs.length : Nat) : Int) * k ≤ 1000 * k := Int.mul_le_mul_of_nonneg_right (by omega) (by omega)
    omega
  have fl : ∀ m : Nat, m ≤ 1000 → k.toNat * m ≤ sizeLine := fun m hm => by
    rw [sizeLine_eq]
    have a1 : k.toNat * m ≤ 1000 * 1000 := Nat.mul_le_mul (by omega) hm
    omega
  have c0 : (decide (k < -(2 ^ 63)) || decide (k ≥ 2 ^ 63)) = false := by
    rw [decide_eq_false (by omega), decide_eq_false (by omega)] <;> rfl
  have c1 : (its.toArray.isEmpty || k == 1) = false := by
    rw [hi, Bool.false_or]
    exact beq_eq_false_iff_ne.mpr (by omega)
  have c2 : (decide (k ≤ 0) || its.toArray.isEmpty) = false := by
    rw [hi, Bool.or_false]
    exact decide_eq_false (by omega)
  have c4 : Builtin.Tuple.tupleTooMany (((its.toArray.size : Nat) : Int) * k) = false := by
    unfold Builtin.Tuple.tupleTooMany
    rw [sizeLine_eq]
    exact decide_eq_false (by omega)
  refine wpAny_binaryOp_repeat_ref (T := "tuple") (U := "int") (by decide) ⟨_, ho, rfl⟩ (fun s' => typeIs_int s' k t) noFill_tuple_mul F.fills_int_mul F.slot_int_rmul repeat_tuple F.slot_int_index.lookup
    (call_meets F.slot_int_rmul (typeIs_int s k t) F.entry_int_rmul (F.args_int_rmul_2 _ _) (int_rmul_tuple k t l its.toArray n dd sl)
      ⟨ho, rfl, ⟨_, ho, rfl⟩, call_meets F.slot_tuple_mul ⟨_, ho, rfl⟩ F.entry_tuple_mul (F.args_tuple_mul_2 _ _)
        (tuple_mulW l its.toArray n dd sl k t c0 c1 c2 (by omega) c4 (by rw [size_rep, List.size_toArray, PyProof.Rows.lm_len_rep_flat, hle]; exact fl _ hz)) ⟨ho, ?_⟩⟩)
  rw [size_rep]
  exact laid (k := s.toks) I (r.rep k.toNat) (by rw [PyProof.Rows.lm_len_rep_flat]; exact fl _ hz) q
end
end RT

set_option Elab.async false
set_option linter.all false
set_option maxRecDepth 100000
set_option maxHeartbeats 4000000
/-! Part B: what a value of the heap stands for; steps of the heap; the readings. -/
namespace Py
open PySem PySem.Spec PyProof.Rows L2

/-- what the proof knows of the module: the written part, where a class stands, where a def stands -/
structure Mo where
  K : PySem.W.Frag
  cl : Str → Addr
  fn : Nat → Addr
  cs : List Str

/-- the store's places; z: lists that are being made, which no value names yet -/
structure Rho where
  l : List Addr
  z : List Addr := []
instance : Membership Addr Rho := ⟨fun ρ a => a ∈ ρ.l ∨ a ∈ ρ.z⟩
def Rho.push (ρ : Rho) (p : Addr) : Rho := ⟨ρ.l ++ [p], ρ.z⟩
def TAt (M : Mo) (ρ : Rho) (H : Hp) (a : Addr) (vs : List V) : Prop := (a ∉ ρ ∧ ∃ o : Obj, H a = some (.frz o (.tup vs)) ∧ o.dict = none) ∨ ((∀ H' : Hp, SqT M.K H' a vs) ∧ ∃ o : Obj, M.K.lookup a = some o ∧ o.dict = none)
def LAt (ρ : Rho) (H : Hp) (a : Addr) (vs : List V) : Prop := a ∉ ρ ∧ H a = some (.lst vs)
/-- the script: read, never written -/
def CAt (M : Mo) (ρ : Rho) (H : Hp) (a : Addr) (vs : List V) : Prop := (a ∉ ρ ∧ ∃ o, H a = some (.frz o (.lst vs))) ∨ (∀ H' : Hp, SqL M.K H' a vs)
mutual
def Rep (M : Mo) (ρ : Rho) (H : Hp) : D → V → Prop
  | .non, v => v = .non
  | .bl b, v => v = .bl b
  | .int i, v => v = .int i
  | .str s, v => v = .str s
  | .tup ds, v => ∃ a vs, v = .ref a ∧ TAt M ρ H a vs ∧ Reps M ρ H ds vs
  | .lst ds, v => ∃ a vs, v = .ref a ∧ LAt ρ H a vs ∧ Reps M ρ H ds vs
  | .obj C ns ds, v => C ∈ M.cs ∧ ∃ a dx vs, v = .ref a ∧ a ∉ ρ ∧ H a = some (.ins (M.cl C) dx (ns.zip vs)) ∧ ns.length = vs.length ∧ Reps M ρ H ds vs
  | .loc n, v => ∃ a, ρ.l[n]? = some a ∧ v = .ref a
  | .fn f, v => v = .ref (M.fn f)
  | .scr ds, v => ∃ a vs, v = .ref a ∧ CAt M ρ H a vs ∧ Reps M ρ H ds vs
def Reps (M : Mo) (ρ : Rho) (H : Hp) : List D → List V → Prop
  | [], vs => vs = []
  | d :: ds, vs => ∃ v r, vs = v :: r ∧ Rep M ρ H d v ∧ Reps M ρ H ds r
end
def RepO (M : Mo) (ρ : Rho) (H : Hp) (a : Addr) : O → Prop
  | .lst ds => ∃ vs, H a = some (.lst vs) ∧ Reps M ρ H ds vs
  | .ins C ns ds => C ∈ M.cs ∧ ∃ dx vs, H a = some (.ins (M.cl C) dx (ns.zip vs)) ∧ ns.length = vs.length ∧ Reps M ρ H ds vs
  | .dT ks ds => ∃ vs, H a = some (.dT (ks.zip vs)) ∧ ks.length = vs.length ∧ Reps M ρ H ds vs
/-- the store -/
structure RepSt (M : Mo) (ρ : Rho) (H : Hp) (S : Sto) : Prop where
  nd : ρ.l.Nodup
  len : ρ.l.length = S.length
  at_ : ∀ (n : Nat) (a : Addr) (o : O), ρ.l[n]? = some a → S[n]? = some o → RepO M ρ H a o
  zs : ∀ b ∈ ρ.z, b ∉ ρ.l ∧ ∃ o, H b = some o
/-- the slots -/
structure RepE (M : Mo) (ρ : Rho) (H : Hp) (δ : Env) (σ : L2.St) : Prop where
  len : σ.length = δ.length
  at_ : ∀ (i : Nat) (d : D), δ[i]? = some (some d) → ∃ v, σ[i]? = some (some v) ∧ Rep M ρ H d v
/-- the heap goes on -/
structure Step (ρ : Rho) (H : Hp) (ρ' : Rho) (H' : Hp) : Prop where
  ext : ∃ ex, ρ'.l = ρ.l ++ ex ∧ ∀ b ∈ ex, H b = none ∧ b ∉ ρ
  z : ρ'.z = ρ.z
  keep : ∀ a o, H a = some o → a ∉ ρ.l → H' a = some o

theorem Step.refl {ρ : Rho} {H : Hp} : Step ρ H ρ H := ⟨⟨[], by simp, by simp⟩, rfl, fun _ _ h _ => h⟩
theorem Step.outl {ρ ρ' : Rho} {H H' : Hp} (s : Step ρ H ρ' H') {a : Addr} {o : HO} (h : a ∉ ρ.l) (e : H a = some o) : a ∉ ρ'.l := by
  obtain ⟨ex, e1, h1⟩ := s.ext
  rw [e1]; intro hm
  rcases List.mem_append.mp hm with q | q
  · exact h q
  · rw [(h1 a q).1] at e; cases e
theorem Step.out {ρ ρ' : Rho} {H H' : Hp} (s : Step ρ H ρ' H') {a : Addr} {o : HO} (h : a ∉ ρ) (e : H a = some o) : a ∉ ρ' := fun q => by
  rcases q with q | q
  · exact s.outl (fun z => h (.inl z)) e q
  · exact h (.inr (by rw [← s.z]; exact q))
theorem Step.keeps {ρ ρ' : Rho} {H H' : Hp} (s : Step ρ H ρ' H') {a : Addr} {o : HO} (e : H a = some o) (h : a ∉ ρ) : H' a = some o := s.keep a o e fun z => h (.inl z)
theorem Step.pre {ρ ρ' : Rho} {H H' : Hp} (s : Step ρ H ρ' H') {n : Nat} {a : Addr} (h : ρ.l[n]? = some a) : ρ'.l[n]? = some a := by
  obtain ⟨ex, e, _⟩ := s.ext
  rw [e, List.getElem?_append_left (List.getElem?_eq_some_iff.mp h).1]; exact h
theorem Step.trans {ρ ρ1 ρ2 : Rho} {H H1 H2 : Hp} (s : Step ρ H ρ1 H1) (t : Step ρ1 H1 ρ2 H2) : Step ρ H ρ2 H2 := by
  refine ⟨?_, t.z.trans s.z, fun a o h n => t.keep a o (s.keep a o h n) (s.outl n h)⟩
  obtain ⟨e1, q1, h1⟩ := s.ext
  obtain ⟨e2, q2, h2⟩ := t.ext
  refine ⟨e1 ++ e2, by rw [q2, q1, List.append_assoc], fun b hb => ?_⟩
  rcases List.mem_append.mp hb with q | q
  · exact h1 b q
  · obtain ⟨hn, hr⟩ := h2 b q
    have hm : b ∉ ρ := fun z => hr (by
      rcases z with z | z
      · exact .inl (by rw [q1]; exact List.mem_append_left _ z)
      · exact .inr (by rw [s.z]; exact z))
    refine ⟨?_, hm⟩
    cases e : H b with
    | none => rfl
    | some o =>
      have := s.keeps e hm
      rw [hn] at this; cases this
/-- the heap goes on, lists that are being made may come and change -/
structure Go (ρ : Rho) (H : Hp) (ρ' : Rho) (H' : Hp) : Prop where
  ext : ∃ ex, ρ'.l = ρ.l ++ ex ∧ ∀ b ∈ ex, H b = none ∧ b ∉ ρ
  z : ∃ ex, ρ'.z = ex ++ ρ.z ∧ ∀ b ∈ ex, H b = none ∧ b ∉ ρ
  keeps : ∀ {a : Addr} {o : HO}, H a = some o → a ∉ ρ → H' a = some o
theorem Step.go {ρ ρ' : Rho} {H H' : Hp} (s : Step ρ H ρ' H') : Go ρ H ρ' H' := ⟨s.ext, ⟨[], by rw [s.z]; rfl, by simp⟩, fun e h => s.keeps e h⟩
theorem Go.out {ρ ρ' : Rho} {H H' : Hp} (s : Go ρ H ρ' H') {a : Addr} {o : HO} (h : a ∉ ρ) (e : H a = some o) : a ∉ ρ' := fun q => by
  obtain ⟨ex, e1, h1⟩ := s.ext
  obtain ⟨ez, e2, h2⟩ := s.z
  rcases q with q | q
  · rw [e1] at q
    rcases List.mem_append.mp q with q | q
    · exact h (.inl q)
    · rw [(h1 a q).1] at e; cases e
  · rw [e2] at q
    rcases List.mem_append.mp q with q | q
    · rw [(h2 a q).1] at e; cases e
    · exact h (.inr q)
theorem Go.pre {ρ ρ' : Rho} {H H' : Hp} (s : Go ρ H ρ' H') {n : Nat} {a : Addr} (h : ρ.l[n]? = some a) : ρ'.l[n]? = some a := by
  obtain ⟨ex, e, _⟩ := s.ext
  rw [e, List.getElem?_append_left (List.getElem?_eq_some_iff.mp h).1]; exact h
theorem Go.trans {ρ ρ1 ρ2 : Rho} {H H1 H2 : Hp} (s : Go ρ H ρ1 H1) (t : Go ρ1 H1 ρ2 H2) : Go ρ H ρ2 H2 := by
  obtain ⟨e1, q1, h1⟩ := s.ext
  obtain ⟨e2, q2, h2⟩ := t.ext
  obtain ⟨z1, p1, g1⟩ := s.z
  obtain ⟨z2, p2, g2⟩ := t.z
  have back : ∀ b, H1 b = none ∧ b ∉ ρ1 → H b = none ∧ b ∉ ρ := fun b ⟨hn, hr⟩ => by
    have hm : b ∉ ρ := fun z => hr (by
      rcases z with z | z
      · exact .inl (by rw [q1]; exact List.mem_append_left _ z)
      · exact .inr (by rw [p1]; exact List.mem_append_right _ z))
    refine ⟨?_, hm⟩
    cases e : H b with
    | none => rfl
    | some o =>
      have := s.keeps e hm
      rw [hn] at this; cases this
  refine ⟨⟨e1 ++ e2, by rw [q2, q1, List.append_assoc], fun b hb => ?_⟩, ⟨z2 ++ z1, by rw [p2, p1, List.append_assoc], fun b hb => ?_⟩, fun e h => t.keeps (s.keeps e h) (s.out h e)⟩
  · rcases List.mem_append.mp hb with q | q
    · exact h1 b q
    · exact back b (h2 b q)
  · rcases List.mem_append.mp hb with q | q
    · exact back b (g2 b q)
    · exact g1 b q
section
variable {M : Mo} {ρ ρ' : Rho} {H H' : Hp}
theorem TAt.go {a : Addr} {vs : List V} (s : Go ρ H ρ' H') (h : TAt M ρ H a vs) : TAt M ρ' H' a vs := by
  rcases h with ⟨n, o, h, hd⟩ | h
  · exact .inl ⟨s.out n h, o, s.keeps h n, hd⟩
  · exact .inr h
theorem LAt.go {a : Addr} {vs : List V} (s : Go ρ H ρ' H') (h : LAt ρ H a vs) : LAt ρ' H' a vs := ⟨s.out h.1 h.2, s.keeps h.2 h.1⟩
theorem CAt.go {a : Addr} {vs : List V} (s : Go ρ H ρ' H') (h : CAt M ρ H a vs) : CAt M ρ' H' a vs := by
  rcases h with ⟨n, o, h⟩ | h
  · exact .inl ⟨s.out n h, o, s.keeps h n⟩
  · exact .inr h
theorem TAt.sq {a : Addr} {vs : List V} (h : TAt M ρ H a vs) : SqT M.K H a vs := by
  rcases h with ⟨_, o, h, _⟩ | h
  · exact .inl (.inr ⟨o, h⟩)
  · exact h.1 H
theorem LAt.sq {a : Addr} {vs : List V} (h : LAt ρ H a vs) : SqL M.K H a vs := .inl (.inl h.2)
theorem CAt.sq {a : Addr} {vs : List V} (h : CAt M ρ H a vs) : SqL M.K H a vs := by
  rcases h with ⟨_, o, h⟩ | h
  · exact .inl (.inr ⟨o, h⟩)
  · exact h H
mutual
theorem Rep.go (s : Go ρ H ρ' H') : ∀ (d : D) {v : V}, Rep M ρ H d v → Rep M ρ' H' d v
  | .non, _, h => by simpa only [Rep] using h
  | .bl b, _, h => by simpa only [Rep] using h
  | .int i, _, h => by simpa only [Rep] using h
  | .str x, _, h => by simpa only [Rep] using h
  | .tup ds, _, h => by
    rw [Rep] at h ⊢
    obtain ⟨a, vs, e, t, r⟩ := h
    exact ⟨a, vs, e, t.go s, Reps.go s ds r⟩
  | .lst ds, _, h => by
    rw [Rep] at h ⊢
    obtain ⟨a, vs, e, t, r⟩ := h
    exact ⟨a, vs, e, t.go s, Reps.go s ds r⟩
  | .obj C ns ds, _, h => by
    rw [Rep] at h ⊢
    obtain ⟨hc, a, dx, vs, e, n, t, l, r⟩ := h
    exact ⟨hc, a, dx, vs, e, s.out n t, s.keeps t n, l, Reps.go s ds r⟩
  | .loc n, _, h => by
    rw [Rep] at h ⊢
    obtain ⟨a, e, q⟩ := h
    exact ⟨a, s.pre e, q⟩
  | .fn f, _, h => by simpa only [Rep] using h
  | .scr ds, _, h => by
    rw [Rep] at h ⊢
    obtain ⟨a, vs, e, t, r⟩ := h
    exact ⟨a, vs, e, t.go s, Reps.go s ds r⟩
theorem Reps.go (s : Go ρ H ρ' H') : ∀ (ds : List D) {vs : List V}, Reps M ρ H ds vs → Reps M ρ' H' ds vs
  | [], _, h => by simpa only [Reps] using h
  | d :: ds, _, h => by
    rw [Reps] at h ⊢
    obtain ⟨v, r, e, h1, h2⟩ := h
    exact ⟨v, r, e, Rep.go s d h1, Reps.go s ds h2⟩
end
theorem Rep.step (s : Step ρ H ρ' H') (d : D) {v : V} (h : Rep M ρ H d v) : Rep M ρ' H' d v := Rep.go s.go d h
theorem Reps.step (s : Step ρ H ρ' H') (ds : List D) {vs : List V} (h : Reps M ρ H ds vs) : Reps M ρ' H' ds vs := Reps.go s.go ds h
theorem RepE.go {δ : Env} {σ : L2.St} (s : Go ρ H ρ' H') (h : RepE M ρ H δ σ) : RepE M ρ' H' δ σ :=
  ⟨h.len, fun i d e => let ⟨v, q, r⟩ := h.at_ i d e; ⟨v, q, r.go s d⟩⟩
theorem RepE.step {δ : Env} {σ : L2.St} (s : Step ρ H ρ' H') (h : RepE M ρ H δ σ) : RepE M ρ' H' δ σ := h.go s.go
theorem RepE.set {δ : Env} {σ : L2.St} (h : RepE M ρ H δ σ) {i : Nat} {d : D} {v : V} (r : Rep M ρ H d v) : RepE M ρ H (δ.set i (some d)) (σ.set i (some v)) := by
  refine ⟨by simp [h.len], fun j e q => ?_⟩
  by_cases hj : i = j
  · subst hj
    rw [List.getElem?_set] at q
    rw [if_pos rfl] at q
    split at q
    · rename_i hl
      have q' := Option.some.inj q
      cases q'
      exact ⟨v, by rw [List.getElem?_set, if_pos rfl, if_pos (by rw [h.len]; exact hl)], r⟩
    · cases q
  · rw [List.getElem?_set_ne hj] at q
    obtain ⟨u, q1, r1⟩ := h.at_ j e q
    exact ⟨u, by rw [List.getElem?_set_ne hj]; exact q1, r1⟩
theorem Reps.length : ∀ {ds : List D} {vs : List V}, Reps M ρ H ds vs → ds.length = vs.length
  | [], _, h => by rw [Reps] at h; subst h; rfl
  | d :: ds, _, h => by
    rw [Reps] at h
    obtain ⟨v, r, rfl, _, h2⟩ := h
    simp [Reps.length h2]
theorem Reps.get : ∀ {ds : List D} {vs : List V} {i : Nat} {d : D}, Reps M ρ H ds vs → ds[i]? = some d → ∃ v, vs[i]? = some v ∧ Rep M ρ H d v
  | [], _, _, _, _, e => by simp at e
  | d :: ds, _, 0, _, h, e => by
    rw [Reps] at h
    obtain ⟨v, r, rfl, h1, h2⟩ := h
    have e' : d = _ := Option.some.inj e
    subst e'
    exact ⟨v, rfl, h1⟩
  | d :: ds, _, i + 1, _, h, e => by
    rw [Reps] at h
    obtain ⟨v, r, rfl, h1, h2⟩ := h
    exact Reps.get (i := i) h2 (by simpa using e)
theorem Reps.get' : ∀ {ds : List D} {vs : List V} {i : Nat} {v : V}, Reps M ρ H ds vs → vs[i]? = some v → ∃ d, ds[i]? = some d ∧ Rep M ρ H d v
  | [], _, _, _, h, e => by rw [Reps] at h; subst h; simp at e
  | d :: ds, _, 0, _, h, e => by
    rw [Reps] at h
    obtain ⟨v, r, rfl, h1, h2⟩ := h
    have e' : v = _ := Option.some.inj e
    subst e'
    exact ⟨d, rfl, h1⟩
  | d :: ds, _, i + 1, _, h, e => by
    rw [Reps] at h
    obtain ⟨v, r, rfl, h1, h2⟩ := h
    exact Reps.get' (i := i) h2 (by simpa using e)
theorem Reps.append : ∀ {ds es : List D} {vs ws : List V}, Reps M ρ H ds vs → Reps M ρ H es ws → Reps M ρ H (ds ++ es) (vs ++ ws)
  | [], _, _, _, h, g => by rw [Reps] at h; subst h; exact g
  | d :: ds, _, _, _, h, g => by
    rw [Reps] at h
    obtain ⟨v, r, rfl, h1, h2⟩ := h
    rw [List.cons_append, List.cons_append, Reps]
    exact ⟨v, _, rfl, h1, Reps.append h2 g⟩
theorem Reps.take : ∀ {ds : List D} {vs : List V} (n : Nat), Reps M ρ H ds vs → Reps M ρ H (ds.take n) (vs.take n)
  | _, _, 0, _ => by simp [Reps]
  | [], _, n + 1, h => by rw [Reps] at h; subst h; simp [Reps]
  | d :: ds, _, n + 1, h => by
    rw [Reps] at h
    obtain ⟨v, r, rfl, h1, h2⟩ := h
    rw [List.take_succ_cons, List.take_succ_cons, Reps]
    exact ⟨v, _, rfl, h1, Reps.take n h2⟩
theorem Reps.drop : ∀ {ds : List D} {vs : List V} (n : Nat), Reps M ρ H ds vs → Reps M ρ H (ds.drop n) (vs.drop n)
  | _, _, 0, h => by simpa using h
  | [], _, n + 1, h => by rw [Reps] at h; subst h; simp [Reps]
  | d :: ds, _, n + 1, h => by
    rw [Reps] at h
    obtain ⟨v, r, rfl, h1, h2⟩ := h
    simpa using Reps.drop n h2
theorem Reps.one {d : D} {v : V} (h : Rep M ρ H d v) : Reps M ρ H [d] [v] := by
  rw [Reps]; exact ⟨v, [], rfl, h, by rw [Reps]⟩
theorem Reps.nil : Reps M ρ H [] [] := by rw [Reps]
theorem Reps.cons {d : D} {v : V} {ds : List D} {vs : List V} (h : Rep M ρ H d v) (t : Reps M ρ H ds vs) : Reps M ρ H (d :: ds) (v :: vs) := by
  rw [Reps]; exact ⟨v, vs, rfl, h, t⟩
theorem Reps.reverse : ∀ {ds : List D} {vs : List V}, Reps M ρ H ds vs → Reps M ρ H ds.reverse vs.reverse
  | [], _, h => by rw [Reps] at h; subst h; simp [Reps]
  | d :: ds, _, h => by
    rw [Reps] at h
    obtain ⟨v, r, rfl, h1, h2⟩ := h
    rw [List.reverse_cons, List.reverse_cons]
    exact (Reps.reverse h2).append (Reps.one h1)
theorem Reps.set : ∀ {ds : List D} {vs : List V} {d : D} {v : V} (i : Nat), Reps M ρ H ds vs → Rep M ρ H d v → Reps M ρ H (ds.set i d) (vs.set i v)
  | [], _, _, _, i, h, _ => by rw [Reps] at h; subst h; simp [Reps]
  | d :: ds, _, _, _, 0, h, g => by
    rw [Reps] at h
    obtain ⟨v, r, rfl, h1, h2⟩ := h
    exact Reps.cons g h2
  | d :: ds, _, _, _, i + 1, h, g => by
    rw [Reps] at h
    obtain ⟨v, r, rfl, h1, h2⟩ := h
    exact Reps.cons h1 (Reps.set i h2 g)

/-! ### the store's steps -/
theorem RepO.some {a : Addr} {o : O} (h : RepO M ρ H a o) : ∃ u, H a = some u := by
  cases o with
  | lst ds => obtain ⟨vs, e, _⟩ := h; exact ⟨_, e⟩
  | ins C ns ds => obtain ⟨_, dx, vs, e, _⟩ := h; exact ⟨_, e⟩
  | dT ks ds => obtain ⟨vs, e, _⟩ := h; exact ⟨_, e⟩
theorem RepSt.there {S : Sto} (h : RepSt M ρ H S) {a : Addr} (hm : a ∈ ρ) : ∃ u, H a = some u := by
  rcases hm with hm | hm
  · obtain ⟨n, hn, e⟩ := List.mem_iff_getElem.mp hm
    have h1 : ρ.l[n]? = some a := by rw [List.getElem?_eq_getElem hn, e]
    have h2 : n < S.length := by rw [← h.len]; exact hn
    exact (h.at_ n a S[n] h1 (by rw [List.getElem?_eq_getElem h2])).some
  · exact (h.zs a hm).2
theorem RepSt.fresh {S : Sto} (h : RepSt M ρ H S) {p : Addr} (hp : H p = none) : p ∉ ρ := fun hm => by
  obtain ⟨u, e⟩ := h.there hm
  rw [hp] at e; cases e
theorem RepO.keep {a : Addr} {o : O} (h : RepO M ρ H a o) (k : ∀ u, H a = Option.some u → H' a = Option.some u) (r : ∀ ds vs, Reps M ρ H ds vs → Reps M ρ' H' ds vs) : RepO M ρ' H' a o := by
  cases o with
  | lst ds => obtain ⟨vs, e, g⟩ := h; exact ⟨vs, k _ e, r _ _ g⟩
  | ins C ns ds => obtain ⟨hc, dx, vs, e, l, g⟩ := h; exact ⟨hc, dx, vs, k _ e, l, r _ _ g⟩
  | dT ks ds => obtain ⟨vs, e, l, g⟩ := h; exact ⟨vs, k _ e, l, r _ _ g⟩
/-- all that is tracked stays -/
theorem RepSt.ext {S : Sto} (h : RepSt M ρ H S) (k : ∀ a o, H a = some o → H' a = some o) : RepSt M ρ H' S ∧ Step ρ H ρ H' := by
  have s : Step ρ H ρ H' := ⟨⟨[], by simp, by simp⟩, rfl, fun a o e _ => k a o e⟩
  exact ⟨⟨h.nd, h.len, fun n a o e1 e2 => (h.at_ n a o e1 e2).keep (fun u q => k a u q) fun ds vs q => q.step s ds, fun b hb => let ⟨n, o, e⟩ := h.zs b hb; ⟨n, o, k b o e⟩⟩, s⟩
theorem upd_keeps {H : Hp} {p : Addr} {o : HO} (hp : H p = none) : ∀ a u, H a = some u → upd H p o a = some u := fun a u e => by
  rw [upd_ne (ne_of_none e hp)]; exact e
/-- a new object of the store -/
theorem RepSt.push {S : Sto} (h : RepSt M ρ H S) {p : Addr} {o : O} (k : ∀ a u, H a = some u → H' a = some u) (hp : H p = none) (ho : RepO M (ρ.push p) H' p o) : RepSt M (ρ.push p) H' (S ++ [o]) ∧ Step ρ H (ρ.push p) H' := by
  have nm := h.fresh hp
  have s : Step ρ H (ρ.push p) H' := ⟨⟨[p], rfl, fun b hb => by
    have e : b = p := by simpa using hb
    subst e; exact ⟨hp, nm⟩⟩, rfl, fun a u e _ => k a u e⟩
  refine ⟨⟨?_, by simp [Rho.push, h.len], fun n a u e1 e2 => ?_, fun b hb => ?_⟩, s⟩
  · show (ρ.l ++ [p]).Nodup
    rw [List.nodup_append]
    refine ⟨h.nd, by simp, fun a ha b hb e => nm (.inl (by have : b = p := by simpa using hb
                                                           rw [← this, ← e]; exact ha))⟩
  · have e1 : (ρ.l ++ [p])[n]? = some a := e1
    by_cases hn : n < ρ.l.length
    · rw [List.getElem?_append_left hn] at e1
      rw [List.getElem?_append_left (by rw [← h.len]; exact hn)] at e2
      exact (h.at_ n a u e1 e2).keep (fun w q => k a w q) fun ds vs q => q.step s ds
    · have hn' : ρ.l.length ≤ n := Nat.le_of_not_lt hn
      rw [List.getElem?_append_right hn'] at e1
      rw [List.getElem?_append_right (by rw [← h.len]; exact hn'), ← h.len] at e2
      have h0 : n - ρ.l.length = 0 := by
        have := (List.getElem?_eq_some_iff.mp e1).1
        simp at this; omega
      rw [h0] at e1 e2
      have e1' : p = a := by simpa using e1
      have e2' : o = u := by simpa using e2
      subst e1' e2'
      exact ho
  · obtain ⟨n1, o1, e1⟩ := h.zs b hb
    refine ⟨fun hm => ?_, o1, k b o1 e1⟩
    rcases List.mem_append.mp hm with q | q
    · exact n1 q
    · have : b = p := by simpa using q
      rw [this, hp] at e1; cases e1
/-- an object of the store is written -/
theorem RepSt.put {S : Sto} (h : RepSt M ρ H S) {n : Nat} {a : Addr} {o : O} {u : HO} (ha : ρ.l[n]? = some a) (ho : RepO M ρ (upd H a u) a o) : RepSt M ρ (upd H a u) (S.set n o) ∧ Step ρ H ρ (upd H a u) := by
  have hm : a ∈ ρ.l := List.mem_of_getElem? ha
  have s : Step ρ H ρ (upd H a u) := ⟨⟨[], by simp, by simp⟩, rfl, fun b w e q => by
    rw [upd_ne (fun z => q (by rw [z]; exact hm))]; exact e⟩
  refine ⟨⟨h.nd, by simp [h.len], fun m b w e1 e2 => ?_, fun b hb => ?_⟩, s⟩
  · by_cases hmn : n = m
    · subst hmn
      rw [ha] at e1; cases e1
      rw [List.getElem?_set, if_pos rfl] at e2
      split at e2
      · cases e2; exact ho
      · cases e2
    · rw [List.getElem?_set_ne hmn] at e2
      have hne : b ≠ a := fun z => by
        subst z
        exact hmn (nd_ix h.nd ha e1)
      exact (h.at_ m b w e1 e2).keep (fun x q => by rw [upd_ne hne]; exact q) fun ds vs q => q.step s ds
  · obtain ⟨n1, o1, e1⟩ := h.zs b hb
    exact ⟨n1, o1, by rw [upd_ne (fun z => n1 (by rw [z]; exact hm))]; exact e1⟩
/-! ### fewer places -/
mutual
theorem Rep.less (e : ∀ (n : Nat) (a : Addr), ρ.l[n]? = some a → ρ'.l[n]? = some a) (s : ∀ a, a ∈ ρ' → a ∈ ρ) : ∀ (d : D) {v : V}, Rep M ρ H d v → Rep M ρ' H d v
  | .non, _, h => by simpa only [Rep] using h
  | .bl b, _, h => by simpa only [Rep] using h
  | .int i, _, h => by simpa only [Rep] using h
  | .str x, _, h => by simpa only [Rep] using h
  | .tup ds, _, h => by
    rw [Rep] at h ⊢
    obtain ⟨a, vs, ev, t, r⟩ := h
    refine ⟨a, vs, ev, ?_, Reps.less e s ds r⟩
    rcases t with ⟨n, t⟩ | t
    · exact .inl ⟨fun q => n (s a q), t⟩
    · exact .inr t
  | .lst ds, _, h => by
    rw [Rep] at h ⊢
    obtain ⟨a, vs, ev, t, r⟩ := h
    exact ⟨a, vs, ev, ⟨fun q => t.1 (s a q), t.2⟩, Reps.less e s ds r⟩
  | .obj C ns ds, _, h => by
    rw [Rep] at h ⊢
    obtain ⟨hc, a, dx, vs, ev, n, t, l, r⟩ := h
    exact ⟨hc, a, dx, vs, ev, fun q => n (s a q), t, l, Reps.less e s ds r⟩
  | .loc n, _, h => by
    rw [Rep] at h ⊢
    obtain ⟨a, e1, q⟩ := h
    exact ⟨a, e n a e1, q⟩
  | .fn f, _, h => by simpa only [Rep] using h
  | .scr ds, _, h => by
    rw [Rep] at h ⊢
    obtain ⟨a, vs, ev, t, r⟩ := h
    refine ⟨a, vs, ev, ?_, Reps.less e s ds r⟩
    rcases t with ⟨n, t⟩ | t
    · exact .inl ⟨fun q => n (s a q), t⟩
    · exact .inr t
theorem Reps.less (e : ∀ (n : Nat) (a : Addr), ρ.l[n]? = some a → ρ'.l[n]? = some a) (s : ∀ a, a ∈ ρ' → a ∈ ρ) : ∀ (ds : List D) {vs : List V}, Reps M ρ H ds vs → Reps M ρ' H ds vs
  | [], _, h => by simpa only [Reps] using h
  | d :: ds, _, h => by
    rw [Reps] at h ⊢
    obtain ⟨v, r, ev, h1, h2⟩ := h
    exact ⟨v, r, ev, Rep.less e s d h1, Reps.less e s ds h2⟩
end
theorem RepSt.less {S : Sto} (e : ρ'.l = ρ.l) (s : ∀ a, a ∈ ρ'.z → a ∈ ρ.z) (h : RepSt M ρ H S) : RepSt M ρ' H S :=
  ⟨e ▸ h.nd, e ▸ h.len, fun n a o e1 e2 => (h.at_ n a o (e ▸ e1) e2).keep (fun u q => q) fun ds vs q => q.less (fun n a q => by rw [e]; exact q) (fun a q => q.elim (fun z => .inl (e ▸ z)) fun z => .inr (s a z)),
    fun b hb => let ⟨n, o⟩ := h.zs b (s b hb); ⟨e ▸ n, o⟩⟩
/-- a list that was being made joins the store -/
theorem RepSt.adopt {S : Sto} {l z : List Addr} {p : Addr} {o : O} (h : RepSt M ⟨l, p :: z⟩ H S) (hz : p ∉ z) (ho : RepO M ⟨l, p :: z⟩ H p o) : RepSt M ⟨l ++ [p], z⟩ H (S ++ [o]) := by
  have hp : p ∉ l := (h.zs p (List.mem_cons_self ..)).1
  have pre : ∀ (n : Nat) (a : Addr), l[n]? = some a → (l ++ [p])[n]? = some a := fun n a q => by rw [List.getElem?_append_left (List.getElem?_eq_some_iff.mp q).1]; exact q
  have sub : ∀ a, a ∈ (⟨l ++ [p], z⟩ : Rho) → a ∈ (⟨l, p :: z⟩ : Rho) := fun a q => by
    rcases q with q | q
    · rcases List.mem_append.mp q with q | q
      · exact .inl q
      · exact .inr (by rw [show a = p by simpa using q]; exact List.mem_cons_self ..)
    · exact .inr (List.mem_cons_of_mem _ q)
  have hl : l.length = S.length := h.len
  refine ⟨?_, by show (l ++ [p]).length = _; simp [hl], fun n a u e1 e2 => ?_, fun b hb => ?_⟩
  · show (l ++ [p]).Nodup
    rw [List.nodup_append]
    exact ⟨h.nd, by simp, fun a ha b hb e => hp (by have : b = p := by simpa using hb
                                                    rw [← this, ← e]; exact ha)⟩
  · have e1 : (l ++ [p])[n]? = some a := e1
    by_cases hn : n < l.length
    · rw [List.getElem?_append_left hn] at e1
      rw [List.getElem?_append_left (by rw [← hl]; exact hn)] at e2
      exact (h.at_ n a u e1 e2).keep (fun w q => q) fun ds vs q => q.less pre sub
    · have hn' : l.length ≤ n := Nat.le_of_not_lt hn
      rw [List.getElem?_append_right hn'] at e1
      rw [List.getElem?_append_right (by rw [← hl]; exact hn'), ← hl] at e2
      have h0 : n - l.length = 0 := by
        have := (List.getElem?_eq_some_iff.mp e1).1
        simp at this; omega
      rw [h0] at e1 e2
      have e1' : p = a := by simpa using e1
      have e2' : o = u := by simpa using e2
      subst e1' e2'
      exact ho.keep (fun w q => q) fun ds vs q => q.less pre sub
  · obtain ⟨n1, o1, e1⟩ := h.zs b (List.mem_cons_of_mem _ hb)
    refine ⟨fun hm => ?_, o1, e1⟩
    rcases List.mem_append.mp hm with q | q
    · exact n1 q
    · exact hz (by rw [← show b = p by simpa using q]; exact hb)
/-- more lists that are being made -/
theorem RepSt.more {S : Sto} {p : Addr} {u : HO} (h : RepSt M ρ H S) (hp : H p = none) : RepSt M ⟨ρ.l, p :: ρ.z⟩ (upd H p u) S ∧ Go ρ H ⟨ρ.l, p :: ρ.z⟩ (upd H p u) := by
  have nm := h.fresh hp
  have s : Go ρ H ⟨ρ.l, p :: ρ.z⟩ (upd H p u) := ⟨⟨[], by simp, by simp⟩, ⟨[p], rfl, fun b hb => by
    have e : b = p := by simpa using hb
    subst e; exact ⟨hp, nm⟩⟩, fun e _ => upd_keeps hp _ _ e⟩
  refine ⟨⟨h.nd, h.len, fun n a o e1 e2 => (h.at_ n a o e1 e2).keep (fun w q => upd_keeps hp _ _ q) fun ds vs q => q.go s ds, fun b hb => ?_⟩, s⟩
  rcases List.mem_cons.mp hb with e | q
  · subst e; exact ⟨fun z => nm (.inl z), u, upd_same⟩
  · obtain ⟨n, o, e⟩ := h.zs b q
    exact ⟨n, o, upd_keeps hp _ _ e⟩
/-- a list that is being made grows -/
theorem RepSt.grow {S : Sto} {p : Addr} {u : HO} (h : RepSt M ρ H S) (hp : p ∈ ρ.z) : RepSt M ρ (upd H p u) S ∧ Go ρ H ρ (upd H p u) := by
  have s : Go ρ H ρ (upd H p u) := ⟨⟨[], by simp, by simp⟩, ⟨[], by simp, by simp⟩, fun {a o} e n => by
    rw [upd_ne (fun z => n (by rw [z]; exact .inr hp))]; exact e⟩
  have hl := (h.zs p hp).1
  refine ⟨⟨h.nd, h.len, fun n a o e1 e2 => (h.at_ n a o e1 e2).keep (fun w q => by
    rw [upd_ne (fun z => hl (by rw [← z]; exact List.mem_of_getElem? e1))]; exact q) fun ds vs q => q.go s ds, fun b hb => ?_⟩, s⟩
  by_cases hbp : b = p
  · subst hbp; exact ⟨hl, u, upd_same⟩
  · obtain ⟨n, o, e⟩ := h.zs b hb
    exact ⟨n, o, by rw [upd_ne hbp]; exact e⟩
end
end Py

set_option Elab.async false
set_option linter.all false
set_option maxRecDepth 100000
set_option maxHeartbeats 4000000
/-! Part C: readings by outcomes; the rules of expressions. -/
namespace Py
open PySem PySem.Spec PyProof.Rows L2

def RepX (M : Mo) (ρ : Rho) (H : Hp) (e : Ex) (cls : Value) (dd : Option Addr) : Prop :=
  cls = .ref (M.cl e.c) ∧ ((e.ns = [] ∧ dd = none) ∨ ∃ d vs, dd = some d ∧ H d = some (.xd (e.ns.zip vs)) ∧ e.ns.length = vs.length ∧ Reps M ρ H e.ds vs)
/-- what is asked of an outcome -/
def Post (M : Mo) (W : WX) (σ : L2.St) (ρ : Rho) (H : Hp) {α β : Type} (RA : Rho → Hp → α → β → Prop) (Q : β → Hp → Prop) : R α → Prop
  | .ok a S' => ∀ ρ' H' x, Step ρ H ρ' H' → RepSt M ρ' H' S' → RA ρ' H' a x → Q x H'
  | .exc e S' => ∀ ρ' H' cls dd, Step ρ H ρ' H' → RepSt M ρ' H' S' → RepX M ρ' H' e cls dd → W cls dd σ H'
  | .stuck => False
section
variable {M : Mo} {W : WX} {σ : L2.St} {ρ ρ1 : Rho} {H H1 : Hp} {α β γ ε : Type}
theorem Post.step {RA : Rho → Hp → α → β → Prop} {Q : β → Hp → Prop} {r : R α} (h : Post M W σ ρ H RA Q r) (s : Step ρ H ρ1 H1) : Post M W σ ρ1 H1 RA Q r := by
  cases r with
  | ok a S => exact fun ρ' H' x t => h ρ' H' x (s.trans t)
  | exc e S => exact fun ρ' H' c d t => h ρ' H' c d (s.trans t)
  | stuck => exact h
theorem Post.bind {RA : Rho → Hp → α → β → Prop} {RB : Rho → Hp → γ → ε → Prop} {Q : ε → Hp → Prop} {Q1 : β → Hp → Prop} {r : R α} {k : α → Sto → R γ} (h : Post M W σ ρ H RB Q (r.bind k))
    (f : ∀ a S1, r = .ok a S1 → ∀ ρ1 H1 x, Step ρ H ρ1 H1 → RepSt M ρ1 H1 S1 → RA ρ1 H1 a x → Post M W σ ρ1 H1 RB Q (k a S1) → Q1 x H1) : Post M W σ ρ H RA Q1 r := by
  cases r with
  | ok a S => exact fun ρ1 H1 x s hS ha => f a S rfl ρ1 H1 x s hS ha (Post.step h s)
  | exc e S => exact h
  | stuck => exact h
/-- an outcome that is there -/
theorem Post.use {RA : Rho → Hp → α → β → Prop} {Q : β → Hp → Prop} {a : α} {S : Sto} {x : β} (h : Post M W σ ρ H RA Q (.ok a S)) (s : Step ρ H ρ1 H1) (hS : RepSt M ρ1 H1 S) (ha : RA ρ1 H1 a x) : Q x H1 := h _ _ _ s hS ha
theorem Post.lift {RA : Rho → Hp → α → β → Prop} {Q : β → Hp → Prop} {o : Option α} {S : Sto} (h : Post M W σ ρ H RA Q (R.lift o S)) : ∃ a, o = some a ∧ Post M W σ ρ H RA Q (.ok a S) := by
  cases o with
  | none => exact h.elim
  | some a => exact ⟨a, rfl, h⟩
end
def RBool (_ : Rho) (_ : Hp) (a : Bool) (b : Bool) : Prop := b = a
def rdE (M : Mo) (W : WX) (f : Env → Sto → R D) : TE := fun σ H Q => ∃ ρ δ S, RepSt M ρ H S ∧ RepE M ρ H δ σ ∧ Post M W σ ρ H (Rep M) Q (f δ S)
def rdT (M : Mo) (W : WX) (f : Env → Sto → R Bool) : TT := fun σ H Q => ∃ ρ δ S, RepSt M ρ H S ∧ RepE M ρ H δ σ ∧ Post M W σ ρ H RBool Q (f δ S)
def rdA (M : Mo) (W : WX) (f : Env → Sto → R (List D)) : TA := fun σ H Q => ∃ ρ δ S, RepSt M ρ H S ∧ RepE M ρ H δ σ ∧ Post M W σ ρ H (Reps M) Q (f δ S)
section
variable {X : Cx}
theorem PE.weak {e : Expr} {t t' : TE} (h : PE X e t) (w : ∀ σ H Q, t' σ H Q → t σ H Q) : PE X e t' := ⟨fun pins s σ H Q I q => h.run pins s σ H Q I (w σ H Q q)⟩
theorem PT.weak {e : Expr} {t t' : TT} (h : PT X e t) (w : ∀ σ H Q, t' σ H Q → t σ H Q) : PT X e t' := ⟨fun pins s σ H Q I q => h.run pins s σ H Q I (w σ H Q q)⟩
theorem PA.weak {e : List Expr} {t t' : TA} (h : PA X e t) (w : ∀ σ H Q, t' σ H Q → t σ H Q) : PA X e t' := ⟨fun pos pins s σ H Q I q => h.run pos pins s σ H Q I (w σ H Q q)⟩
theorem PS.weak {st : Stmt} {t t' : TS} (h : PS X st t) (w : ∀ D σ H, t' D σ H → t D σ H) : PS X st t' := ⟨fun pins s σ H D I q => h.run pins s σ H D I (w D σ H q)⟩
theorem PSs.weak {st : List Stmt} {t t' : TS} (h : PSs X st t) (w : ∀ D σ H, t' D σ H → t D σ H) : PSs X st t' := ⟨fun pins s σ H D I q => h.run pins s σ H D I (w D σ H q)⟩
end

/-! ### values made -/
section
variable {M : Mo} {ρ : Rho} {H : Hp} {S : Sto}
theorem rep_non : Rep M ρ H .non .non := by rw [Rep]
theorem rep_bl {b : Bool} : Rep M ρ H (.bl b) (.bl b) := by rw [Rep]
theorem rep_int {i : Int} : Rep M ρ H (.int i) (.int i) := by rw [Rep]
theorem rep_str {s : Str} : Rep M ρ H (.str s) (.str s) := by rw [Rep]
/-- a new tuple -/
theorem new_tup {ds : List D} {vs : List V} {p : Addr} (hS : RepSt M ρ H S) (r : Reps M ρ H ds vs) (hp : H p = none) :
    Step ρ H ρ (upd H p (.tup vs)) ∧ RepSt M ρ (upd H p (.tup vs)) S := by
  obtain ⟨h1, s⟩ := hS.ext (upd_keeps (o := .tup vs) hp)
  exact ⟨s, h1⟩
/-- a new tuple that is kept -/
theorem new_tupF {ds : List D} {vs : List V} {p : Addr} {o : Obj} (hS : RepSt M ρ H S) (r : Reps M ρ H ds vs) (hp : H p = none) (ho : o.dict = none) :
    Step ρ H ρ (upd H p (.frz o (.tup vs))) ∧ RepSt M ρ (upd H p (.frz o (.tup vs))) S ∧ Rep M ρ (upd H p (.frz o (.tup vs))) (.tup ds) (.ref p) := by
  obtain ⟨h1, s⟩ := hS.ext (upd_keeps (o := .frz o (.tup vs)) hp)
  refine ⟨s, h1, ?_⟩
  rw [Rep]
  exact ⟨p, vs, rfl, .inl ⟨hS.fresh hp, o, upd_same, ho⟩, r.step s ds⟩
/-- a new list that will not change -/
theorem new_lst {ds : List D} {vs : List V} {p : Addr} (hS : RepSt M ρ H S) (r : Reps M ρ H ds vs) (hp : H p = none) :
    Step ρ H ρ (upd H p (.lst vs)) ∧ RepSt M ρ (upd H p (.lst vs)) S ∧ Rep M ρ (upd H p (.lst vs)) (.lst ds) (.ref p) := by
  obtain ⟨h1, s⟩ := hS.ext (upd_keeps (o := .lst vs) hp)
  refine ⟨s, h1, ?_⟩
  rw [Rep]
  exact ⟨p, vs, rfl, ⟨hS.fresh hp, upd_same⟩, r.step s ds⟩
/-- a new list that may change -/
theorem new_own {ds : List D} {vs : List V} {p : Addr} (hS : RepSt M ρ H S) (r : Reps M ρ H ds vs) (hp : H p = none) :
    Step ρ H (ρ.push p) (upd H p (.lst vs)) ∧ RepSt M (ρ.push p) (upd H p (.lst vs)) (S ++ [.lst ds]) ∧ Rep M (ρ.push p) (upd H p (.lst vs)) (.loc S.length) (.ref p) := by
  have s : Step ρ H (ρ.push p) (upd H p (.lst vs)) := ⟨⟨[p], rfl, fun b hb => by
    have e : b = p := by simpa using hb
    subst e; exact ⟨hp, hS.fresh hp⟩⟩, rfl, fun a u e _ => upd_keeps hp a u e⟩
  obtain ⟨h1, _⟩ := hS.push (o := .lst ds) (upd_keeps (o := .lst vs) hp) hp ⟨vs, upd_same, r.step s ds⟩
  refine ⟨s, h1, ?_⟩
  rw [Rep]
  exact ⟨p, by show (ρ.l ++ [p])[S.length]? = some p; rw [← hS.len, List.getElem?_append_right (Nat.le_refl _)]; simp, rfl⟩
end
theorem le_line {n : Nat} (h : n ≤ 10000) : n ≤ sizeLine := Nat.le_trans h (by rw [sizeLine_eq]; decide)
theorem lt_line {n : Nat} (h : n < 10000) : n < sizeLine := Nat.lt_of_lt_of_le h (by rw [sizeLine_eq]; decide)

section
variable {M : Mo} {X : Cx} {W : WX} {a b c e : Expr} {es : List Expr} {pos : Pos} {fa fb fc : Env → Sto → R D} {fs : Env → Sto → R (List D)}
/-! ### names, constants -/
theorem sE_var {i : Nat} {x : Str} (hN : X.N[i]? = some x) (hv : Vis X.env.scope x) (hd : (x == ("__debug__" : Str)) = false) (hcd : (x == ("__classdict__" : Str)) = false) :
    PE X (.Name x pos) (rdE M W fun δ S => match δ[i]? with | some (some d) => .ok d S | _ => .stuck) := by
  refine PE.weak (pe_var hN hv hd hcd) fun σ H Q ⟨ρ, δ, S, hS, hE, hP⟩ => ?_
  dsimp only at hP
  cases e : δ[i]? with
  | none => rw [e] at hP; exact hP.elim
  | some o =>
    cases o with
    | none => rw [e] at hP; exact hP.elim
    | some d =>
      rw [e] at hP
      obtain ⟨v, e1, r⟩ := hE.at_ i d e
      exact ⟨v, e1, hP _ _ _ Step.refl hS r⟩
theorem sE_c {d : D} {v : V} (h : PE X e (tC v)) (r : ∀ ρ H, Rep M ρ H d v) : PE X e (rdE M W fun _ S => .ok d S) :=
  PE.weak h fun σ H Q ⟨ρ, δ, S, hS, hE, hP⟩ => hP _ _ _ Step.refl hS (r ρ H)
/-! ### arguments -/
theorem sA_nil : PA X [] (rdA M W fun _ S => .ok [] S) := PA.weak pa_nil fun σ H Q ⟨ρ, δ, S, hS, hE, hP⟩ => hP _ _ _ Step.refl hS (by rw [Reps])
theorem sA_cons (ha : PE X e (rdE M W fa)) (hr : PA X es (rdA M W fs)) (hs : starEach (e :: es) X.env = (false, eval e X.env) :: starEach es X.env) :
    PA X (e :: es) (rdA M W fun δ S => (fa δ S).bind fun d S => (fs δ S).bind fun ds S => .ok (d :: ds) S) :=
  PA.weak (pa_cons ha hr hs) fun σ H Q ⟨ρ, δ, S, hS, hE, hP⟩ => ⟨ρ, δ, S, hS, hE, hP.bind fun d S1 e1 ρ1 H1 x s1 hS1 r1 hP1 =>
    ⟨ρ1, δ, S1, hS1, hE.step s1, hP1.bind fun ds S2 e2 ρ2 H2 xs s2 hS2 r2 hP2 => hP2.use Step.refl hS2 (by rw [Reps]; exact ⟨x, xs, rfl, r1.step s2 d, r2⟩)⟩⟩
theorem sE_tup {k : Nat} (h : PA X es (rdA M W fs)) : PE X (.Tuple es k pos) (rdE M W fun δ S => (fs δ S).bind fun ds S => if ds.length ≤ 10000 then .ok (.tup ds) S else .stuck) :=
  PE.weak (RT.pe_tupF h) fun σ H Q ⟨ρ, δ, S, hS, hE, hP⟩ => ⟨ρ, δ, S, hS, hE, hP.bind fun ds S1 e1 ρ1 H1 xs s1 hS1 r1 hP1 => by
    by_cases hl : ds.length ≤ 10000
    · rw [if_pos hl] at hP1
      refine ⟨le_line (by rw [← r1.length]; exact hl), fun p o hp ho => ?_⟩
      obtain ⟨s2, hS2, r2⟩ := new_tupF hS1 r1 hp ho
      exact hP1.use s2 hS2 r2
    · rw [if_neg hl] at hP1; exact hP1.elim⟩
theorem post_newL {σ : L2.St} {ρ : Rho} {H : Hp} {S : Sto} {own : Bool} {ds : List D} {vs : List V} {Q : VK} (hS : RepSt M ρ H S) (r : Reps M ρ H ds vs) (hP : Post M W σ ρ H (Rep M) Q (newL own ds S)) :
    vs.length ≤ sizeLine ∧ ∀ p, H p = none → Q (.ref p) (upd H p (.lst vs)) := by
  unfold newL at hP
  by_cases hl : ds.length ≤ 10000
  · rw [if_pos hl] at hP
    refine ⟨le_line (by rw [← r.length]; exact hl), fun p hp => ?_⟩
    cases own with
    | true =>
      obtain ⟨s2, hS2, r2⟩ := new_own hS r hp
      exact hP.use s2 hS2 r2
    | false =>
      obtain ⟨s2, hS2, r2⟩ := new_lst hS r hp
      exact hP.use s2 hS2 r2
  · rw [if_neg hl] at hP; exact hP.elim
theorem sE_lst {own : Bool} (h : PA X es (rdA M W fs)) : PE X (.List es pos) (rdE M W fun δ S => (fs δ S).bind fun ds S => newL own ds S) :=
  PE.weak (pe_lst h) fun σ H Q ⟨ρ, δ, S, hS, hE, hP⟩ => ⟨ρ, δ, S, hS, hE, hP.bind fun ds S1 e1 ρ1 H1 xs s1 hS1 r1 hP1 => post_newL hS1 r1 hP1⟩
/-! ### operators -/
/-- a two-place operation that makes at most new things -/
def r2D (M : Mo) (g : Sto → D → D → Option D) : R2 := fun x y H Q => ∃ ρ S d1 d2 d, RepSt M ρ H S ∧ Rep M ρ H d1 x ∧ Rep M ρ H d2 y ∧ g S d1 d2 = some d ∧
  ∀ H' v, Step ρ H ρ H' → RepSt M ρ H' S → Rep M ρ H' d v → Q v H'
theorem r2_of {σ : L2.St} {ρ : Rho} {H : Hp} {S : Sto} {d1 d2 : D} {x y : V} {Q : VK} {g : Sto → D → D → Option D} (hS : RepSt M ρ H S) (r1 : Rep M ρ H d1 x) (r2 : Rep M ρ H d2 y) (hP : Post M W σ ρ H (Rep M) Q (R.lift (g S d1 d2) S)) : r2D M g x y H Q := by
  obtain ⟨d, e, hP⟩ := hP.lift
  exact ⟨ρ, S, d1, d2, d, hS, r1, r2, e, fun H' v s h r => hP.use s h r⟩
theorem bin_of {r : R2} {g : Sto → D → D → Option D} {σ : L2.St} {H : Hp} {Q : VK} (hr : ∀ x y H Q, r2D M g x y H Q → r x y H Q) (h : rdE M W (fun δ S => (fa δ S).bind fun x S => (fb δ S).bind fun y S => R.lift (g S x y) S) σ H Q) :
    tOp r (rdE M W fa) (rdE M W fb) σ H Q := by
  obtain ⟨ρ, δ, S, hS, hE, hP⟩ := h
  exact ⟨ρ, δ, S, hS, hE, hP.bind fun d1 S1 e1 ρ1 H1 x s1 hS1 r1 hP1 => ⟨ρ1, δ, S1, hS1, hE.step s1, hP1.bind fun d2 S2 e2 ρ2 H2 y s2 hS2 r2 hP2 => hr _ _ _ _ (r2_of hS2 (r1.step s2 d1) r2 hP2)⟩⟩
theorem sE_op {op : Operator} {r : R2} {g : Sto → D → D → Option D} (ho : OpR X (binaryOp op) r) (hr : ∀ x y H Q, r2D M g x y H Q → r x y H Q) (ha : PE X a (rdE M W fa)) (hb : PE X b (rdE M W fb)) :
    PE X (.BinOp a op b pos) (rdE M W fun δ S => (fa δ S).bind fun x S => (fb δ S).bind fun y S => R.lift (g S x y) S) :=
  PE.weak (pe_op ho ha hb) fun σ H Q h => bin_of hr h
end
end Py

set_option Elab.async false
set_option linter.all false
set_option maxRecDepth 100000
set_option maxHeartbeats 4000000
/-! Part D: the rules of operators, comparisons, tests, subscripts. -/
namespace Py
open PySem PySem.Spec PyProof.Rows L2
section
variable {M : Mo} {ρ : Rho} {H : Hp} {S : Sto}
/-! ### what a value is, by its data -/
theorem rep_int_inv {i : Int} {v : V} (h : Rep M ρ H (.int i) v) : v = .int i := by rwa [Rep] at h
theorem rep_bl_inv {i : Bool} {v : V} (h : Rep M ρ H (.bl i) v) : v = .bl i := by rwa [Rep] at h
theorem rep_str_inv {i : Str} {v : V} (h : Rep M ρ H (.str i) v) : v = .str i := by rwa [Rep] at h
theorem rep_non_inv {v : V} (h : Rep M ρ H .non v) : v = .non := by rwa [Rep] at h
theorem rep_ne_non {d : D} {v : V} (hd : d ≠ .non) (h : Rep M ρ H d v) : v ≠ .non := fun z => by
  subst z
  cases d with
  | non => exact hd rfl
  | bl b => rw [Rep] at h; cases h
  | int b => rw [Rep] at h; cases h
  | str b => rw [Rep] at h; cases h
  | tup ds => rw [Rep] at h; obtain ⟨_, _, z, _⟩ := h; cases z
  | lst ds => rw [Rep] at h; obtain ⟨_, _, z, _⟩ := h; cases z
  | obj C ns ds => rw [Rep] at h; obtain ⟨_, _, _, _, z, _⟩ := h; cases z
  | loc n => rw [Rep] at h; obtain ⟨_, _, z⟩ := h; cases z
  | fn f => rw [Rep] at h; cases h
  | scr ds => rw [Rep] at h; obtain ⟨_, _, z, _⟩ := h; cases z
theorem rep_tup_inv {ds : List D} {v : V} (h : Rep M ρ H (.tup ds) v) : ∃ a vs, v = .ref a ∧ TAt M ρ H a vs ∧ Reps M ρ H ds vs := by rwa [Rep] at h
theorem lst_of_at {n : Nat} {a : Addr} {ds : List D} (hS : RepSt M ρ H S) (e : ρ.l[n]? = some a) (h : lstAt S n = some ds) : ∃ vs, H a = some (.lst vs) ∧ Reps M ρ H ds vs := by
  unfold lstAt at h
  cases q : S[n]? with
  | none => rw [q] at h; cases h
  | some o =>
    rw [q] at h
    cases o with
    | lst xs =>
      have e2 : xs = ds := Option.some.inj h
      subst e2
      exact hS.at_ n a _ e q
    | ins _ _ _ => cases h
    | dT _ _ => cases h
/-- a list, in the store or not -/
theorem deref_lst {d : D} {v : V} {ds : List D} (hS : RepSt M ρ H S) (h : Rep M ρ H d v) (e : deref S d = .lst ds) : ∃ a vs, v = .ref a ∧ H a = some (.lst vs) ∧ Reps M ρ H ds vs := by
  cases d with
  | lst xs =>
    have e2 : xs = ds := D.lst.inj e
    subst e2
    rw [Rep] at h
    obtain ⟨a, vs, ev, l, r⟩ := h
    exact ⟨a, vs, ev, l.2, r⟩
  | loc n =>
    rw [Rep] at h
    obtain ⟨a, e1, ev⟩ := h
    unfold deref at e
    dsimp only at e
    cases q : lstAt S n with
    | none => rw [q] at e; cases e
    | some xs =>
      rw [q] at e
      have e2 : xs = ds := D.lst.inj e
      subst e2
      obtain ⟨vs, h1, r⟩ := lst_of_at hS e1 q
      exact ⟨a, vs, ev, h1, r⟩
  | _ => cases e
theorem deref_tup {d : D} {ds : List D} (e : deref S d = .tup ds) : d = .tup ds := by
  cases d with
  | loc n =>
    unfold deref at e
    dsimp only at e
    cases q : lstAt S n with
    | none => rw [q] at e; cases e
    | some xs => rw [q] at e; cases e
  | _ => exact e
theorem deref_int {d : D} {i : Int} (e : deref S d = .int i) : d = .int i := by
  cases d with
  | loc n =>
    unfold deref at e
    dsimp only at e
    cases q : lstAt S n with
    | none => rw [q] at e; cases e
    | some xs => rw [q] at e; cases e
  | _ => exact e
theorem deref_str {d : D} {i : Str} (e : deref S d = .str i) : d = .str i := by
  cases d with
  | loc n =>
    unfold deref at e
    dsimp only at e
    cases q : lstAt S n with
    | none => rw [q] at e; cases e
    | some xs => rw [q] at e; cases e
  | _ => exact e
/-- a list or tuple that is read -/
theorem seq_read {d : D} {v : V} {ds : List D} (hS : RepSt M ρ H S) (h : Rep M ρ H d v) (e : seqD S d = some ds) : ∃ a vs, v = .ref a ∧ (SqL M.K H a vs ∨ SqT M.K H a vs) ∧ Reps M ρ H ds vs := by
  cases d with
  | tup xs =>
    have e2 : xs = ds := Option.some.inj e
    subst e2
    obtain ⟨a, vs, ev, t, r⟩ := rep_tup_inv h
    exact ⟨a, vs, ev, .inr t.sq, r⟩
  | lst xs =>
    have e2 : xs = ds := Option.some.inj e
    subst e2
    rw [Rep] at h
    obtain ⟨a, vs, ev, l, r⟩ := h
    exact ⟨a, vs, ev, .inl l.sq, r⟩
  | loc n =>
    rw [Rep] at h
    obtain ⟨a, e1, ev⟩ := h
    obtain ⟨vs, h1, r⟩ := lst_of_at hS e1 e
    exact ⟨a, vs, ev, .inl (SqL.of h1), r⟩
  | scr xs =>
    have e2 : xs = ds := Option.some.inj e
    subst e2
    rw [Rep] at h
    obtain ⟨a, vs, ev, l, r⟩ := h
    exact ⟨a, vs, ev, .inl l.sq, r⟩
  | _ => cases e
mutual
theorem rep_dp : ∀ (d : D) {v : V} {p : PyData}, Rep M ρ H d v → d.py = some p → Dp M.K H v p
  | .non, _, _, h, e => by
    rw [D.py] at e; cases e; rw [rep_non_inv h]; exact .non
  | .bl b, _, _, h, e => by
    rw [D.py] at e; cases e; rw [rep_bl_inv h]; exact .bl b
  | .int i, _, _, h, e => by
    rw [D.py] at e; cases e; rw [rep_int_inv h]; exact .int i
  | .str x, _, _, h, e => by
    rw [D.py] at e; cases e; rw [rep_str_inv h]; exact .str x
  | .tup ds, _, _, h, e => by
    rw [D.py] at e
    obtain ⟨ps, e1, rfl⟩ := Option.map_eq_some_iff.mp e
    obtain ⟨a, vs, rfl, t, r⟩ := rep_tup_inv h
    exact .tup t.sq (reps_dp ds r e1)
  | .lst ds, _, _, h, e => by
    rw [D.py] at e
    obtain ⟨ps, e1, rfl⟩ := Option.map_eq_some_iff.mp e
    rw [Rep] at h
    obtain ⟨a, vs, rfl, t, r⟩ := h
    exact .lst t.sq (reps_dp ds r e1)
  | .obj _ _ _, _, _, _, e => by rw [D.py] at e; cases e
  | .loc _, _, _, _, e => by rw [D.py] at e; cases e
  | .fn _, _, _, _, e => by rw [D.py] at e; cases e
  | .scr _, _, _, _, e => by rw [D.py] at e; cases e
theorem reps_dp : ∀ (ds : List D) {vs : List V} {ps : List PyData}, Reps M ρ H ds vs → D.pys ds = some ps → DpAll M.K H vs ps
  | [], _, _, h, e => by
    rw [D.pys] at e; cases e; rw [Reps] at h; subst h; exact .nil
  | d :: ds, _, _, h, e => by
    rw [D.pys] at e
    rw [Reps] at h
    obtain ⟨v, r, rfl, h1, h2⟩ := h
    cases q1 : d.py with
    | none => rw [q1] at e; cases e
    | some x =>
      cases q2 : D.pys ds with
      | none => rw [q1, q2] at e; cases e
      | some xs =>
        rw [q1, q2] at e; cases e
        exact .cons (rep_dp d h1 q1) (reps_dp ds h2 q2)
end
theorem deref_dp {d : D} {v : V} {p : PyData} (hS : RepSt M ρ H S) (h : Rep M ρ H d v) (e : (deref S d).py = some p) : Dp M.K H v p := by
  cases d with
  | loc n =>
    cases q : lstAt S n with
    | none =>
      have e1 : deref S (.loc n) = .loc n := by unfold deref; dsimp only; rw [q]
      rw [e1, D.py] at e; cases e
    | some xs =>
      have e1 : deref S (.loc n) = .lst xs := by unfold deref; dsimp only; rw [q]
      rw [e1, D.py] at e
      obtain ⟨ps, e2, rfl⟩ := Option.map_eq_some_iff.mp e
      obtain ⟨a, vs, rfl, hl, r⟩ := deref_lst hS h e1
      exact .lst (SqL.of hl) (reps_dp xs r e2)
  | _ => exact rep_dp _ h e
end
section
variable {M : Mo} {X : Cx} {W : WX}
theorem OpR.weak {f : Value → Value → Sem Value} {r r' : R2} (h : OpR X f r) (w : ∀ x y H Q, r' x y H Q → r x y H Q) : OpR X f r' := fun pins s σ H x y v u Q I rx ry q => h pins s σ H x y v u Q I rx ry (w x y H Q q)
/-! ### arithmetic -/
theorem opD_add (hK : X.K = M.K) : OpR X (binaryOp .Add) (r2D M (binD .Add)) := by
  refine OpR.weak (OpR.or op_add (OpR.or op_add_str (OpR.or RT.op_catF op_cat))) fun x y H Q ⟨ρ, S, d1, d2, d, hS, r1, r2, e, q⟩ => ?_
  unfold binD at e
  dsimp only at e
  cases e1 : deref S d1 with
  | int i =>
    cases e2 : deref S d2 with
    | int j =>
      rw [e1, e2] at e; cases e
      have h1 := deref_int e1
      have h2 := deref_int e2
      subst h1 h2
      exact .inl ⟨i, j, rep_int_inv r1, rep_int_inv r2, q _ _ Step.refl hS rep_int⟩
    | _ => rw [e1, e2] at e; cases e
  | str i =>
    cases e2 : deref S d2 with
    | str j =>
      rw [e1, e2] at e
      dsimp only at e
      by_cases hl : i.length + j.length ≤ 10000
      · rw [if_pos hl] at e; cases e
        have h1 := deref_str e1
        have h2 := deref_str e2
        subst h1 h2
        exact .inr (.inl ⟨i, j, rep_str_inv r1, rep_str_inv r2, le_line hl, q _ _ Step.refl hS rep_str⟩)
      · rw [if_neg hl] at e; cases e
    | _ => rw [e1, e2] at e; cases e
  | tup as =>
    cases e2 : deref S d2 with
    | tup bs =>
      rw [e1, e2] at e
      dsimp only at e
      by_cases hl : as.length + bs.length ≤ 10000
      · rw [if_pos hl] at e; cases e
        have h1 := deref_tup e1
        have h2 := deref_tup e2
        subst h1 h2
        obtain ⟨a, vs, rfl, t1, g1⟩ := rep_tup_inv r1
        obtain ⟨b, ws, rfl, t2, g2⟩ := rep_tup_inv r2
        refine .inr (.inr (.inl ⟨a, b, vs, ws, rfl, rfl, hK ▸ t1.sq, hK ▸ t2.sq, le_line (by rw [← g1.length, ← g2.length]; exact hl), fun z => ?_, fun z1 z2 => ?_, fun z1 z2 p o hp ho => ?_⟩))
        · have ea : as = [] := List.length_eq_zero_iff.mp (by rw [g1.length, z]; rfl)
          subst ea
          exact q _ _ Step.refl hS (by rw [List.nil_append]; exact r2)
        · have eb : bs = [] := List.length_eq_zero_iff.mp (by rw [g2.length, z2]; rfl)
          subst eb
          exact q _ _ Step.refl hS (by rw [List.append_nil]; exact r1)
        · obtain ⟨s2, hS2, r2⟩ := new_tupF hS (g1.append g2) hp ho
          exact q _ _ s2 hS2 r2
      · rw [if_neg hl] at e; cases e
    | _ => rw [e1, e2] at e; cases e
  | lst as =>
    cases e2 : deref S d2 with
    | lst bs =>
      rw [e1, e2] at e
      dsimp only at e
      by_cases hl : as.length + bs.length ≤ 10000
      · rw [if_pos hl] at e; cases e
        obtain ⟨a, vs, rfl, t1, g1⟩ := deref_lst hS r1 e1
        obtain ⟨b, ws, rfl, t2, g2⟩ := deref_lst hS r2 e2
        refine .inr (.inr (.inr ⟨a, b, vs, ws, rfl, rfl, t1, t2, le_line (by rw [← g1.length, ← g2.length]; exact hl), fun p hp => ?_⟩))
        obtain ⟨s2, hS2, r2⟩ := new_lst hS (g1.append g2) hp
        exact q _ _ s2 hS2 r2
      · rw [if_neg hl] at e; cases e
    | _ => rw [e1, e2] at e; cases e
  | _ => rw [e1] at e; cases e
theorem opD_sub : OpR X (binaryOp .Sub) (r2D M (binD .Sub)) := by
  refine OpR.weak op_sub fun x y H Q ⟨ρ, S, d1, d2, d, hS, r1, r2, e, q⟩ => ?_
  unfold binD at e
  cases d1 <;> cases d2 <;> cases e
  exact ⟨_, _, rep_int_inv r1, rep_int_inv r2, q _ _ Step.refl hS rep_int⟩
theorem opD_mod : OpR X (binaryOp .Mod) (r2D M (binD .Mod)) := by
  refine OpR.weak op_mod fun x y H Q ⟨ρ, S, d1, d2, d, hS, r1, r2, e, q⟩ => ?_
  unfold binD at e
  cases d1 <;> cases d2 <;> try (cases e)
  rename_i i j
  dsimp only at e
  by_cases h0 : 0 < j
  · rw [if_pos h0] at e; cases e
    exact ⟨_, _, rep_int_inv r1, rep_int_inv r2, h0, q _ _ Step.refl hS rep_int⟩
  · rw [if_neg h0] at e; cases e
theorem op_fdivX : OpR X (binaryOp .FloorDiv) (rI (fun i j => j ≠ 0 ∧ j.natAbs.log2 < 9000) fun i j => .int (i.fdiv j)) := opI fun i j _ _ _ _ _ hc q => floordiv_int hc.1 q (.inl (PyProof.noPylong_of_log2 hc.2))
theorem opD_fdiv : OpR X (binaryOp .FloorDiv) (r2D M (binD .FloorDiv)) := by
  refine OpR.weak op_fdivX fun x y H Q ⟨ρ, S, d1, d2, d, hS, r1, r2, e, q⟩ => ?_
  unfold binD at e
  cases d1 <;> cases d2 <;> try (cases e)
  rename_i i j
  dsimp only at e
  cases h0 : divOk j with
  | true =>
    rw [h0, if_pos rfl] at e; cases e
    unfold divOk at h0
    rw [Bool.and_eq_true, decide_eq_true_eq, decide_eq_true_eq] at h0
    refine ⟨_, _, rep_int_inv r1, rep_int_inv r2, ⟨by omega, h0.2⟩, ?_⟩
    show Q (.int (i.fdiv j)) H
    rw [Int.fdiv_eq_ediv_of_nonneg i (show (0 : Int) ≤ j by omega)]
    exact q _ _ Step.refl hS rep_int
  | false =>
    rw [h0, if_neg (by decide)] at e
    cases h1 : ndivOk j with
    | true =>
      rw [h1, if_pos rfl] at e; cases e
      unfold ndivOk at h1
      rw [Bool.and_eq_true, decide_eq_true_eq, decide_eq_true_eq] at h1
      exact ⟨_, _, rep_int_inv r1, rep_int_inv r2, ⟨by omega, h1.2⟩, q _ _ Step.refl hS rep_int⟩
    | false => rw [h1] at e; cases e
theorem bits_le (x : Int) : Builtin.Int.intBits x ≤ x.natAbs.log2 + 1 := by
  unfold Builtin.Int.intBits
  split <;> omega
theorem op_mulX : OpR X (binaryOp .Mult) (rI (fun i j => mulOk i j = true) fun i j => .int (i * j)) := opI fun i j _ _ _ _ _ hc q => by
  unfold mulOk at hc
  rw [Bool.or_eq_true, Bool.or_eq_true, decide_eq_true_eq, decide_eq_true_eq, decide_eq_true_eq] at hc
  have b1 := bits_le i
  have b2 := bits_le j
  refine PyProof.Rows.mul_int q ?_
  rcases hc with (h | h) | h
  · exact IntMulOk.of_left (by omega)
  · have h' : ¬ (Builtin.Int.intBits j > shortFactorBits) := Nat.not_lt.mpr (show Builtin.Int.intBits j ≤ 64 by omega)
    unfold IntMulOk; rw [decide_eq_false h']; simp
  · exact CMulW.ok h
theorem opD_mul (hK : X.K = M.K) : OpR X (binaryOp .Mult) (r2D M (binD .Mult)) := by
  refine OpR.weak (OpR.or op_mulX (OpR.or RT.op_repF op_rep)) fun x y H Q ⟨ρ, S, d1, d2, d, hS, r1, r2, e, q⟩ => ?_
  unfold binD at e
  cases d1 <;> cases d2 <;> try (cases e)
  · rename_i i j
    dsimp only at e
    cases h0 : mulOk i j with
    | true =>
      rw [h0, if_pos rfl] at e; cases e
      exact .inl ⟨_, _, rep_int_inv r1, rep_int_inv r2, h0, q _ _ Step.refl hS rep_int⟩
    | false => rw [h0] at e; cases e
  · rename_i as k
    dsimp only at e
    by_cases h0 : as ≠ [] ∧ 2 ≤ k ∧ k ≤ 1000 ∧ as.length ≤ 1000
    · rw [if_pos h0] at e; cases e
      obtain ⟨a, vs, rfl, t1, g1⟩ := rep_tup_inv r1
      refine .inr (.inl ⟨a, k, vs, rfl, rep_int_inv r2, hK ▸ t1.sq, fun z => h0.1 (List.length_eq_zero_iff.mp (by rw [g1.length, z]; rfl)), h0.2.1, h0.2.2.1, by rw [← g1.length]; exact h0.2.2.2, fun p o hp ho => ?_⟩)
      have rr : ∀ n : Nat, Reps M ρ H (List.replicate n as).flatten (List.replicate n vs).flatten := by
        intro n
        induction n with
        | zero => simp [Reps]
        | succ n ih => rw [List.replicate_succ, List.replicate_succ, List.flatten_cons, List.flatten_cons]; exact g1.append ih
      obtain ⟨s2, hS2, r2⟩ := new_tupF hS (rr k.toNat) hp ho
      exact q _ _ s2 hS2 r2
    · rw [if_neg h0] at e; cases e
  · rename_i as k
    dsimp only at e
    by_cases h0 : 0 ≤ k ∧ k ≤ 1000 ∧ as.length ≤ 1000
    · rw [if_pos h0] at e; cases e
      rw [Rep] at r1
      obtain ⟨a, vs, rfl, l1, g1⟩ := r1
      have hvl : vs.length ≤ 1000 := by rw [← g1.length]; exact h0.2.2
      refine .inr (.inr ⟨a, k, vs, rfl, rep_int_inv r2, l1.2, by omega, by omega, ?_, fun p hp => ?_⟩)
      · have a1 : vs.length * k.toNat ≤ 1000 * 1000 := Nat.mul_le_mul hvl (by omega)
        rw [sizeLine_eq]
        omega
      have rr : ∀ n : Nat, Reps M ρ H (List.replicate n as).flatten (List.replicate n vs).flatten := by
        intro n
        induction n with
        | zero => simp [Reps]
        | succ n ih => rw [List.replicate_succ, List.replicate_succ, List.flatten_cons, List.flatten_cons]; exact g1.append ih
      obtain ⟨s2, hS2, r2⟩ := new_lst hS (rr k.toNat) hp
      exact q _ _ s2 hS2 r2
    · rw [if_neg h0] at e; cases e
theorem opD_pow : OpR X (binaryOp .Pow) (r2D M (binD .Pow)) := by
  refine OpR.weak op_pow fun x y H Q ⟨ρ, S, d1, d2, d, hS, r1, r2, e, q⟩ => ?_
  unfold binD at e
  cases d1 <;> cases d2 <;> try (cases e)
  rename_i i j
  dsimp only at e
  by_cases h0 : 0 ≤ j ∧ j ≤ 1000 ∧ i.natAbs < 2 ^ 64
  · rw [if_pos h0] at e; cases e
    exact ⟨_, _, rep_int_inv r1, rep_int_inv r2, (⟨h0.1, by omega, h0.2.2⟩ : CPow i j), q _ _ Step.refl hS rep_int⟩
  · rw [if_neg h0] at e; cases e
def opOk : Operator → Bool
  | .Add | .Sub | .Mult | .FloorDiv | .Mod | .Pow => true
  | _ => false
theorem opD (hK : X.K = M.K) {op : Operator} (h : opOk op = true) : OpR X (binaryOp op) (r2D M (binD op)) := by
  cases op <;> first
    | exact opD_add hK
    | exact opD_sub
    | exact opD_mul hK
    | exact opD_fdiv
    | exact opD_mod
    | exact opD_pow
    | cases h
/-! ### comparisons -/
def cmOf : Cm → CmpOp
  | .eq => .Eq | .ne => .NotEq | .lt => .Lt | .le => .LtE | .gt => .Gt | .ge => .GtE | .isN => .Is | .notN => .IsNot | .inS => .In | .notIn => .NotIn
def cmR (op : Cm) : Sto → D → D → Option D := fun S x y => (cmpD S op x y).map D.bl
theorem cm_eq {S : Sto} {d1 d2 d : D} {ρ : Rho} {H : Hp} {x y : V} (hS : RepSt M ρ H S) (r1 : Rep M ρ H d1 x) (r2 : Rep M ρ H d2 y) {b : Bool} (e : eqD S d1 d2 = some b) :
    ∃ p q, Dp M.K H x p ∧ Dp M.K H y q ∧ SeqAt.shaped p = true ∧ SeqAt.shaped q = true ∧ PyData.eqv p q = b := by
  unfold eqD at e
  cases e1 : (deref S d1).py with
  | none => rw [e1] at e; cases e
  | some p =>
    cases e2 : (deref S d2).py with
    | none => rw [e1, e2] at e; cases e
    | some q =>
      rw [e1, e2] at e
      dsimp only at e
      cases h : (SeqAt.shaped p && SeqAt.shaped q) with
      | false => rw [h] at e; cases e
      | true =>
        rw [h, if_pos rfl] at e
        rw [Bool.and_eq_true] at h
        exact ⟨p, q, deref_dp hS r1 e1, deref_dp hS r2 e2, h.1, h.2, Option.some.inj e⟩
def rInT (K : PySem.W.Frag) : R2 := fun x y H Q => ∃ d ds, Dp K H x d ∧ Dp K H y (.tuple ds) ∧ SeqAt.shaped d = true ∧ SeqAt.shaped (.tuple ds) = true ∧ Q (.bl (ds.any fun z => PyData.eqv z d)) H
def rNotInT (K : PySem.W.Frag) : R2 := fun x y H Q => ∃ d ds, Dp K H x d ∧ Dp K H y (.tuple ds) ∧ SeqAt.shaped d = true ∧ SeqAt.shaped (.tuple ds) = true ∧ Q (.bl (!ds.any fun z => PyData.eqv z d)) H
theorem op_inT (hu : X.A.units + 65 < cLine) : OpR X (compareOp .In) (rInT X.K) := by
  intro pins s σ H x y v u Q I rx ry h
  obtain ⟨d, ds, hd, he, sd, se, q⟩ := h
  obtain ⟨as, r1⟩ := Dp.reads I d x v hd rx
  obtain ⟨bs, r2⟩ := Dp.reads I (.tuple ds) y u he ry
  exact SeqAt.in_tuple_reads r2 r1 (SeqAt.canLay_of_shaped se) (SeqAt.canLay_of_shaped sd) (room_in_shaped sd hu) ⟨.bl _, H, I, rfl, q⟩
theorem op_notInT (hu : X.A.units + 65 < cLine) : OpR X (compareOp .NotIn) (rNotInT X.K) := by
  intro pins s σ H x y v u Q I rx ry h
  obtain ⟨d, ds, hd, he, sd, se, q⟩ := h
  obtain ⟨as, r1⟩ := Dp.reads I d x v hd rx
  obtain ⟨bs, r2⟩ := Dp.reads I (.tuple ds) y u he ry
  exact SeqAt.notIn_tuple_reads r2 r1 (SeqAt.canLay_of_shaped se) (SeqAt.canLay_of_shaped sd) (room_in_shaped sd hu) ⟨.bl _, H, I, rfl, q⟩
theorem py_str {d : D} {s : Str} (h : (deref S d).py = some (.str s)) : d = .str s := by
  cases e : deref S d with
  | str x => rw [e, D.py] at h; cases h; exact deref_str e
  | non => rw [e, D.py] at h; cases h
  | bl _ => rw [e, D.py] at h; cases h
  | int _ => rw [e, D.py] at h; cases h
  | tup ds => rw [e, D.py] at h; obtain ⟨_, _, z⟩ := Option.map_eq_some_iff.mp h; cases z
  | lst ds => rw [e, D.py] at h; obtain ⟨_, _, z⟩ := Option.map_eq_some_iff.mp h; cases z
  | obj _ _ _ => rw [e, D.py] at h; cases h
  | loc _ => rw [e, D.py] at h; cases h
  | fn _ => rw [e, D.py] at h; cases h
  | scr _ => rw [e, D.py] at h; cases h
theorem cm_in {S : Sto} {d1 d2 : D} {ρ : Rho} {H : Hp} {x y : V} (hS : RepSt M ρ H S) (r1 : Rep M ρ H d1 x) (r2 : Rep M ρ H d2 y) {b : Bool} (e : inD S d1 d2 = some b) :
    (∃ d ds, Dp M.K H x d ∧ Dp M.K H y (.list ds) ∧ SeqAt.shaped d = true ∧ SeqAt.shaped (.list ds) = true ∧ (ds.any fun z => PyData.eqv z d) = b) ∨
    (∃ d ds, Dp M.K H x d ∧ Dp M.K H y (.tuple ds) ∧ SeqAt.shaped d = true ∧ SeqAt.shaped (.tuple ds) = true ∧ (ds.any fun z => PyData.eqv z d) = b) ∨
    (∃ i j, x = .str i ∧ y = .str j ∧ (!(Builtin.Str.occurrences j i 0 j.length 1).isEmpty) = b) := by
  unfold inD at e
  cases e1 : (deref S d1).py with
  | none => rw [e1] at e; cases e
  | some p =>
    cases e2 : (deref S d2).py with
    | none => rw [e1, e2] at e; cases p <;> cases e
    | some q =>
      rw [e1, e2] at e
      have h1 := deref_dp hS r1 e1
      have h2 := deref_dp hS r2 e2
      cases q with
      | list ds =>
        left
        cases h : (SeqAt.shaped p && SeqAt.shaped (.list ds)) with
        | false => cases p <;> (dsimp only at e; rw [h] at e; cases e)
        | true =>
          have e' : some (ds.any fun y => PyData.eqv y p) = some b := by
            rw [← e]; cases p <;> (dsimp only; rw [h]; rfl)
          rw [Bool.and_eq_true] at h
          exact ⟨p, ds, h1, h2, h.1, h.2, Option.some.inj e'⟩
      | tuple ds =>
        right; left
        cases h : (SeqAt.shaped p && SeqAt.shaped (.tuple ds)) with
        | false => cases p <;> (dsimp only at e; rw [h] at e; cases e)
        | true =>
          have e' : some (ds.any fun y => PyData.eqv y p) = some b := by
            rw [← e]; cases p <;> (dsimp only; rw [h]; rfl)
          rw [Bool.and_eq_true] at h
          exact ⟨p, ds, h1, h2, h.1, h.2, Option.some.inj e'⟩
      | str j =>
        right; right
        cases p with
        | str i =>
          have z1 := py_str e1
          have z2 := py_str e2
          subst z1 z2
          exact ⟨i, j, rep_str_inv r1, rep_str_inv r2, Option.some.inj e⟩
        | _ => cases e
      | _ => cases p <;> cases e
theorem cmD (hK : X.K = M.K) (hu5 : X.A.units + 65 < cLine) {op : Cm} : OpR X (compareOp (cmOf op)) (r2D M (cmR op)) := by
  have hu : X.A.units + 64 < cLine := by omega
  cases op with
  | eq =>
    refine OpR.weak (op_eqD hu) fun x y H Q ⟨ρ, S, d1, d2, d, hS, r1, r2, e, q⟩ => ?_
    obtain ⟨b, e1, rfl⟩ := Option.map_eq_some_iff.mp e
    obtain ⟨p, p', h1, h2, h3, h4, rfl⟩ := cm_eq (d := .non) hS r1 r2 e1
    exact ⟨p, p', hK ▸ h1, hK ▸ h2, h3, h4, q _ _ Step.refl hS rep_bl⟩
  | ne =>
    refine OpR.weak (op_neD hu) fun x y H Q ⟨ρ, S, d1, d2, d, hS, r1, r2, e, q⟩ => ?_
    obtain ⟨b, e1, rfl⟩ := Option.map_eq_some_iff.mp e
    obtain ⟨b', e2, rfl⟩ := Option.map_eq_some_iff.mp e1
    obtain ⟨p, p', h1, h2, h3, h4, rfl⟩ := cm_eq (d := .non) hS r1 r2 e2
    exact ⟨p, p', hK ▸ h1, hK ▸ h2, h3, h4, q _ _ Step.refl hS rep_bl⟩
  | lt =>
    refine OpR.weak op_lt fun x y H Q ⟨ρ, S, d1, d2, d, hS, r1, r2, e, q⟩ => ?_
    unfold cmR cmpD at e
    cases d1 <;> cases d2 <;> cases e
    exact ⟨_, _, rep_int_inv r1, rep_int_inv r2, q _ _ Step.refl hS rep_bl⟩
  | le =>
    refine OpR.weak op_le fun x y H Q ⟨ρ, S, d1, d2, d, hS, r1, r2, e, q⟩ => ?_
    unfold cmR cmpD at e
    cases d1 <;> cases d2 <;> cases e
    exact ⟨_, _, rep_int_inv r1, rep_int_inv r2, q _ _ Step.refl hS rep_bl⟩
  | gt =>
    refine OpR.weak op_gt fun x y H Q ⟨ρ, S, d1, d2, d, hS, r1, r2, e, q⟩ => ?_
    unfold cmR cmpD at e
    cases d1 <;> cases d2 <;> cases e
    exact ⟨_, _, rep_int_inv r1, rep_int_inv r2, q _ _ Step.refl hS rep_bl⟩
  | ge =>
    refine OpR.weak op_ge fun x y H Q ⟨ρ, S, d1, d2, d, hS, r1, r2, e, q⟩ => ?_
    unfold cmR cmpD at e
    cases d1 <;> cases d2 <;> cases e
    exact ⟨_, _, rep_int_inv r1, rep_int_inv r2, q _ _ Step.refl hS rep_bl⟩
  | isN =>
    refine OpR.weak op_isN fun x y H Q ⟨ρ, S, d1, d2, d, hS, r1, r2, e, q⟩ => ?_
    unfold cmR cmpD at e
    cases d2 <;> try (cases d1 <;> cases e)
    · refine ⟨rep_non_inv r2, ?_⟩
      rw [rep_non_inv r1]
      exact q _ _ Step.refl hS rep_bl
    all_goals
      refine ⟨rep_non_inv r2, ?_⟩
      rw [decide_eq_false (rep_ne_non (fun z => by cases z) r1)]
      exact q _ _ Step.refl hS rep_bl
  | notN =>
    refine OpR.weak op_notN fun x y H Q ⟨ρ, S, d1, d2, d, hS, r1, r2, e, q⟩ => ?_
    unfold cmR cmpD at e
    cases d2 <;> try (cases d1 <;> cases e)
    · refine ⟨rep_non_inv r2, ?_⟩
      rw [rep_non_inv r1]
      exact q _ _ Step.refl hS rep_bl
    all_goals
      refine ⟨rep_non_inv r2, ?_⟩
      rw [decide_eq_false (rep_ne_non (fun z => by cases z) r1)]
      exact q _ _ Step.refl hS rep_bl
  | inS =>
    refine OpR.weak (OpR.or (op_inD hu5) (OpR.or (op_inT hu5) op_in_str)) fun x y H Q ⟨ρ, S, d1, d2, d, hS, r1, r2, e, q⟩ => ?_
    obtain ⟨b, e1, rfl⟩ := Option.map_eq_some_iff.mp e
    rcases cm_in hS r1 r2 e1 with ⟨p, p', h1, h2, h3, h4, rfl⟩ | ⟨p, p', h1, h2, h3, h4, rfl⟩ | ⟨i, j, h1, h2, rfl⟩
    · exact .inl ⟨p, p', hK ▸ h1, hK ▸ h2, h3, h4, q _ _ Step.refl hS rep_bl⟩
    · exact .inr (.inl ⟨p, p', hK ▸ h1, hK ▸ h2, h3, h4, q _ _ Step.refl hS rep_bl⟩)
    · exact .inr (.inr ⟨i, j, h1, h2, q _ _ Step.refl hS rep_bl⟩)
  | notIn =>
    refine OpR.weak (OpR.or (op_notInD hu5) (OpR.or (op_notInT hu5) op_notin_str)) fun x y H Q ⟨ρ, S, d1, d2, d, hS, r1, r2, e, q⟩ => ?_
    obtain ⟨b, e1, rfl⟩ := Option.map_eq_some_iff.mp e
    obtain ⟨b', e2, rfl⟩ := Option.map_eq_some_iff.mp e1
    rcases cm_in hS r1 r2 e2 with ⟨p, p', h1, h2, h3, h4, rfl⟩ | ⟨p, p', h1, h2, h3, h4, rfl⟩ | ⟨i, j, h1, h2, rfl⟩
    · exact .inl ⟨p, p', hK ▸ h1, hK ▸ h2, h3, h4, q _ _ Step.refl hS rep_bl⟩
    · exact .inr (.inl ⟨p, p', hK ▸ h1, hK ▸ h2, h3, h4, q _ _ Step.refl hS rep_bl⟩)
    · exact .inr (.inr ⟨i, j, h1, h2, q _ _ Step.refl hS rep_bl⟩)
end
end Py

set_option Elab.async false
set_option linter.all false
set_option maxRecDepth 100000
set_option maxHeartbeats 4000000
/-! Part E: unary, comparisons, tests, chains, and, or, if, subscripts, calls of defs. -/
namespace Py
open PySem PySem.Spec PyProof.Rows L2
section
variable {M : Mo} {X : Cx} {W : WX} {a b c e : Expr} {es : List Expr} {pos : Pos} {fa fb fc : Env → Sto → R D} {fs : Env → Sto → R (List D)} {ga gb : Env → Sto → R Bool}
/-! ### an outcome's truth -/
/-- a test out of a value -/
def tst (f : Env → Sto → R D) : Env → Sto → R Bool := fun δ S => (f δ S).bind fun d S => R.lift (truthD d) S
theorem rdE_ext {f g : Env → Sto → R D} (h : ∀ δ S, f δ S = g δ S) : rdE M W f = rdE M W g := by
  have : f = g := by funext δ S; exact h δ S
  rw [this]
theorem PE.ext {f g : Env → Sto → R D} (p : PE X e (rdE M W f)) (h : ∀ δ S, f δ S = g δ S) : PE X e (rdE M W g) := by
  rw [← rdE_ext h]; exact p
theorem PT.ext {f g : Env → Sto → R Bool} (p : PT X e (rdT M W f)) (h : ∀ δ S, f δ S = g δ S) : PT X e (rdT M W g) := by
  have : f = g := by funext δ S; exact h δ S
  rw [← this]; exact p
/-- a value's reading, where a bool is asked -/
theorem rd_bl {σ : L2.St} {H : Hp} {Q : Bool → Hp → Prop} {f : Env → Sto → R D} (h : rdT M W (tst f) σ H Q) : rdE M W f σ H fun x H' => ∃ k, x = .bl k ∧ Q k H' := by
  obtain ⟨ρ, δ, S, hS, hE, hP⟩ := h
  refine ⟨ρ, δ, S, hS, hE, hP.bind fun d S1 e1 ρ1 H1 x s1 hS1 r1 hP1 => ?_⟩
  obtain ⟨k, ek, hP1⟩ := hP1.lift
  cases d <;> cases ek
  exact ⟨k, rep_bl_inv r1, hP1.use Step.refl hS1 rfl⟩
theorem sT_val {f : Env → Sto → R D} (h : PE X e (rdE M W f)) (he : ∀ whole, isTrue e X.env whole = (do let v ← whole; standAt e.pos; holding [v] (truthy v))) : PT X e (rdT M W (tst f)) :=
  PT.weak (pt_val h he) fun σ H Q q => rd_bl q
/-! ### unary -/
theorem sE_neg (h : PE X a (rdE M W fa)) : PE X (.UnaryOp .USub a pos) (rdE M W fun δ S => (fa δ S).bind fun x S => R.lift (negD x) S) :=
  PE.weak (pe_un un_neg h) fun σ H Q ⟨ρ, δ, S, hS, hE, hP⟩ => ⟨ρ, δ, S, hS, hE, hP.bind fun d S1 e1 ρ1 H1 x s1 hS1 r1 hP1 => by
    obtain ⟨k, ek, hP1⟩ := hP1.lift
    cases d <;> cases ek
    exact ⟨_, rep_int_inv r1, hP1.use Step.refl hS1 rep_int⟩⟩
theorem sE_not (h : PE X a (rdE M W fa)) : PE X (.UnaryOp .Not a pos) (rdE M W fun δ S => (fa δ S).bind fun x S => R.lift ((truthD x).map fun b => .bl (!b)) S) :=
  PE.weak (pe_not h) fun σ H Q ⟨ρ, δ, S, hS, hE, hP⟩ => ⟨ρ, δ, S, hS, hE, hP.bind fun d S1 e1 ρ1 H1 x s1 hS1 r1 hP1 => by
    obtain ⟨k, ek, hP1⟩ := hP1.lift
    cases d <;> cases ek
    exact ⟨_, rep_bl_inv r1, hP1.use Step.refl hS1 rep_bl⟩⟩
theorem sT_not (h : PT X a (rdT M W ga)) : PT X (.UnaryOp .Not a pos) (rdT M W fun δ S => (ga δ S).bind fun x S => .ok (!x) S) :=
  PT.weak (pt_not h) fun σ H Q ⟨ρ, δ, S, hS, hE, hP⟩ => ⟨ρ, δ, S, hS, hE, hP.bind fun d S1 e1 ρ1 H1 x s1 hS1 r1 hP1 => by
    have ex : x = d := r1
    subst ex
    exact hP1.use Step.refl hS1 rfl⟩
/-! ### comparisons -/
theorem sE_cmp {op : Cm} {r : R2} {g : Sto → D → D → Option D} (ho : OpR X (compareOp (cmOf op)) (r2D M g)) (ha : PE X a (rdE M W fa)) (hb : PE X b (rdE M W fb)) (hm : behindInMarks (cmOf op) b = false) :
    PE X (.Compare a [cmOf op] [b] pos) (rdE M W fun δ S => (fa δ S).bind fun x S => (fb δ S).bind fun y S => R.lift (g S x y) S) :=
  PE.weak (pe_cmpR ho ha hb hm) fun σ H Q h => bin_of (fun _ _ _ _ q => q) h
theorem r2_bl {g : Sto → D → D → Option Bool} {x y : V} {H : Hp} {Q : Bool → Hp → Prop} {σ : L2.St} {ρ : Rho} {S : Sto} {d1 d2 : D} (hS : RepSt M ρ H S) (r1 : Rep M ρ H d1 x) (r2 : Rep M ρ H d2 y)
    (hP : Post M W σ ρ H RBool Q (R.lift (g S d1 d2) S)) : r2D M (fun S x y => (g S x y).map D.bl) x y H (fun v H' => ∃ k, v = .bl k ∧ Q k H') := by
  obtain ⟨k, ek, hP⟩ := hP.lift
  exact ⟨ρ, S, d1, d2, .bl k, hS, r1, r2, by dsimp only; rw [ek]; rfl, fun H' v s h r => ⟨k, rep_bl_inv r, hP.use s h rfl⟩⟩
theorem sT_cmp {op : Cm} {g : Sto → D → D → Option Bool} (ho : OpR X (compareOp (cmOf op)) (r2D M fun S x y => (g S x y).map D.bl)) (ha : PE X a (rdE M W fa)) (hb : PE X b (rdE M W fb)) (hm : behindInMarks (cmOf op) b = false) :
    PT X (.Compare a [cmOf op] [b] pos) (rdT M W fun δ S => (fa δ S).bind fun x S => (fb δ S).bind fun y S => R.lift (g S x y) S) :=
  PT.weak (pt_cmpR ho ha hb hm) fun σ H Q ⟨ρ, δ, S, hS, hE, hP⟩ => ⟨ρ, δ, S, hS, hE, hP.bind fun d1 S1 e1 ρ1 H1 x s1 hS1 r1 hP1 => ⟨ρ1, δ, S1, hS1, hE.step s1, hP1.bind fun d2 S2 e2 ρ2 H2 y s2 hS2 r2 hP2 =>
    r2_bl hS2 (r1.step s2 d1) r2 hP2⟩⟩
/-! ### chains -/
theorem chain_of {op op' : Cm} {g g' : Sto → D → D → Option Bool} {σ : L2.St} {H : Hp} {Q : VK}
    (h : rdE M W (fun δ S => (fa δ S).bind fun x S => (fb δ S).bind fun y S => (R.lift (g S x y) S).bind fun t S => if t then (fc δ S).bind fun z S => R.lift ((g' S y z).map D.bl) S else .ok (.bl false) S) σ H Q) :
    tChain (r2D M fun S x y => (g S x y).map D.bl) (r2D M fun S x y => (g' S x y).map D.bl) (rdE M W fa) (rdE M W fb) (rdE M W fc) σ H Q := by
  obtain ⟨ρ, δ, S, hS, hE, hP⟩ := h
  refine ⟨ρ, δ, S, hS, hE, hP.bind fun d1 S1 e1 ρ1 H1 x s1 hS1 r1 hP1 => ⟨ρ1, δ, S1, hS1, hE.step s1, hP1.bind fun d2 S2 e2 ρ2 H2 y s2 hS2 r2 hP2 => ?_⟩⟩
  cases ek : g S2 d1 d2 with
  | none => rw [ek] at hP2; exact hP2.elim
  | some k =>
    rw [ek, R.lift_some, R.bind_ok] at hP2
    refine ⟨ρ2, S2, d1, d2, .bl k, hS2, r1.step s2 d1, r2, by dsimp only; rw [ek]; rfl, fun H3 v s3 hS3 rv => ⟨k, rep_bl_inv rv, ?_⟩⟩
    cases k with
    | true =>
      rw [if_pos rfl] at hP2 ⊢
      refine ⟨ρ2, δ, S2, hS3, ((hE.step s1).step s2).step s3, (hP2.step s3).bind fun d3 S4 e4 ρ4 H4 z s4 hS4 r4 hP4 => ?_⟩
      exact r2_of hS4 ((r2.step s3 d2).step s4 d2) r4 hP4
    | false =>
      rw [if_neg Bool.false_ne_true] at hP2 ⊢
      exact hP2.use s3 hS3 rep_bl
theorem sE_cha {op op' : Cm} {g g' : Sto → D → D → Option Bool} (ho : OpR X (compareOp (cmOf op)) (r2D M fun S x y => (g S x y).map D.bl)) (ho' : OpR X (compareOp (cmOf op')) (r2D M fun S x y => (g' S x y).map D.bl))
    (ha : PE X a (rdE M W fa)) (hb : PE X b (rdE M W fb)) (hc : PE X c (rdE M W fc)) (hm : lastMarks [cmOf op, cmOf op'] [b, c] = false) :
    PE X (.Compare a [cmOf op, cmOf op'] [b, c] pos) (rdE M W fun δ S => (fa δ S).bind fun x S => (fb δ S).bind fun y S => (R.lift (g S x y) S).bind fun t S => if t then (fc δ S).bind fun z S => R.lift ((g' S y z).map D.bl) S else .ok (.bl false) S) :=
  PE.weak (pe_chain ho ho' ha hb hc hm) fun σ H Q h => chain_of (op := op) (op' := op') h
theorem sT_cha {op op' : Cm} {g g' : Sto → D → D → Option Bool} (ho : OpR X (compareOp (cmOf op)) (r2D M fun S x y => (g S x y).map D.bl)) (ho' : OpR X (compareOp (cmOf op')) (r2D M fun S x y => (g' S x y).map D.bl))
    (ha : PE X a (rdE M W fa)) (hb : PE X b (rdE M W fb)) (hc : PE X c (rdE M W fc)) (hm : lastMarks [cmOf op, cmOf op'] [b, c] = false) :
    PT X (.Compare a [cmOf op, cmOf op'] [b, c] pos) (rdT M W (tst fun δ S => (fa δ S).bind fun x S => (fb δ S).bind fun y S => (R.lift (g S x y) S).bind fun t S => if t then (fc δ S).bind fun z S => R.lift ((g' S y z).map D.bl) S else .ok (.bl false) S)) :=
  PT.weak (pt_chain ho ho' ha hb hc hm) fun σ H Q h => chain_of (op := op) (op' := op') (rd_bl h)
/-! ### and, or -/
theorem sE_and1 {op : PySem.BoolOp} (h : PE X a (rdE M W fa)) : PE X (.BoolOp op [a] pos) (rdE M W fa) := pe_one h
theorem sE_and {rest : List Expr} (ha : PE X a (rdE M W fa)) (hb : PE X (.BoolOp .And (b :: rest) pos) (rdE M W fb)) :
    PE X (.BoolOp .And (a :: b :: rest) pos) (rdE M W fun δ S => (fa δ S).bind fun x S => (R.lift (truthD x) S).bind fun t S => if t then (fb δ S).bind fun y S => R.lift ((truthD y).map D.bl) S else .ok (.bl false) S) :=
  PE.weak (pe_and ha hb) fun σ H Q ⟨ρ, δ, S, hS, hE, hP⟩ => ⟨ρ, δ, S, hS, hE, hP.bind fun d S1 e1 ρ1 H1 x s1 hS1 r1 hP1 => by
    cases d with
    | bl k =>
      refine ⟨k, rep_bl_inv r1, ?_⟩
      dsimp only [truthD, R.lift_some, R.bind_ok] at hP1
      cases k with
      | true =>
        rw [if_pos rfl] at hP1 ⊢
        refine ⟨ρ1, δ, S1, hS1, hE.step s1, hP1.bind fun d2 S2 e2 ρ2 H2 y s2 hS2 r2 hP2 => ?_⟩
        obtain ⟨z, ez, hP2⟩ := hP2.lift
        cases d2 <;> cases ez
        exact hP2.use Step.refl hS2 r2
      | false =>
        rw [if_neg Bool.false_ne_true] at hP1 ⊢
        exact hP1.use Step.refl hS1 rep_bl
    | _ => exact hP1.elim⟩
theorem sE_or {rest : List Expr} (ha : PE X a (rdE M W fa)) (hb : PE X (.BoolOp .Or (b :: rest) pos) (rdE M W fb)) :
    PE X (.BoolOp .Or (a :: b :: rest) pos) (rdE M W fun δ S => (fa δ S).bind fun x S => (R.lift (truthD x) S).bind fun t S => if t then .ok (.bl true) S else (fb δ S).bind fun y S => R.lift ((truthD y).map D.bl) S) :=
  PE.weak (pe_or ha hb) fun σ H Q ⟨ρ, δ, S, hS, hE, hP⟩ => ⟨ρ, δ, S, hS, hE, hP.bind fun d S1 e1 ρ1 H1 x s1 hS1 r1 hP1 => by
    cases d with
    | bl k =>
      refine ⟨k, rep_bl_inv r1, ?_⟩
      dsimp only [truthD, R.lift_some, R.bind_ok] at hP1
      cases k with
      | false =>
        rw [if_neg Bool.false_ne_true] at hP1 ⊢
        refine ⟨ρ1, δ, S1, hS1, hE.step s1, hP1.bind fun d2 S2 e2 ρ2 H2 y s2 hS2 r2 hP2 => ?_⟩
        obtain ⟨z, ez, hP2⟩ := hP2.lift
        cases d2 <;> cases ez
        exact hP2.use Step.refl hS2 r2
      | true =>
        rw [if_pos rfl] at hP1 ⊢
        exact hP1.use Step.refl hS1 rep_bl
    | _ => exact hP1.elim⟩
theorem sW_and1 {g : Env → Sto → R Bool} (h : PT X a (rdT M W g)) : PW X (.BoolOp .And [a] pos) (rdT M W g) := pw_and1 h
theorem sW_or1 {g : Env → Sto → R Bool} (h : PT X a (rdT M W g)) : PW X (.BoolOp .Or [a] pos) (rdT M W g) := pw_or1 h
theorem PW.weak {t t' : TT} (h : PW X e t) (w : ∀ σ H Q, t' σ H Q → t σ H Q) : PW X e t' := ⟨fun wh pins s σ H Q I q => h.run wh pins s σ H Q I (w σ H Q q)⟩
theorem sW_and {rest : List Expr} (ha : PT X a (rdT M W ga)) (hb : PW X (.BoolOp .And (b :: rest) pos) (rdT M W gb)) :
    PW X (.BoolOp .And (a :: b :: rest) pos) (rdT M W fun δ S => (ga δ S).bind fun t S => if t then gb δ S else .ok false S) :=
  PW.weak (pw_and ha hb) fun σ H Q ⟨ρ, δ, S, hS, hE, hP⟩ => ⟨ρ, δ, S, hS, hE, hP.bind fun d S1 e1 ρ1 H1 x s1 hS1 r1 hP1 => by
    have ex : x = d := r1
    subst ex
    cases x with
    | true =>
      rw [if_pos rfl] at hP1 ⊢
      exact ⟨ρ1, δ, S1, hS1, hE.step s1, hP1⟩
    | false =>
      rw [if_neg Bool.false_ne_true] at hP1 ⊢
      exact hP1.use Step.refl hS1 rfl⟩
theorem sW_or {rest : List Expr} (ha : PT X a (rdT M W ga)) (hb : PW X (.BoolOp .Or (b :: rest) pos) (rdT M W gb)) :
    PW X (.BoolOp .Or (a :: b :: rest) pos) (rdT M W fun δ S => (ga δ S).bind fun t S => if t then .ok true S else gb δ S) :=
  PW.weak (pw_or ha hb) fun σ H Q ⟨ρ, δ, S, hS, hE, hP⟩ => ⟨ρ, δ, S, hS, hE, hP.bind fun d S1 e1 ρ1 H1 x s1 hS1 r1 hP1 => by
    have ex : x = d := r1
    subst ex
    cases x with
    | false =>
      rw [if_neg Bool.false_ne_true] at hP1 ⊢
      exact ⟨ρ1, δ, S1, hS1, hE.step s1, hP1⟩
    | true =>
      rw [if_pos rfl] at hP1 ⊢
      exact hP1.use Step.refl hS1 rfl⟩
/-! ### a if c else b -/
theorem sE_ite (hc : PT X c (rdT M W ga)) (ha : PE X a (rdE M W fa)) (hb : PE X b (rdE M W fb)) : PE X (.IfExp c a b pos) (rdE M W fun δ S => (ga δ S).bind fun t S => if t then fa δ S else fb δ S) :=
  PE.weak (pe_ifExp hc ha hb) fun σ H Q ⟨ρ, δ, S, hS, hE, hP⟩ => ⟨ρ, δ, S, hS, hE, hP.bind fun d S1 e1 ρ1 H1 x s1 hS1 r1 hP1 => by
    have ex : x = d := r1
    subst ex
    cases x with
    | true =>
      rw [if_pos rfl] at hP1 ⊢
      exact ⟨ρ1, δ, S1, hS1, hE.step s1, hP1⟩
    | false =>
      rw [if_neg Bool.false_ne_true] at hP1 ⊢
      exact ⟨ρ1, δ, S1, hS1, hE.step s1, hP1⟩⟩
/-! ### subscripts -/
theorem IxR.weak {r r' : R2} (h : IxR X r) (w : ∀ x y H Q, r' x y H Q → r x y H Q) : IxR X r' := fun vl sl pins s σ H x y v u Q I rx ry q hs => h vl sl pins s σ H x y v u Q I rx ry (w x y H Q q) hs
theorem reps_atI {ρ : Rho} {H : Hp} {ds : List D} {vs : List V} {i : Int} {d : D} (r : Reps M ρ H ds vs) (h : L2.atI ds i = some d) : ∃ v, L2.atI vs i = some v ∧ Rep M ρ H d v := by
  unfold L2.atI at h ⊢
  rw [← r.length]
  cases e : L2.ixN ds.length i with
  | none => rw [e] at h; cases h
  | some j =>
    rw [e, Option.bind_some] at h
    exact r.get h
theorem ixD_ok (hK : X.K = M.K) : IxR X (r2D M fun S x y => ixD S x y) := by
  refine IxR.weak (ix_list.or ix_tup) fun x y H Q ⟨ρ, S, d1, d2, d, hS, r1, r2, e, q⟩ => ?_
  dsimp only at e
  unfold ixD at e
  cases e1 : seqD S d1 with
  | none => rw [e1] at e; cases e
  | some ds =>
    rw [e1] at e
    cases d2 <;> try (cases e)
    rename_i i
    obtain ⟨a, vs, rfl, hs, rr⟩ := seq_read hS r1 e1
    obtain ⟨v, hv, rv⟩ := reps_atI rr e
    rcases hs with hs | hs
    · exact .inl ⟨a, vs, i, v, rfl, rep_int_inv r2, hK ▸ hs, hv, q _ _ Step.refl hS rv⟩
    · exact .inr ⟨a, vs, i, v, rfl, rep_int_inv r2, hK ▸ hs, hv, q _ _ Step.refl hS rv⟩
theorem sE_ix (hK : X.K = M.K) (ha : PE X a (rdE M W fa)) (hb : PE X b (rdE M W fb)) (hs : PlainIx b) :
    PE X (.Subscript a b pos) (rdE M W fun δ S => (fa δ S).bind fun x S => (fb δ S).bind fun y S => R.lift (ixD S x y) S) :=
  PE.weak (pe_ix (ixD_ok hK) ha hb hs) fun σ H Q h => bin_of (fun _ _ _ _ q => q) h
/-! slices -/
def rdO (M : Mo) (W : WX) (f : Env → Sto → R D) : TO := fun σ H Q => ∃ ρ δ S, RepSt M ρ H S ∧ RepE M ρ H δ σ ∧
  Post M W σ ρ H (fun _ _ (d : D) (o : Option Int) => boundD d = some o) Q ((f δ S).bind fun d S => match boundD d with | some _ => .ok d S | none => .stuck)
theorem PO.weak {o : Option Expr} {t t' : TO} (h : PO X o t) (w : ∀ σ H Q, t' σ H Q → t σ H Q) : PO X o t' := ⟨fun pins s σ H Q I q => h.run pins s σ H Q I (w σ H Q q)⟩
theorem sO_none : PO X none (rdO M W fun _ S => .ok .non S) := PO.weak po_none fun σ H Q ⟨ρ, δ, S, hS, hE, hP⟩ => hP.use (a := D.non) Step.refl hS rfl
theorem sO_some (h : PE X a (rdE M W fa)) : PO X (some a) (rdO M W fun δ S => (fa δ S).bind fun d S => match d with | .int i => .ok (.int i) S | _ => .stuck) :=
  PO.weak (po_some h) fun σ H Q ⟨ρ, δ, S, hS, hE, hP⟩ => ⟨ρ, δ, S, hS, hE, by
    have e : ((fa δ S).bind fun d S => (match d with | .int i => R.ok (D.int i) S | _ => R.stuck)).bind (fun d S => match boundD d with | some _ => R.ok d S | none => R.stuck) = (fa δ S).bind fun d S => (match d with | .int i => R.ok (D.int i) S | _ => R.stuck) := by
      cases fa δ S with
      | ok d S => cases d <;> rfl
      | exc _ _ => rfl
      | stuck => rfl
    rw [e] at hP
    exact hP.bind fun d S1 e1 ρ1 H1 x s1 hS1 r1 hP1 => by
      cases d with
      | int i => exact ⟨i, rep_int_inv r1, hP1.use Step.refl hS1 rfl⟩
      | _ => exact hP1.elim⟩
theorem SlR.weak {r r' : V → Option Int → Option Int → Hp → VK → Prop} (h : SlR X r) (w : ∀ x l u H Q, r' x l u H Q → r x l u H Q) : SlR X r' := fun pins s σ H x v vl vu lo hi sl Q I rx hs pl pu q => h pins s σ H x v vl vu lo hi sl Q I rx hs pl pu (w _ _ _ _ _ q)
theorem cutD_reps {ρ : Rho} {H : Hp} {ds : List D} {vs : List V} (r : Reps M ρ H ds vs) (l h : Option Int) : Reps M ρ H (cutD ds l h) (cutV vs l h) := by
  unfold cutD cutV
  rw [← r.length]
  exact (r.drop _).take _
def rSlD (M : Mo) : V → Option Int → Option Int → Hp → VK → Prop := fun x l u H Q => ∃ ρ S d d', RepSt M ρ H S ∧ Rep M ρ H d x ∧ (match deref S d with | .tup ds => some (D.tup (cutD ds l u)) | .lst ds => some (D.lst (cutD ds l u)) | _ => none) = some d' ∧
  ∀ H' v, Step ρ H ρ H' → RepSt M ρ H' S → Rep M ρ H' d' v → Q v H'
theorem slD_ok (hK : X.K = M.K) : SlR X (rSlD M) := by
  refine SlR.weak (RT.sl_tupF.or sl_list) fun x l u H Q ⟨ρ, S, d, d', hS, r, e, q⟩ => ?_
  cases e1 : deref S d with
  | tup ds =>
    rw [e1] at e
    cases e
    have h1 := deref_tup e1
    subst h1
    obtain ⟨a, vs, rfl, t, rr⟩ := rep_tup_inv r
    refine .inl ⟨a, vs, rfl, hK ▸ t.sq, fun ⟨z1, z2⟩ => ?_, fun _ p o hp ho => ?_⟩
    · have ec : cutD ds l u = ds := by
        unfold cutD
        rw [rr.length, z1, z2, List.drop_zero, Nat.sub_zero, ← rr.length, List.take_length]
      exact q _ _ Step.refl hS (by rw [ec]; exact r)
    · obtain ⟨s2, hS2, r2⟩ := new_tupF hS (cutD_reps rr l u) hp ho
      exact q _ _ s2 hS2 r2
  | lst ds =>
    rw [e1] at e
    cases e
    obtain ⟨a, vs, rfl, t, rr⟩ := deref_lst hS r e1
    refine .inr ⟨a, vs, rfl, SqL.of t, fun p hp => ?_⟩
    obtain ⟨s2, hS2, r2⟩ := new_lst hS (cutD_reps rr l u) hp
    exact q _ _ s2 hS2 r2
  | _ => rw [e1] at e; cases e
theorem sE_sl {lo hi : Option Expr} {p2 : Pos} {fl fh : Env → Sto → R D} (hK : X.K = M.K) (ha : PE X a (rdE M W fa)) (hl : PO X lo (rdO M W fl)) (hh : PO X hi (rdO M W fh)) :
    PE X (.Subscript a (.Slice lo hi none p2) pos) (rdE M W fun δ S => (fa δ S).bind fun x S => ((fl δ S).bind fun d S => match boundD d with | some _ => R.ok d S | none => R.stuck).bind fun l S =>
      ((fh δ S).bind fun d S => match boundD d with | some _ => R.ok d S | none => R.stuck).bind fun h S => R.lift (slD S x l h) S) :=
  PE.weak (pe_slice (slD_ok hK) ha hl hh) fun σ H Q ⟨ρ, δ, S, hS, hE, hP⟩ => ⟨ρ, δ, S, hS, hE, hP.bind fun d S1 e1 ρ1 H1 x s1 hS1 r1 hP1 => ⟨ρ1, δ, S1, hS1, hE.step s1,
    hP1.bind fun l S2 e2 ρ2 H2 lo s2 hS2 r2 hP2 => ⟨ρ2, δ, S2, hS2, (hE.step s1).step s2, hP2.bind fun h S3 e3 ρ3 H3 hi s3 hS3 r3 hP3 => by
      obtain ⟨d', e', hP3⟩ := hP3.lift
      unfold slD at e'
      rw [r2, r3] at e'
      exact ⟨ρ3, S3, d, d', hS3, (r1.step s2 d).step s3 d, e', fun H' v s h r => hP3.use s h r⟩⟩⟩⟩
/-! ### calls of defs -/
/-- a def's promise by its meaning: n parameters -/
def spD (M : Mo) (φ : List D → Sto → R D) (n : Nat) : Sp := fun vs H Q E => vs.length = n ∧ ∃ ρ S ds, RepSt M ρ H S ∧ Reps M ρ H ds vs ∧ Post M (fun cls d _ H' => E cls d H') [] ρ H (Rep M) Q (φ ds S)
theorem post_call {σ : L2.St} {ρ : Rho} {H : Hp} {Q : VK} {r : R D} (h : Post M W σ ρ H (Rep M) Q r) : Post M (fun cls d _ H' => WE W σ cls d H') [] ρ H (Rep M) Q r := by
  cases r with
  | ok a S => exact h
  | exc e S => exact h
  | stuck => exact h
structure DefAt (M : Mo) (X : Cx) (k : Nat) (x : Str) (f : Addr) (φ : List D → Sto → R D) (n : Nat) : Prop where
  gl : X.mg x = some (.ref f)
  kp : PySem.W.keepIn X.K (.ref f) = true
  ok : ∃ fd ps, ps.length = n ∧ Binds X.K fd ps [] ∧ FnOk X.prog X.w X.K X.mg X.base (L2.CX X.prog X.w) k f fd ps (spD M φ n)
theorem reps_len {ρ : Rho} {H : Hp} {ds : List D} {vs : List V} {n : Nat} (r : Reps M ρ H ds vs) (h : ds.length = n) : vs.length = n := by rw [← r.length]; exact h
theorem sE_call {x : Str} {f : Addr} {φ : List D → Sto → R D} {n k : Nat} {p : Pos} (hT : DefAt M X k x f φ n) (hr : Room k X.A) (hg : Gl X x) (tk : Takes X W) (ha : PA X (e :: es) (rdA M W fs)) (hdb : (x == ("__debug__" : Str)) = false)
    (he : starEach (e :: es) X.env = (false, eval e X.env) :: starEach es X.env) (hpl : (backTo pos (starEach es X.env)).any (·.1) = false) :
    PE X (.Call (.Name x p) (e :: es) [] pos) (rdE M W fun δ S => (fs δ S).bind fun ds S => if ds.length = n then φ ds S else .stuck) := by
  obtain ⟨fd, ps, hn, hb, F⟩ := hT.ok
  refine PE.weak (pe_callS F hr hg hT.gl hT.kp hb (fun σ => passAt tk σ) ha hdb he hpl) fun σ H Q ⟨ρ, δ, S, hS, hE, hP⟩ => ⟨ρ, δ, S, hS, hE, hP.bind fun ds S1 e1 ρ1 H1 vs s1 hS1 r1 hP1 => ?_⟩
  by_cases hl : ds.length = n
  · rw [if_pos hl] at hP1
    exact ⟨reps_len r1 hl, ρ1, S1, ds, hS1, r1, post_call hP1⟩
  · rw [if_neg hl] at hP1; exact hP1.elim
end
end Py

set_option Elab.async false
set_option linter.all false
set_option maxRecDepth 100000
set_option maxHeartbeats 4000000
/-! Part F: statements. -/
namespace Py
open PySem PySem.Spec PyProof.Rows L2
def PostS (M : Mo) (W : WX) (ρ : Rho) (H : Hp) (D : Ends) : Out → Prop
  | .nxt δ' S' => ∀ ρ' H' σ', Step ρ H ρ' H' → RepSt M ρ' H' S' → RepE M ρ' H' δ' σ' → D.nx σ' H'
  | .ret d S' => ∀ ρ' H' v, Step ρ H ρ' H' → RepSt M ρ' H' S' → Rep M ρ' H' d v → D.rt v H'
  | .exc e δ' S' => ∀ ρ' H' σ' cls dd, Step ρ H ρ' H' → RepSt M ρ' H' S' → RepE M ρ' H' δ' σ' → RepX M ρ' H' e cls dd → W cls dd σ' H'
  | .stuck => False
def rdS (M : Mo) (W : WX) (f : Env → Sto → Out) : TS := fun D σ H => ∃ ρ δ S, RepSt M ρ H S ∧ RepE M ρ H δ σ ∧ PostS M W ρ H D (f δ S)
section
variable {M : Mo} {W : WX} {σ : L2.St} {ρ ρ1 : Rho} {H H1 : Hp} {D : Ends} {α β : Type}
theorem PostS.step {o : Out} (h : PostS M W ρ H D o) (s : Step ρ H ρ1 H1) : PostS M W ρ1 H1 D o := by
  cases o with
  | nxt δ S => exact fun ρ' H' σ' t => h ρ' H' σ' (s.trans t)
  | ret d S => exact fun ρ' H' x t => h ρ' H' x (s.trans t)
  | exc e δ S => exact fun ρ' H' σ' c d t => h ρ' H' σ' c d (s.trans t)
  | stuck => exact h
theorem PostS.of {δ : Env} {RA : Rho → Hp → α → β → Prop} {Q : β → Hp → Prop} {r : R α} {k : α → Sto → Out} (h : PostS M W ρ H D (Out.of δ r k)) (hE : RepE M ρ H δ σ)
    (f : ∀ a S1, r = .ok a S1 → ∀ ρ1 H1 x, Step ρ H ρ1 H1 → RepSt M ρ1 H1 S1 → RA ρ1 H1 a x → PostS M W ρ1 H1 D (k a S1) → Q x H1) : Post M W σ ρ H RA Q r := by
  cases r with
  | ok a S => exact fun ρ1 H1 x s hS ha => f a S rfl ρ1 H1 x s hS ha (PostS.step h s)
  | exc e S => exact fun ρ1 H1 c d s hS hx => h ρ1 H1 σ c d s hS (hE.step s) hx
  | stuck => exact h
end
section
variable {M : Mo} {X : Cx} {W : WX} {e : Expr} {es : List Expr} {pos : Pos} {fa fb fc : Env → Sto → R D} {fs : Env → Sto → R (List D)} {ga gb : Env → Sto → R Bool} {g g' : Env → Sto → Out} {st : Stmt} {rest : List Stmt}
theorem sS_nil : PSs X [] (rdS M W fun δ S => .nxt δ S) := PSs.weak pss_nil fun D σ H ⟨ρ, δ, S, hS, hE, hP⟩ => hP _ _ _ Step.refl hS hE
theorem sS_cons (h1 : PS X st (rdS M W g)) (h2 : PSs X rest (rdS M W g')) : PSs X (st :: rest) (rdS M W fun δ S => (g δ S).bind fun δ S => g' δ S) :=
  PSs.weak (pss_cons h1 h2) fun D σ H ⟨ρ, δ, S, hS, hE, hP⟩ => ⟨ρ, δ, S, hS, hE, by
    dsimp only at hP
    cases e : g δ S with
    | nxt δ1 S1 =>
      rw [e] at hP
      exact fun ρ1 H1 σ1 s1 hS1 hE1 => ⟨ρ1, δ1, S1, hS1, hE1, hP.step s1⟩
    | ret d S1 => rw [e] at hP; exact hP
    | exc x δ1 S1 => rw [e] at hP; exact hP
    | stuck => rw [e] at hP; exact hP⟩
theorem sS_expr (he : PE X e (rdE M W fa)) (hs : swapsWith e none pos.line X.env = pure false) : PS X (.Expr e pos) (rdS M W fun δ S => Out.of δ (fa δ S) fun _ S => .nxt δ S) :=
  PS.weak (ps_expr he hs) fun D σ H ⟨ρ, δ, S, hS, hE, hP⟩ => ⟨ρ, δ, S, hS, hE, hP.of hE fun d S1 e1 ρ1 H1 x s1 hS1 r1 hP1 => hP1 _ _ _ Step.refl hS1 (hE.step s1)⟩
theorem sS_ret (he : PE X e (rdE M W fa)) : PS X (.Return (some e) pos) (rdS M W fun δ S => Out.of δ (fa δ S) fun d S => .ret d S) :=
  PS.weak (ps_ret he) fun D σ H ⟨ρ, δ, S, hS, hE, hP⟩ => ⟨ρ, δ, S, hS, hE, hP.of hE fun d S1 e1 ρ1 H1 x s1 hS1 r1 hP1 => hP1 _ _ _ Step.refl hS1 r1⟩
theorem sS_pass : PS X (.Pass pos) (rdS M W fun δ S => .nxt δ S) := PS.weak ps_pass fun D σ H ⟨ρ, δ, S, hS, hE, hP⟩ => hP _ _ _ Step.refl hS hE
theorem sS_never : PS X st (rdS M W fun _ _ => .stuck) := PS.weak ps_never fun D σ H ⟨ρ, δ, S, hS, hE, hP⟩ => hP.elim
theorem sS_if {c : Expr} {a b : List Stmt} (hc : PT X c (rdT M W ga)) (ha : PSs X a (rdS M W g)) (hb : PSs X b (rdS M W g')) : PS X (.If c a b pos) (rdS M W fun δ S => Out.of δ (ga δ S) fun t S => if t then g δ S else g' δ S) :=
  PS.weak (ps_if hc ha hb) fun D σ H ⟨ρ, δ, S, hS, hE, hP⟩ => ⟨ρ, δ, S, hS, hE, hP.of hE fun d S1 e1 ρ1 H1 x s1 hS1 r1 hP1 => by
    have ex : x = d := r1
    subst ex
    cases x with
    | true =>
      rw [if_pos rfl] at hP1 ⊢
      exact ⟨ρ1, δ, S1, hS1, hE.step s1, hP1⟩
    | false =>
      rw [if_neg Bool.false_ne_true] at hP1 ⊢
      exact ⟨ρ1, δ, S1, hS1, hE.step s1, hP1⟩⟩
/-! ### while -/
theorem whF_step {c : Env → Sto → R Bool} {b : Env → Sto → Out} {n : Nat} {δ : Env} {S : Sto} : whF c b (n + 1) δ S = Out.of δ (c δ S) fun t S1 => if t then (b δ S1).bind fun δ' S' => whF c b n δ' S' else .nxt δ S1 := rfl
theorem whF_mono {c : Env → Sto → R Bool} {b : Env → Sto → Out} : ∀ {n m : Nat} {δ : Env} {S : Sto}, n ≤ m → whF c b n δ S ≠ .stuck → whF c b m δ S = whF c b n δ S
  | 0, _, _, _, _, h => absurd rfl h
  | n + 1, 0, _, _, hl, _ => absurd hl (by omega)
  | n + 1, m + 1, δ, S, hl, h => by
    rw [whF_step] at h
    rw [whF_step, whF_step]
    cases e : c δ S with
    | ok t S1 =>
      rw [e, Out.of_ok] at h
      rw [Out.of_ok, Out.of_ok]
      cases t with
      | true =>
        rw [if_pos rfl] at h ⊢
        rw [if_pos rfl]
        cases e2 : b δ S1 with
        | nxt δ' S' =>
          rw [e2, Out.bind_nxt] at h
          rw [Out.bind_nxt, Out.bind_nxt]
          exact whF_mono (by omega) h
        | ret d S' => rfl
        | exc x δ' S' => rfl
        | stuck => rfl
      | false => rfl
    | exc x S1 => rfl
    | stuck => rfl
theorem whW_of {c : Env → Sto → R Bool} {b : Env → Sto → Out} {n : Nat} {δ : Env} {S : Sto} (h : whF c b n δ S ≠ .stuck) : whW c b δ S = whF c b n δ S := by
  have hx : ∃ n, whF c b n δ S ≠ .stuck := ⟨n, h⟩
  unfold whW
  rw [dif_pos hx]
  have h1 := Classical.choose_spec hx
  rcases Nat.le_total n (Classical.choose hx) with q | q
  · exact whF_mono q h
  · exact (whF_mono q h1).symm
theorem whW_stuck {c : Env → Sto → R Bool} {b : Env → Sto → Out} {δ : Env} {S : Sto} (h : ∀ n, whF c b n δ S = .stuck) : whW c b δ S = .stuck := by
  unfold whW
  rw [dif_neg (fun ⟨n, hn⟩ => hn (h n))]
theorem sS_while {c : Expr} {b : List Stmt} (hp : PassesOwn (model X.prog X.w) X.A X.env X.xe) (hc : PT X c (rdT M W ga)) (hb : PSs X b (rdS M W g)) : PS X (.While c b [] pos) (rdS M W fun δ S => whW ga g δ S) :=
  PS.weak (ps_while hp hc hb) fun D σ H ⟨ρ, δ, S, hS, hE, hP⟩ => by
    dsimp only at hP
    have hn : ∃ n, whF ga g n δ S ≠ .stuck := Classical.byContradiction fun z => by
      rw [whW_stuck fun n => Classical.byContradiction fun y => z ⟨n, y⟩] at hP
      exact hP
    obtain ⟨n, hn⟩ := hn
    rw [whW_of hn] at hP
    refine ⟨fun m σ H => ∃ ρ δ S, RepSt M ρ H S ∧ RepE M ρ H δ σ ∧ PostS M W ρ H D (whF ga g m δ S), ⟨n, ρ, δ, S, hS, hE, hP⟩, fun m σ H ⟨ρ, δ, S, hS, hE, hP⟩ => ?_⟩
    cases m with
    | zero => exact hP.elim
    | succ m =>
      rw [whF_step] at hP
      refine ⟨ρ, δ, S, hS, hE, hP.of hE fun t S1 e1 ρ1 H1 x s1 hS1 r1 hP1 => ?_⟩
      have ex : x = t := r1
      subst ex
      cases x with
      | true =>
        rw [if_pos rfl] at hP1 ⊢
        refine ⟨fun σ' H' => ∃ ρ δ S, RepSt M ρ H' S ∧ RepE M ρ H' δ σ' ∧ PostS M W ρ H' D (whF ga g m δ S), fun σ' H' q => ⟨m, by omega, q⟩, ρ1, δ, S1, hS1, hE.step s1, ?_⟩
        cases e2 : g δ S1 with
        | nxt δ' S' =>
          rw [e2, Out.bind_nxt] at hP1
          exact fun ρ2 H2 σ2 s2 hS2 hE2 => ⟨ρ2, δ', S', hS2, hE2, hP1.step s2⟩
        | ret d S' => rw [e2] at hP1; exact hP1
        | exc x δ' S' => rw [e2] at hP1; exact hP1
        | stuck => rw [e2] at hP1; exact hP1
      | false =>
        rw [if_neg Bool.false_ne_true] at hP1 ⊢
        exact hP1 _ _ _ Step.refl hS1 (hE.step s1)
/-! ### targets -/
mutual
def Tg.slots : Tg → List Nat
  | .nm i => [i]
  | .tp ts => ts.slots
def Tgs.slots : Tgs → List Nat
  | .nil => []
  | .cons t ts => t.slots ++ ts.slots
end
/-- the slots but those of l are as they were -/
def Off (l : List Nat) (σ σ' : L2.St) : Prop := σ'.length = σ.length ∧ ∀ i, i ∉ l → σ'[i]? = σ[i]?
theorem Off.refl {l : List Nat} {σ : L2.St} : Off l σ σ := ⟨rfl, fun _ _ => rfl⟩
theorem Off.trans {l m : List Nat} {σ σ1 σ2 : L2.St} (a : Off l σ σ1) (b : Off m σ1 σ2) : Off (l ++ m) σ σ2 :=
  ⟨b.1.trans a.1, fun i hi => (b.2 i fun z => hi (List.mem_append_right _ z)).trans (a.2 i fun z => hi (List.mem_append_left _ z))⟩
def rdG (M : Mo) (t : Tg) : TG := fun v σ H Q => ∃ ρ δ S d δ', RepSt M ρ H S ∧ RepE M ρ H δ σ ∧ Rep M ρ H d v ∧ asgT S t d δ = some δ' ∧ ∀ σ', RepE M ρ H δ' σ' → Off t.slots σ σ' → Q σ' H
def rdGs (M : Mo) (t : Tgs) : TGs := fun vs σ H Q => ∃ ρ δ S ds δ', RepSt M ρ H S ∧ RepE M ρ H δ σ ∧ Reps M ρ H ds vs ∧ asgTs S t ds δ = some δ' ∧ ∀ σ', RepE M ρ H δ' σ' → Off t.slots σ σ' → Q σ' H
theorem PG.weak {tg : Expr} {t t' : TG} (h : PG X tg t) (w : ∀ v σ H Q, t' v σ H Q → t v σ H Q) : PG X tg t' := ⟨fun pins s σ H v u Q I r q => h.run pins s σ H v u Q I r (w v σ H Q q)⟩
theorem PGs.weak {tg : List Expr} {t t' : TGs} (h : PGs X tg t) (w : ∀ v σ H Q, t' v σ H Q → t v σ H Q) : PGs X tg t' := ⟨fun pins s σ H v u Q I r q => h.run pins s σ H v u Q I r (w v σ H Q q)⟩
theorem sG_name {i : Nat} {x : Str} (hN : X.N.Nodup) (hi : X.N[i]? = some x) (hx : Loc X.env.scope x) (hf : X.fn x = true ∨ X.env.scope.names.lookup x = some .local) : PG X (.Name x pos) (rdG M (.nm i)) :=
  PG.weak (pg_name hN hi hx hf) fun v σ H Q ⟨ρ, δ, S, d, δ', hS, hE, r, e, q⟩ => by
    rw [asgT] at e
    by_cases hl : i < δ.length
    · rw [if_pos hl] at e
      cases e
      refine q _ (hE.set r) ⟨by simp, fun j hj => ?_⟩
      rw [List.getElem?_set_ne (fun z => hj (by rw [Tg.slots, ← z]; simp))]
    · rw [if_neg hl] at e; cases e
theorem sGs_nil : PGs X [] (rdGs M .nil) := PGs.weak pgs_nil fun v σ H Q ⟨ρ, δ, S, ds, δ', hS, hE, r, e, q⟩ => by
  cases ds with
  | nil =>
    rw [asgTs] at e
    cases e
    rw [Reps] at r
    exact ⟨r, q _ hE Off.refl⟩
  | cons d ds => simp [asgTs] at e
theorem sGs_cons {es : List Expr} {t : Tg} {ts : Tgs} (h1 : PG X e (rdG M t)) (h2 : PGs X es (rdGs M ts)) (hs : (assignEach (e :: es) X.env).map (·.2) = assign e X.env :: (assignEach es X.env).map (·.2)) : PGs X (e :: es) (rdGs M (.cons t ts)) :=
  PGs.weak (pgs_cons h1 h2 hs) fun vs σ H Q ⟨ρ, δ, S, ds, δ', hS, hE, r, e, q⟩ => by
    cases ds with
    | nil => simp [asgTs] at e
    | cons d ds =>
      rw [asgTs] at e
      rw [Reps] at r
      obtain ⟨v, vr, rfl, r1, r2⟩ := r
      cases e1 : asgT S t d δ with
      | none => rw [e1] at e; cases e
      | some δ1 =>
        rw [e1, Option.bind_some] at e
        exact ⟨v, vr, rfl, ρ, δ, S, d, δ1, hS, hE, r1, e1, fun σ1 hE1 o1 => ⟨ρ, δ1, S, ds, δ', hS, hE1, r2, e, fun σ2 hE2 o2 => q σ2 hE2 (by rw [Tgs.slots]; exact o1.trans o2)⟩⟩
theorem asgTs_len {S : Sto} : ∀ {ts : Tgs} {ds : List D} {δ δ' : Env}, asgTs S ts ds δ = some δ' → ds.length = ts.rec (motive_1 := fun _ => Nat) (motive_2 := fun _ => Nat) (fun _ => 0) (fun _ _ => 0) 0 (fun _ _ _ n => n + 1)
  | .nil, [], _, _, _ => rfl
  | .nil, _ :: _, _, _, e => by simp [asgTs] at e
  | .cons t ts, [], _, _, e => by simp [asgTs] at e
  | .cons t ts, d :: ds, δ, _, e => by
    rw [asgTs] at e
    cases e1 : asgT S t d δ with
    | none => rw [e1] at e; cases e
    | some δ1 =>
      rw [e1, Option.bind_some] at e
      rw [List.length_cons, asgTs_len e]
def Tgs.len : Tgs → Nat
  | .nil => 0
  | .cons _ ts => ts.len + 1
theorem Tgs.len_rec : ∀ ts : Tgs, ts.rec (motive_1 := fun _ => Nat) (motive_2 := fun _ => Nat) (fun _ => 0) (fun _ _ => 0) 0 (fun _ _ _ n => n + 1) = ts.len
  | .nil => rfl
  | .cons t ts => by
    show ts.rec (motive_1 := fun _ => Nat) (motive_2 := fun _ => Nat) (fun _ => 0) (fun _ _ => 0) 0 (fun _ _ _ n => n + 1) + 1 = _
    rw [Tgs.len_rec ts]; rfl
theorem sG_tup {es : List Expr} {k : Nat} {ts : Tgs} (hK : X.K = M.K) (hc : X.calm = true) (h : PGs X es (rdGs M ts)) (hn : (assignEach es X.env).length = ts.len) (hst : (assignEach es X.env).findIdx? (·.1) = none) :
    PG X (.Tuple es k pos) (rdG M (.tp ts)) :=
  PG.weak (pg_tup hc h hn hst) fun v σ H Q ⟨ρ, δ, S, d, δ', hS, hE, r, e, q⟩ => by
    cases d with
    | tup ds =>
      rw [asgT] at e
      obtain ⟨a, vs, rfl, t, rr⟩ := rep_tup_inv r
      exact ⟨a, vs, rfl, hK ▸ t.sq, by rw [← rr.length, asgTs_len e, Tgs.len_rec], ρ, δ, S, ds, δ', hS, hE, rr, e, fun σ2 hE2 o2 => q σ2 hE2 (by rw [Tg.slots]; exact o2)⟩
    | _ => simp [asgT] at e
/-- what an assignment stores -/
def asgO (t : Tg) (d : D) (δ : Env) (S : Sto) : Out := match asgT S t d δ with
  | some δ' => .nxt δ' S
  | none => .stuck
theorem asg_of {t : Tg} {d : D} {δ : Env} {S : Sto} {ρ : Rho} {H : Hp} {D : Ends} {v : V} {σ : L2.St} (hS : RepSt M ρ H S) (hE : RepE M ρ H δ σ) (r : Rep M ρ H d v) (hP : PostS M W ρ H D (asgO t d δ S)) : rdG M t v σ H D.nx := by
  unfold asgO at hP
  cases e : asgT S t d δ with
  | none => rw [e] at hP; exact hP.elim
  | some δ' =>
    rw [e] at hP
    exact ⟨ρ, δ, S, d, δ', hS, hE, r, e, fun σ' hE' _ => hP _ _ _ Step.refl hS hE'⟩
theorem sS_asg {tg : Expr} {t : Tg} (he : PE X e (rdE M W fa)) (hg : PG X tg (rdG M t)) (hs : swapsWithSole [tg] e pos.line X.env = pure false) (hw : swappedStores [tg] e X.env = pure none)
    (h1 : (assignEach [tg] X.env).map (·.2) = [assign tg X.env]) : PS X (.Assign [tg] e pos) (rdS M W fun δ S => Out.of δ (fa δ S) fun d S => asgO t d δ S) :=
  PS.weak (ps_asg he hg hs hw h1) fun D σ H ⟨ρ, δ, S, hS, hE, hP⟩ => ⟨ρ, δ, S, hS, hE, hP.of hE fun d S1 e1 ρ1 H1 x s1 hS1 r1 hP1 => asg_of hS1 (hE.step s1) r1 hP1⟩
end
end Py

set_option Elab.async false
set_option linter.all false
set_option maxRecDepth 100000
set_option maxHeartbeats 4000000
/-! Part L: what the layer lacks: enumerate of a tuple, of a list, the pairs kept. -/
namespace L2
open PySem PySem.Spec PyProof.Rows
/-- the tuple at a, with the places from c on, the items in new pairs -/
def IteT (K : PySem.W.Frag) (c : Int) (a : Addr) : It :=
  ⟨fun i H => ∃ (xs : List V) (x : V), SqT K H a xs ∧ xs[i]? = some x,
    fun i H v H' => ∃ T x o, v = .ref T ∧ H T = none ∧ Obj.dict o = none ∧ H' = upd H T (.frz o (.tup [.int (c + (i : Nat)), x])) ∧ ∀ xs, SqT K H a xs → xs[i]? = some x,
    fun i H => ∃ xs : List V, SqT K H a xs ∧ xs.length ≤ i⟩
theorem enum_ne_tup {h : Heap} {e a it : Addr} {c : Int} {old : Value} {its : Array Value} (he : IsEnum h e it c old) (p : IsTup h a its) : e ≠ a := fun z => by
  obtain ⟨o, ho, hc, _⟩ := p
  rw [← z] at ho
  have he' : h.get? e = some _ := he
  rw [he'] at ho
  cases ho
  injection hc with z2
  exact absurd z2 (by decide)
theorem turn_enumT {P : Program} {w : World} {K : PySem.W.Frag} {elts : List Expr} {kk : Nat} {tpos : Pos} (c : Int) (a e it : Addr) :
    Turn P w K (.Tuple elts kk tpos) (IteT K c a) [e, it] e (fun i h => (∃ old, IsEnum h e it (c + ((i : Nat) : Int)) old) ∧ h.IsTupleIter it a i ∧ e ≠ it) where
  mem := by simp
  obj := fun i h st b hb => by
    obtain ⟨⟨old, he⟩, ⟨o, ho, hc, hd⟩, _⟩ := st
    have e' : b = e ∨ b = it := by simpa using hb
    rcases e' with z | z
    · rw [z]; exact ⟨_, he, fun v q => nomatch q⟩
    · rw [z]; exact ⟨o, ho, fun v q => by rw [hd] at q; cases q⟩
  keep := fun i h h' st k => let ⟨⟨old, he⟩, hi, hne⟩ := st; ⟨⟨old, k e (by simp) _ he⟩, hi.at fun o q => k it (by simp) o q, hne⟩
  item := by
    intro X hP hw hK hc i pins s σ H E I hf st hg
    subst hP hw hK
    obtain ⟨⟨old, he⟩, hit, hne⟩ := st
    obtain ⟨xs, x, hq, hx⟩ := hg
    obtain ⟨its, rv, p, hz⟩ := I.tuple hq
    obtain ⟨u, hu, ru⟩ := rv.get hx
    have hea := enum_ne_tup he p
    have hel : e < s.heap.objs.size := Heap.lt_size he
    have hil : it < s.heap.objs.size := by obtain ⟨_, q, _⟩ := hit; exact Heap.lt_size q
    have hia : a ≠ it := fun z => by
      obtain ⟨o, ho, hc', _⟩ := p
      obtain ⟨o2, ho2, hc2, _⟩ := hit
      rw [z, ho2] at ho; cases ho
      rw [hc2] at hc'
      injection hc' with z2
      exact absurd z2 (by decide)
    have hul : i < its.toArray.size := by
      have := (List.getElem?_eq_some_iff.mp hu).1
      simpa using this
    refine wpAny_pyNext_enum_itemC (Draws.tuple (A := X.A.in1) (I.ok.hd hc) it a hia its.toArray) he ⟨hit, p⟩ hul hne (by simp [hne, hea]) fun y h' tk hy ho hit' hT hsz hk => ?_
    have ey : u = y := Option.some.inj (hu.symm.trans (by simpa using hy))
    subst ey
    refine ⟨_, rfl, wpAny_letOwnedTupleGo_enum (s := { s with heap := h', toks := tk + 1 }) ho fun h'' he' sb => ?_⟩
    have hT2 : h''.get? s.heap.objs.size = some { cls := .type "tuple", data := .seq #[.int (c + (i : Nat)) tk, u] } := (sb.2 _ (Nat.ne_of_gt hel)).trans hT
    have new : ObjOk X.prog X.w (upd H s.heap.objs.size (.frz { cls := .type "tuple", data := .seq #[.int (c + (i : Nat)) tk, u] } (.tup [.int (c + (i : Nat)), x]))) h'' s.heap.objs.size (.frz { cls := .type "tuple", data := .seq #[.int (c + (i : Nat)) tk, u] } (.tup [.int (c + (i : Nat)), x])) :=
      ⟨hT2, by show 2 ≤ sizeLine; decide, [.int (c + (i : Nat)) tk, u], .cons ⟨_, rfl⟩ (.cons ru .nil), ⟨_, hT2, rfl, _, rfl⟩⟩
    have I1 : Inv X pins σ (upd H s.heap.objs.size (.frz { cls := .type "tuple", data := .seq #[.int (c + (i : Nat)) tk, u] } (.tup [.int (c + (i : Nat)), x]))) { s with heap := h'', toks := tk + 1 } :=
      I.turnedNew (ch := [e, it]) (fun b ob hb q => (sb.2 b (fun z => hb (by simp [z]))).trans (hk b ob (fun z => hb (by simp [z])) (fun z => hb (by simp [z])) q)) hf (Nat.le_refl _) new
    refine ⟨.ref s.heap.objs.size, _, I1, rfl, ⟨_, x, _, rfl, I.hok.fresh (Nat.le_refl _), rfl, rfl, fun ys hy => by rw [I.tuple_inj hy hq]; exact hx⟩, ⟨⟨u, ?_⟩, hit'.1.at fun o q => (sb.2 it (Ne.symm hne)).trans q, hne⟩, fun b hb => ?_⟩
    · have e1 : c + ((i + 1 : Nat) : Int) = c + (i : Int) + 1 := by omega
      rw [e1]; exact he'
    · have hb' : b < s.heap.objs.size := by
        have e' : b = e ∨ b = it := by simpa using hb
        rcases e' with z | z
        · rw [z]; exact hel
        · rw [z]; exact hil
      rw [upd_ne (Nat.ne_of_lt hb')]
      exact (hf b hb).1
  done := by
    intro X hP hw hK hc i pins s σ H E I hf st hg
    subst hP hw hK
    obtain ⟨⟨old, he⟩, hit, hne⟩ := st
    obtain ⟨xs, hq, hx⟩ := hg
    obtain ⟨its, rv, p, hz⟩ := I.tuple hq
    obtain ⟨f0, f1, f2, f3, f4, f5⟩ := hf it (by simp)
    have hia : a ≠ it := fun z => by
      obtain ⟨o, ho, hc', _⟩ := p
      obtain ⟨o2, ho2, hc2, _⟩ := hit
      rw [z, ho2] at ho; cases ho
      rw [hc2] at hc'
      injection hc' with z2
      exact absurd z2 (by decide)
    have hl := rv.length
    unfold pyNext
    have hT : s.TypeIs (.ref e) "enumerate" := ⟨_, he, rfl⟩
    refine wpAny_bind (wpAny_attempt (wpAny_callSpecial?_slot (name := Str.ofString "__next__") hT F.slot_enumerate_next
      (wpAny_call_entry F.slot_enumerate_next hT F.entry_enumerate_next ?_ (F.args_enumerate_next_1 _))))
    show wpAny _ _ (field (.ref e) 2 >>= _) _ _ _
    refine wpAny_bind (wpAny_field he rfl (x := .ref it) rfl ?_)
    refine wpAny_bind (wpAny_nextOf_tuple_end (I.ok.hd hc) hit p (by simp; omega) fun h' x he' hx' => ?_)
    obtain ⟨o, ho, hc'⟩ := hx'
    refine wpAny_bind (wpAny_isInstance (T := "StopIteration") (b := true) ⟨o, ho, hc'⟩ isSubtype_stop ?_)
    exact wpAny_pure ⟨rfl, I.turned (t' := s.toks) (fun b o hb q => he' b o hb q) f0 f1 f3 f4 f5⟩
  self := fun A i s Q E st h => let ⟨⟨_, he⟩, _⟩ := st; wpAny_pyIter_enum he h
theorem meets_enum_new1 {v : Value} {o : Obj} {H : Heap → Prop} (B : Begins v o H) :
    Meets (Builtin.«enumerate.__new__» ⟨[.type "enumerate", v], []⟩) (fun _ R s => H s.heap ∧
      R (.ok (.ret (.ref (s.heap.push o).objs.size))) { s with heap := (s.heap.push o).push { cls := .type "enumerate", data := .fields #[.none, .bool false, .ref s.heap.objs.size, rawInt 0, .none, .none] } }) :=
  .of_wp fun prog w A R s h => by
    obtain ⟨hp, g, d, tk, os⟩ := s; obtain ⟨h1, h⟩ := h
    have hsub := sub_enumerate
    have q1 : ∀ {A' : Around} {E : Value → Shared → Prop} {Q : Value → Shared → Prop}, Q (.ref hp.objs.size) ⟨hp.push o, g, d, tk, os⟩ → wpAny (model prog w) A' (pyIter v) Q E ⟨hp, g, d, tk, os⟩ :=
      fun q => B.iter prog w _ _ ⟨hp, g, d, tk, os⟩ _ h1 q
    wp_walk using q1
    refine wpAny_stack_any fun st => wpAny_pure ?_
    split
    · rename_i c _ _ _ _ _
      cases (c == Value.type "enumerate")
      · wp_walk using q1
        exact ⟨_, rfl, h⟩
      · wp_walk using q1
        exact ⟨_, rfl, h⟩
    · wp_walk using q1
      exact ⟨_, rfl, h⟩
def iEnumT (K : PySem.W.Frag) (ta : TA) : TI := fun σ H R => ta σ H fun vs H1 => ∃ a xs, vs = [.ref a] ∧ SqT K H1 a xs ∧ R (IteT K 0 a) H1
theorem pi_enumT {X : Cx} {e : Expr} {ta : TA} {p pos tpos : Pos} {elts : List Expr} {kk : Nat} (hg : Gl X "enumerate") (hm : X.mg "enumerate" = none) (ha : PA X [e] ta) (hs : starEach [e] X.env = [(false, eval e X.env)]) :
    PI X (.Tuple elts kk tpos) (.Call (.Name "enumerate" p) [e] [] pos) (iEnumT X.K ta) := by
  refine ⟨fun pins s σ H R I h => ?_⟩
  refine Call_ (ld_blt I hg hm boot_enumerate (PyProof.Rows.callWith_type1 (thn (ha.run pos pins s σ H _ I h) fun us s1 ⟨vs, H1, I1, r1, q1⟩ => ?_) hs rfl))
  obtain ⟨a, xs, ex, hq, q⟩ := q1
  subst ex
  cases r1 with
  | cons r rr =>
    cases rr
    cases r
    obtain ⟨its, rv, p', hz⟩ := I1.tuple hq
    refine callType_new F.called_enumerate (by decide) (F.typeCall_enumerate_1 _) (F.newCall_enumerate_1 _) (fun obj => F.args_object_init_2 obj _) F.entry_enumerate_new
      (meets_enum_new1 (begins_tuple a its.toArray)) ⟨p', ?_⟩
    have hz' : (s1.heap.push { cls := .type "tuple_iterator", data := .fields #[.ref a, .int 0 0] }).objs.size = s1.heap.objs.size + 1 := Heap.size_push ..
    show _ ∧ _
    rw [hz']
    have he : IsEnum ((s1.heap.push { cls := .type "tuple_iterator", data := .fields #[.ref a, .int 0 0] }).push { cls := .type "enumerate", data := .fields #[.none, .bool false, .ref s1.heap.objs.size, rawInt 0, .none, .none] }) (s1.heap.objs.size + 1) s1.heap.objs.size 0 .none := by
      have := Heap.get?_push_size (s1.heap.push { cls := .type "tuple_iterator", data := .fields #[.ref a, .int 0 0] }) (o := { cls := .type "enumerate", data := .fields #[.none, .bool false, .ref s1.heap.objs.size, rawInt 0, .none, .none] }) rfl
      rw [hz'] at this; exact this
    refine ⟨⟨_, he, rfl⟩, wpAny_pyIter_enum he ?_⟩
    have I2 : Inv X pins σ H1 { s1 with heap := (s1.heap.push { cls := .type "tuple_iterator", data := .fields #[.ref a, .int 0 0] }).push { cls := .type "enumerate", data := .fields #[.none, .bool false, .ref s1.heap.objs.size, rawInt 0, .none, .none] } } :=
      I1.kept (t' := s1.toks) fun b o x => Heap.get?_push_of_some _ (Heap.get?_push_of_some _ x)
    refine ⟨s1.heap.objs.size + 1, [s1.heap.objs.size + 1, s1.heap.objs.size], _, _, H1, rfl, I2, turn_enumT 0 a (s1.heap.objs.size + 1) s1.heap.objs.size, ⟨⟨.none, by simpa using he⟩, ⟨_, Heap.get?_push_of_some _ (Heap.get?_push_size _ rfl), rfl, rfl⟩, Nat.succ_ne_self _⟩, fun b hb => ?_, q⟩
    have e' : b = s1.heap.objs.size + 1 ∨ b = s1.heap.objs.size := by simpa using hb
    have hle : s1.heap.objs.size ≤ b := by
      rcases e' with z | z
      · rw [z]; exact Nat.le_add_right _ _
      · rw [z]; exact Nat.le_refl _
    exact I1.fpOk hle (I1.hok.fresh hle)
/-- the list at a, with the places from c on, the items in new pairs -/
def IteL (K : PySem.W.Frag) (c : Int) (a : Addr) : It :=
  ⟨fun i H => ∃ (xs : List V) (x : V), SqL K H a xs ∧ xs[i]? = some x,
    fun i H v H' => ∃ T x o, v = .ref T ∧ H T = none ∧ Obj.dict o = none ∧ H' = upd H T (.frz o (.tup [.int (c + (i : Nat)), x])) ∧ ∀ xs, SqL K H a xs → xs[i]? = some x,
    fun i H => ∃ xs : List V, SqL K H a xs ∧ xs.length ≤ i⟩
theorem enum_ne_lst {h : Heap} {e a it : Addr} {c : Int} {old : Value} {its : Array Value} (he : IsEnum h e it c old) (p : h.IsList a its) : e ≠ a := fun z => by
  obtain ⟨o, ho, hc, _⟩ := p
  rw [← z] at ho
  have he' : h.get? e = some _ := he
  rw [he'] at ho
  cases ho
  injection hc with z2
  exact absurd z2 (by decide)
theorem turn_enumL {P : Program} {w : World} {K : PySem.W.Frag} {elts : List Expr} {kk : Nat} {tpos : Pos} (c : Int) (a e it : Addr) :
    Turn P w K (.Tuple elts kk tpos) (IteL K c a) [e, it] e (fun i h => (∃ old, IsEnum h e it (c + ((i : Nat) : Int)) old) ∧ h.IsListIter it a i ∧ e ≠ it) where
  mem := by simp
  obj := fun i h st b hb => by
    obtain ⟨⟨old, he⟩, ⟨o, ho, hc, hd⟩, _⟩ := st
    have e' : b = e ∨ b = it := by simpa using hb
    rcases e' with z | z
    · rw [z]; exact ⟨_, he, fun v q => nomatch q⟩
    · rw [z]; exact ⟨o, ho, fun v q => by rw [hd] at q; cases q⟩
  keep := fun i h h' st k => let ⟨⟨old, he⟩, hi, hne⟩ := st; ⟨⟨old, k e (by simp) _ he⟩, hi.at fun o q => k it (by simp) o q, hne⟩
  item := by
    intro X hP hw hK hc i pins s σ H E I hf st hg
    subst hP hw hK
    obtain ⟨⟨old, he⟩, hit, hne⟩ := st
    obtain ⟨xs, x, hq, hx⟩ := hg
    obtain ⟨its, rv, p, hz⟩ := I.list hq
    replace p := p.isList
    obtain ⟨u, hu, ru⟩ := rv.get hx
    have hea := enum_ne_lst he p
    have hel : e < s.heap.objs.size := Heap.lt_size he
    have hil : it < s.heap.objs.size := by obtain ⟨_, q, _⟩ := hit; exact Heap.lt_size q
    have hia : a ≠ it := fun z => by
      obtain ⟨o, ho, hc', _⟩ := p
      obtain ⟨o2, ho2, hc2, _⟩ := hit
      rw [z, ho2] at ho; cases ho
      rw [hc2] at hc'
      injection hc' with z2
      exact absurd z2 (by decide)
    have hul : i < its.toArray.size := by
      have := (List.getElem?_eq_some_iff.mp hu).1
      simpa using this
    refine wpAny_pyNext_enum_itemC (Draws.list (A := X.A.in1) (I.ok.hd hc) it a hia its.toArray) he ⟨hit, p⟩ hul hne (by simp [hne, hea]) fun y h' tk hy ho hit' hT hsz hk => ?_
    have ey : u = y := Option.some.inj (hu.symm.trans (by simpa using hy))
    subst ey
    refine ⟨_, rfl, wpAny_letOwnedTupleGo_enum (s := { s with heap := h', toks := tk + 1 }) ho fun h'' he' sb => ?_⟩
    have hT2 : h''.get? s.heap.objs.size = some { cls := .type "tuple", data := .seq #[.int (c + (i : Nat)) tk, u] } := (sb.2 _ (Nat.ne_of_gt hel)).trans hT
    have new : ObjOk X.prog X.w (upd H s.heap.objs.size (.frz { cls := .type "tuple", data := .seq #[.int (c + (i : Nat)) tk, u] } (.tup [.int (c + (i : Nat)), x]))) h'' s.heap.objs.size (.frz { cls := .type "tuple", data := .seq #[.int (c + (i : Nat)) tk, u] } (.tup [.int (c + (i : Nat)), x])) :=
      ⟨hT2, by show 2 ≤ sizeLine; decide, [.int (c + (i : Nat)) tk, u], .cons ⟨_, rfl⟩ (.cons ru .nil), ⟨_, hT2, rfl, _, rfl⟩⟩
    have I1 : Inv X pins σ (upd H s.heap.objs.size (.frz { cls := .type "tuple", data := .seq #[.int (c + (i : Nat)) tk, u] } (.tup [.int (c + (i : Nat)), x]))) { s with heap := h'', toks := tk + 1 } :=
      I.turnedNew (ch := [e, it]) (fun b ob hb q => (sb.2 b (fun z => hb (by simp [z]))).trans (hk b ob (fun z => hb (by simp [z])) (fun z => hb (by simp [z])) q)) hf (Nat.le_refl _) new
    refine ⟨.ref s.heap.objs.size, _, I1, rfl, ⟨_, x, _, rfl, I.hok.fresh (Nat.le_refl _), rfl, rfl, fun ys hy => by rw [I.list_inj hy hq]; exact hx⟩, ⟨⟨u, ?_⟩, hit'.1.at fun o q => (sb.2 it (Ne.symm hne)).trans q, hne⟩, fun b hb => ?_⟩
    · have e1 : c + ((i + 1 : Nat) : Int) = c + (i : Int) + 1 := by omega
      rw [e1]; exact he'
    · have hb' : b < s.heap.objs.size := by
        have e' : b = e ∨ b = it := by simpa using hb
        rcases e' with z | z
        · rw [z]; exact hel
        · rw [z]; exact hil
      rw [upd_ne (Nat.ne_of_lt hb')]
      exact (hf b hb).1
  done := by
    intro X hP hw hK hc i pins s σ H E I hf st hg
    subst hP hw hK
    obtain ⟨⟨old, he⟩, hit, hne⟩ := st
    obtain ⟨xs, hq, hx⟩ := hg
    obtain ⟨its, rv, p, hz⟩ := I.list hq
    replace p := p.isList
    obtain ⟨f0, f1, f2, f3, f4, f5⟩ := hf it (by simp)
    have hia : a ≠ it := fun z => by
      obtain ⟨o, ho, hc', _⟩ := p
      obtain ⟨o2, ho2, hc2, _⟩ := hit
      rw [z, ho2] at ho; cases ho
      rw [hc2] at hc'
      injection hc' with z2
      exact absurd z2 (by decide)
    have hl := rv.length
    unfold pyNext
    have hT : s.TypeIs (.ref e) "enumerate" := ⟨_, he, rfl⟩
    refine wpAny_bind (wpAny_attempt (wpAny_callSpecial?_slot (name := Str.ofString "__next__") hT F.slot_enumerate_next
      (wpAny_call_entry F.slot_enumerate_next hT F.entry_enumerate_next ?_ (F.args_enumerate_next_1 _))))
    show wpAny _ _ (field (.ref e) 2 >>= _) _ _ _
    refine wpAny_bind (wpAny_field he rfl (x := .ref it) rfl ?_)
    refine wpAny_bind (wpAny_nextOf_list_end (I.ok.hd hc) hit p (by simp; omega) fun h' x he' hx' => ?_)
    obtain ⟨o, ho, hc'⟩ := hx'
    refine wpAny_bind (wpAny_isInstance (T := "StopIteration") (b := true) ⟨o, ho, hc'⟩ isSubtype_stop ?_)
    exact wpAny_pure ⟨rfl, I.turned (t' := s.toks) (fun b o hb q => he' b o hb q) f0 f1 f3 f4 f5⟩
  self := fun A i s Q E st h => let ⟨⟨_, he⟩, _⟩ := st; wpAny_pyIter_enum he h
def iEnumL (K : PySem.W.Frag) (ta : TA) : TI := fun σ H R => ta σ H fun vs H1 => ∃ a xs, vs = [.ref a] ∧ SqL K H1 a xs ∧ R (IteL K 0 a) H1
theorem pi_enumL {X : Cx} {e : Expr} {ta : TA} {p pos tpos : Pos} {elts : List Expr} {kk : Nat} (hg : Gl X "enumerate") (hm : X.mg "enumerate" = none) (ha : PA X [e] ta) (hs : starEach [e] X.env = [(false, eval e X.env)]) :
    PI X (.Tuple elts kk tpos) (.Call (.Name "enumerate" p) [e] [] pos) (iEnumL X.K ta) := by
  refine ⟨fun pins s σ H R I h => ?_⟩
  refine Call_ (ld_blt I hg hm boot_enumerate (PyProof.Rows.callWith_type1 (thn (ha.run pos pins s σ H _ I h) fun us s1 ⟨vs, H1, I1, r1, q1⟩ => ?_) hs rfl))
  obtain ⟨a, xs, ex, hq, q⟩ := q1
  subst ex
  cases r1 with
  | cons r rr =>
    cases rr
    cases r
    obtain ⟨its, rv, p', hz⟩ := I1.list hq
    replace p' := p'.isList
    refine callType_new F.called_enumerate (by decide) (F.typeCall_enumerate_1 _) (F.newCall_enumerate_1 _) (fun obj => F.args_object_init_2 obj _) F.entry_enumerate_new
      (meets_enum_new1 (begins_list a its.toArray)) ⟨p', ?_⟩
    have hz' : (s1.heap.push { cls := .type "list_iterator", data := .fields #[.ref a, .int 0 0] }).objs.size = s1.heap.objs.size + 1 := Heap.size_push ..
    show _ ∧ _
    rw [hz']
    have he : IsEnum ((s1.heap.push { cls := .type "list_iterator", data := .fields #[.ref a, .int 0 0] }).push { cls := .type "enumerate", data := .fields #[.none, .bool false, .ref s1.heap.objs.size, rawInt 0, .none, .none] }) (s1.heap.objs.size + 1) s1.heap.objs.size 0 .none := by
      have := Heap.get?_push_size (s1.heap.push { cls := .type "list_iterator", data := .fields #[.ref a, .int 0 0] }) (o := { cls := .type "enumerate", data := .fields #[.none, .bool false, .ref s1.heap.objs.size, rawInt 0, .none, .none] }) rfl
      rw [hz'] at this; exact this
    refine ⟨⟨_, he, rfl⟩, wpAny_pyIter_enum he ?_⟩
    have I2 : Inv X pins σ H1 { s1 with heap := (s1.heap.push { cls := .type "list_iterator", data := .fields #[.ref a, .int 0 0] }).push { cls := .type "enumerate", data := .fields #[.none, .bool false, .ref s1.heap.objs.size, rawInt 0, .none, .none] } } :=
      I1.kept (t' := s1.toks) fun b o x => Heap.get?_push_of_some _ (Heap.get?_push_of_some _ x)
    refine ⟨s1.heap.objs.size + 1, [s1.heap.objs.size + 1, s1.heap.objs.size], _, _, H1, rfl, I2, turn_enumL 0 a (s1.heap.objs.size + 1) s1.heap.objs.size, ⟨⟨.none, by simpa using he⟩, ⟨_, Heap.get?_push_of_some _ (Heap.get?_push_size _ rfl), rfl, rfl⟩, Nat.succ_ne_self _⟩, fun b hb => ?_, q⟩
    have e' : b = s1.heap.objs.size + 1 ∨ b = s1.heap.objs.size := by simpa using hb
    have hle : s1.heap.objs.size ≤ b := by
      rcases e' with z | z
      · rw [z]; exact Nat.le_add_right _ _
      · rw [z]; exact Nat.le_refl _
    exact I1.fpOk hle (I1.hok.fresh hle)
end L2

set_option Elab.async false
set_option linter.all false
set_option maxRecDepth 100000
set_option maxHeartbeats 4000000
/-! Part G: what is walked; for; comprehensions. -/
namespace Py
open PySem PySem.Spec PyProof.Rows L2
mutual
theorem same_eq : ∀ (d e : D), D.same d e = true → d = e
  | .non, e, h => by cases e <;> first | rfl | (simp [D.same] at h)
  | .bl a, e, h => by cases e <;> first | (simp [D.same] at h; done) | (simp only [D.same, beq_iff_eq] at h; rw [h])
  | .int a, e, h => by cases e <;> first | (simp [D.same] at h; done) | (simp only [D.same, beq_iff_eq] at h; rw [h])
  | .str a, e, h => by cases e <;> first | (simp [D.same] at h; done) | (simp only [D.same, beq_iff_eq] at h; rw [h])
  | .tup a, e, h => by cases e <;> first | (simp [D.same] at h; done) | (simp only [D.same] at h; rw [sames_eq a _ h])
  | .lst a, e, h => by cases e <;> first | (simp [D.same] at h; done) | (simp only [D.same] at h; rw [sames_eq a _ h])
  | .obj C a b, e, h => by cases e <;> first | (simp [D.same] at h; done) | (simp only [D.same, Bool.and_eq_true, beq_iff_eq] at h; rw [h.1.1, h.1.2, sames_eq b _ h.2])
  | .loc a, e, h => by cases e <;> first | (simp [D.same] at h; done) | (simp only [D.same, beq_iff_eq] at h; rw [h])
  | .fn a, e, h => by cases e <;> first | (simp [D.same] at h; done) | (simp only [D.same, beq_iff_eq] at h; rw [h])
  | .scr a, e, h => by cases e <;> first | (simp [D.same] at h; done) | (simp only [D.same] at h; rw [sames_eq a _ h])
theorem sames_eq : ∀ (d e : List D), D.sames d e = true → d = e
  | [], e, h => by cases e <;> first | rfl | (simp [D.sames] at h)
  | x :: xs, e, h => by
    cases e with
    | nil => simp [D.sames] at h
    | cons y ys =>
      simp only [D.sames, Bool.and_eq_true] at h
      rw [same_eq x y h.1, sames_eq xs ys h.2]
end
mutual
theorem same_refl : ∀ (d : D), D.same d d = true
  | .non => by simp [D.same]
  | .bl a => by simp [D.same]
  | .int a => by simp [D.same]
  | .str a => by simp [D.same]
  | .tup a => by simp [D.same, sames_refl a]
  | .lst a => by simp [D.same, sames_refl a]
  | .obj C a b => by simp [D.same, sames_refl b]
  | .loc a => by simp [D.same]
  | .fn a => by simp [D.same]
  | .scr a => by simp [D.same, sames_refl a]
theorem sames_refl : ∀ (d : List D), D.sames d d = true
  | [] => by simp [D.sames]
  | x :: xs => by simp [D.sames, same_refl x, sames_refl xs]
end
/-- what an iterator of the layer gives, by its items -/
structure WkJ (M : Mo) (ρ : Rho) (H : Hp) (w : Wk) (J : L2.It) : Prop where
  go : ∀ ρ' H' S' i, Go ρ H ρ' H' → RepSt M ρ' H' S' → okWk w S' = true → i < w.1.length → J.go i H'
  stop : ∀ ρ' H' S', Go ρ H ρ' H' → RepSt M ρ' H' S' → okWk w S' = true → J.stop w.1.length H'
  yld : ∀ ρ' H' S' i x H'', Go ρ H ρ' H' → RepSt M ρ' H' S' → okWk w S' = true → i < w.1.length → J.yld i H' x H'' →
    ∃ d, w.1[i]? = some d ∧ (∀ a o, H' a = some o → H'' a = some o) ∧ Rep M ρ' H'' d x
theorem WkJ.step {M : Mo} {ρ ρ1 : Rho} {H H1 : Hp} {w : Wk} {J : L2.It} (h : WkJ M ρ H w J) (s : Go ρ H ρ1 H1) : WkJ M ρ1 H1 w J :=
  ⟨fun ρ' H' S' i t => h.go ρ' H' S' i (s.trans t), fun ρ' H' S' t => h.stop ρ' H' S' (s.trans t), fun ρ' H' S' i x H'' t => h.yld ρ' H' S' i x H'' (s.trans t)⟩
def rdI (M : Mo) (W : WX) (f : Env → Sto → R Wk) : TI := fun σ H R => ∃ ρ δ S, RepSt M ρ H S ∧ RepE M ρ H δ σ ∧ Post M W σ ρ H (fun ρ' H' w J => WkJ M ρ' H' w J) R (f δ S)
section
variable {M : Mo} {X : Cx} {W : WX} {e tg : Expr} {pos : Pos} {fa fb : Env → Sto → R D} {fs : Env → Sto → R (List D)}
theorem PI.weak {t t' : TI} (h : PI X tg e t) (w : ∀ σ H Q, t' σ H Q → t σ H Q) : PI X tg e t' := ⟨fun pins s σ H Q I q => h.run pins s σ H Q I (w σ H Q q)⟩
theorem PI.cases {t t' t'' : TI} (h : PI X tg e t) (h' : PI X tg e t') (w : ∀ σ H Q, t'' σ H Q → t σ H Q ∨ t' σ H Q) : PI X tg e t'' := ⟨fun pins s σ H Q I q => (w σ H Q q).elim (h.run pins s σ H Q I) (h'.run pins s σ H Q I)⟩
theorem okWk_some {ds ds' : List D} {n : Nat} {S : Sto} (h : okWk (ds, some n, ds') S = true) : lstAt S n = some ds' := by
  unfold okWk at h
  dsimp only at h
  cases q : lstAt S n with
  | none => rw [q] at h; cases h
  | some xs =>
    rw [q] at h
    rw [sames_eq _ _ h]
/-- the list that is walked, as it stands later -/
theorem src_list {ρ ρ' : Rho} {H H' : Hp} {S S' : Sto} {d : D} {v : V} {ds : List D} (hS : RepSt M ρ H S) (r : Rep M ρ H d v) (e : seqD S d = some ds) (nt : ∀ xs, d ≠ .tup xs) (s : Go ρ H ρ' H') (hS' : RepSt M ρ' H' S') (ok : okWk (ds, srcD S d, ds) S' = true) :
    ∃ a vs, v = .ref a ∧ SqL M.K H' a vs ∧ Reps M ρ' H' ds vs := by
  have r' := r.go s d
  cases d with
  | tup xs => exact absurd rfl (nt xs)
  | lst xs =>
    obtain ⟨a, vs, ev, h, rr⟩ := seq_read (ds := ds) hS' r' e
    rcases h with h | h
    · exact ⟨a, vs, ev, h, rr⟩
    · have e2 : xs = ds := Option.some.inj e
      subst e2
      rw [Rep] at r'
      obtain ⟨a', vs', ev', l, rr'⟩ := r'
      exact ⟨a', vs', ev', l.sq, rr'⟩
  | loc n =>
    have q := okWk_some (ds := ds) (n := n) ok
    rw [Rep] at r'
    obtain ⟨a, e1, ev⟩ := r'
    obtain ⟨vs, h1, rr⟩ := lst_of_at hS' e1 q
    exact ⟨a, vs, ev, SqL.of h1, rr⟩
  | scr xs =>
    have e2 : xs = ds := Option.some.inj e
    subst e2
    rw [Rep] at r'
    obtain ⟨a', vs', ev', l, rr'⟩ := r'
    exact ⟨a', vs', ev', l.sq, rr'⟩
  | _ => cases e
theorem sI_val (hK : X.K = M.K) (h : PE X e (rdE M W fa)) : PI X tg e (rdI M W fun δ S => (fa δ S).bind fun d S => R.lift ((seqD S d).map fun ds => (ds, srcD S d, ds)) S) := by
  refine PI.cases (pi_list h) (pi_tup h) fun σ H Q ⟨ρ, δ, S, hS, hE, hP⟩ => ?_
  by_cases ht : ∃ xs S1, fa δ S = .ok (.tup xs) S1
  · right
    refine ⟨ρ, δ, S, hS, hE, hP.bind fun d S1 e1 ρ1 H1 x s1 hS1 r1 hP1 => ?_⟩
    obtain ⟨xs, S2, e2⟩ := ht
    rw [e1] at e2
    cases e2
    obtain ⟨k, ek, hP1⟩ := hP1.lift
    obtain ⟨ds, e3, rfl⟩ := Option.map_eq_some_iff.mp ek
    have e4 : xs = ds := Option.some.inj e3
    subst e4
    obtain ⟨a, vs, rfl, t, rr⟩ := rep_tup_inv r1
    refine ⟨a, rfl, ⟨vs, hK ▸ t.sq⟩, hP1.use Step.refl hS1 ⟨fun ρ' H' S' i s hS' ok hi => ?_, fun ρ' H' S' s hS' ok => ?_, fun ρ' H' S' i x H'' s hS' ok hi y => ?_⟩⟩
    · have hi : i < xs.length := hi
      exact ⟨vs, vs[i]'(by rw [← rr.length]; exact hi), hK ▸ (t.go s).sq, by simp [← rr.length, hi]⟩
    · exact ⟨vs, hK ▸ (t.go s).sq, by rw [rr.length]; exact Nat.le_refl _⟩
    · obtain ⟨rfl, y⟩ := y
      obtain ⟨d, ed, rd⟩ := (Reps.go s xs rr).get' (y vs (hK ▸ (t.go s).sq))
      exact ⟨d, ed, fun _ _ q => q, rd⟩
  · left
    refine ⟨ρ, δ, S, hS, hE, hP.bind fun d S1 e1 ρ1 H1 x s1 hS1 r1 hP1 => ?_⟩
    have nt : ∀ xs, d ≠ .tup xs := fun xs z => ht ⟨xs, S1, by rw [e1, z]⟩
    obtain ⟨k, ek, hP1⟩ := hP1.lift
    obtain ⟨ds, e3, rfl⟩ := Option.map_eq_some_iff.mp ek
    have ok0 : okWk (ds, srcD S1 d, ds) S1 = true := by
      unfold okWk srcD
      cases d with
      | loc n =>
        dsimp only
        have e5 : lstAt S1 n = some ds := e3
        rw [e5]
        exact sames_refl ds
      | _ => rfl
    obtain ⟨a, vs, rfl, h1, rr⟩ := src_list hS1 r1 e3 nt Step.refl.go hS1 ok0
    refine ⟨a, rfl, ⟨vs, hK ▸ h1⟩, hP1.use Step.refl hS1 ⟨fun ρ' H' S' i s hS' ok hi => ?_, fun ρ' H' S' s hS' ok => ?_, fun ρ' H' S' i x H'' s hS' ok hi y => ?_⟩⟩
    · have hi : i < ds.length := hi
      obtain ⟨a', vs', ev, h2, rr2⟩ := src_list hS1 r1 e3 nt s hS' ok
      cases ev
      exact ⟨vs', vs'[i]'(by rw [← rr2.length]; exact hi), hK ▸ h2, by simp [← rr2.length, hi]⟩
    · obtain ⟨a', vs', ev, h2, rr2⟩ := src_list hS1 r1 e3 nt s hS' ok
      cases ev
      exact ⟨vs', hK ▸ h2, by rw [rr2.length]; exact Nat.le_refl _⟩
    · obtain ⟨rfl, y⟩ := y
      obtain ⟨a', vs', ev, h2, rr2⟩ := src_list hS1 r1 e3 nt s hS' ok
      cases ev
      obtain ⟨d', ed, rd⟩ := rr2.get' (y vs' (hK ▸ h2))
      exact ⟨d', ed, fun _ _ q => q, rd⟩
theorem rngD_get : ∀ (n : Nat) (lo : Int) (i : Nat), i < n → (rngD lo n)[i]? = some (.int (lo + i))
  | n + 1, lo, 0, _ => by simp [rngD]
  | n + 1, lo, i + 1, h => by
    rw [rngD, List.getElem?_cons_succ, rngD_get n (lo + 1) i (by omega)]
    congr 2
    omega
theorem rngD_len : ∀ (n : Nat) (lo : Int), (rngD lo n).length = n
  | 0, _ => rfl
  | n + 1, lo => by rw [rngD, List.length_cons, rngD_len n]
theorem wk_range {ρ : Rho} {H : Hp} {lo : Int} {n : Nat} : WkJ M ρ H (rngD lo n, none, []) (Itr lo n) :=
  ⟨fun ρ' H' S' i s hS' ok hi => by have : i < n := by simpa [rngD_len] using hi
                                    exact this, fun ρ' H' S' s hS' ok => by show n ≤ (rngD lo n).length; rw [rngD_len]; exact Nat.le_refl _, fun ρ' H' S' i x H'' s hS' ok hi y => by
    obtain ⟨rfl, rfl⟩ := y
    exact ⟨_, rngD_get n lo i (by simpa [rngD_len] using hi), fun _ _ q => q, rep_int⟩⟩
theorem sI_rng1 {p : Pos} (hg : Gl X "range") (hm : X.mg "range" = none) (ha : PA X [e] (rdA M W fs)) (hs : starEach [e] X.env = [(false, eval e X.env)]) :
    PI X tg (.Call (.Name "range" p) [e] [] pos) (rdI M W fun δ S => (fs δ S).bind fun ds S => if ds.length = 1 then R.lift (rngW ds) S else .stuck) :=
  PI.weak (pi_range1 hg hm ha hs) fun σ H Q ⟨ρ, δ, S, hS, hE, hP⟩ => ⟨ρ, δ, S, hS, hE, hP.bind fun ds S1 e1 ρ1 H1 vs s1 hS1 r1 hP1 => by
    by_cases hl : ds.length = 1
    · rw [if_pos hl] at hP1
      obtain ⟨k, ek, hP1⟩ := hP1.lift
      unfold rngW at ek
      split at ek
      · rename_i n
        by_cases hn : -1000 ≤ n ∧ n ≤ 1000
        · rw [if_pos hn] at ek
          cases ek
          rw [Reps] at r1
          obtain ⟨v, r, rfl, rv, rr⟩ := r1
          rw [Reps] at rr
          subst rr
          rw [rep_int_inv rv]
          exact ⟨n, rfl, by omega, by omega, hP1.use Step.refl hS1 wk_range⟩
        · rw [if_neg hn] at ek; cases ek
      · cases hl
      · cases ek
    · rw [if_neg hl] at hP1; exact hP1.elim⟩
theorem sI_rng2 {e2 : Expr} {p : Pos} (hg : Gl X "range") (hm : X.mg "range" = none) (ha : PA X [e, e2] (rdA M W fs)) (hs : starEach [e, e2] X.env = [(false, eval e X.env), (false, eval e2 X.env)]) (hs2 : starEach [e2] X.env = [(false, eval e2 X.env)]) :
    PI X tg (.Call (.Name "range" p) [e, e2] [] pos) (rdI M W fun δ S => (fs δ S).bind fun ds S => if ds.length = 2 then R.lift (rngW ds) S else .stuck) :=
  PI.weak (pi_range2 hg hm ha hs hs2) fun σ H Q ⟨ρ, δ, S, hS, hE, hP⟩ => ⟨ρ, δ, S, hS, hE, hP.bind fun ds S1 e1 ρ1 H1 vs s1 hS1 r1 hP1 => by
    by_cases hl : ds.length = 2
    · rw [if_pos hl] at hP1
      obtain ⟨k, ek, hP1⟩ := hP1.lift
      unfold rngW at ek
      split at ek
      · cases hl
      · rename_i m n
        by_cases hn : -1000 ≤ m ∧ m ≤ 1000 ∧ -1000 ≤ n ∧ n ≤ 1000
        · rw [if_pos hn] at ek
          cases ek
          rw [Reps] at r1
          obtain ⟨v, r, rfl, rv, rr⟩ := r1
          rw [Reps] at rr
          obtain ⟨v2, r2, rfl, rv2, rr2⟩ := rr
          rw [Reps] at rr2
          subst rr2
          rw [rep_int_inv rv, rep_int_inv rv2]
          exact ⟨m, n, rfl, ⟨by omega, by omega, by omega, by omega⟩, hP1.use Step.refl hS1 wk_range⟩
        · rw [if_neg hn] at ek; cases ek
      · cases ek
    · rw [if_neg hl] at hP1; exact hP1.elim⟩
theorem enumD_get : ∀ (ds : List D) (k : Int) (i : Nat) (d : D), ds[i]? = some d → (enumD k ds)[i]? = some (.tup [.int (k + i), d])
  | [], _, _, _, h => by simp at h
  | x :: ds, k, 0, d, h => by
    have e : x = d := by simpa using h
    simp [enumD, e]
  | x :: ds, k, i + 1, d, h => by
    rw [enumD, List.getElem?_cons_succ, enumD_get ds (k + 1) i d (by simpa using h)]
    congr 4
    omega
theorem enumD_len : ∀ (ds : List D) (k : Int), (enumD k ds).length = ds.length
  | [], _ => rfl
  | d :: ds, k => by rw [enumD, List.length_cons, enumD_len ds, List.length_cons]
/-- a new pair that was given out -/
theorem rep_pair {ρ : Rho} {H : Hp} {S : Sto} {d : D} {x : V} {i : Int} {T : Addr} {o : Obj} (hS : RepSt M ρ H S) (r : Rep M ρ H d x) (hT : H T = none) (ho : o.dict = none) : Rep M ρ (upd H T (.frz o (.tup [.int i, x]))) (.tup [.int i, d]) (.ref T) :=
  (new_tupF hS (.cons rep_int (.one r)) hT ho).2.2
theorem sI_enum {elts : List Expr} {kk : Nat} {tpos p : Pos} (hK : X.K = M.K) (hg : Gl X "enumerate") (hm : X.mg "enumerate" = none) (ha : PA X [e] (rdA M W fs)) (hs : starEach [e] X.env = [(false, eval e X.env)]) :
    PI X (.Tuple elts kk tpos) (.Call (.Name "enumerate" p) [e] [] pos) (rdI M W fun δ S => (fs δ S).bind fun ds S => R.lift (enumW S ds) S) := by
  refine PI.cases (pi_enumL hg hm ha hs) (pi_enumT hg hm ha hs) fun σ H Q ⟨ρ, δ, S, hS, hE, hP⟩ => ?_
  by_cases ht : ∃ xs S1, fs δ S = .ok [.tup xs] S1
  · right
    refine ⟨ρ, δ, S, hS, hE, hP.bind fun ds S1 e1 ρ1 H1 vs s1 hS1 r1 hP1 => ?_⟩
    obtain ⟨xs, S2, e2⟩ := ht
    rw [e1] at e2
    cases e2
    obtain ⟨k, ek, hP1⟩ := hP1.lift
    unfold enumW at ek
    obtain ⟨ds, e3, rfl⟩ := Option.map_eq_some_iff.mp ek
    have e4 : xs = ds := Option.some.inj e3
    subst e4
    rw [Reps] at r1
    obtain ⟨v, r, rfl, rv, rr0⟩ := r1
    rw [Reps] at rr0
    subst rr0
    obtain ⟨a, vs, rfl, t, rr⟩ := rep_tup_inv rv
    refine ⟨a, vs, rfl, hK ▸ t.sq, hP1.use Step.refl hS1 ⟨fun ρ' H' S' i s hS' ok hi => ?_, fun ρ' H' S' s hS' ok => ?_, fun ρ' H' S' i x H'' s hS' ok hi y => ?_⟩⟩
    · have hi : i < xs.length := by simpa [enumD_len] using hi
      exact ⟨vs, vs[i]'(by rw [← rr.length]; exact hi), hK ▸ (t.go s).sq, by simp [← rr.length, hi]⟩
    · exact ⟨vs, hK ▸ (t.go s).sq, by rw [enumD_len, rr.length]; exact Nat.le_refl _⟩
    · obtain ⟨T, x', o, rfl, hT, ho, rfl, y⟩ := y
      have rr' := Reps.go s xs rr
      obtain ⟨d, ed, rd⟩ := rr'.get' (y vs (hK ▸ (t.go s).sq))
      exact ⟨_, enumD_get xs 0 i d ed, upd_keeps hT, rep_pair hS' rd hT ho⟩
  · left
    refine ⟨ρ, δ, S, hS, hE, hP.bind fun ds S1 e1 ρ1 H1 vs s1 hS1 r1 hP1 => ?_⟩
    obtain ⟨k, ek, hP1⟩ := hP1.lift
    unfold enumW at ek
    split at ek
    · rename_i d
      have nt : ∀ xs, d ≠ .tup xs := fun xs z => ht ⟨xs, S1, by rw [e1, z]⟩
      obtain ⟨ds, e3, rfl⟩ := Option.map_eq_some_iff.mp ek
      rw [Reps] at r1
      obtain ⟨v, r, rfl, rv, rr0⟩ := r1
      rw [Reps] at rr0
      subst rr0
      have ok0 : okWk (ds, srcD S1 d, ds) S1 = true := by
        unfold okWk srcD
        cases d with
        | loc n =>
          dsimp only
          have e5 : lstAt S1 n = some ds := e3
          rw [e5]
          exact sames_refl ds
        | _ => rfl
      obtain ⟨a, vs, rfl, h1, rr⟩ := src_list hS1 rv e3 nt Step.refl.go hS1 ok0
      refine ⟨a, vs, rfl, hK ▸ h1, hP1.use Step.refl hS1 ⟨fun ρ' H' S' i s hS' ok hi => ?_, fun ρ' H' S' s hS' ok => ?_, fun ρ' H' S' i x H'' s hS' ok hi y => ?_⟩⟩
      · have hi : i < ds.length := by simpa [enumD_len] using hi
        obtain ⟨a', vs', ev, h2, rr2⟩ := src_list hS1 rv e3 nt s hS' ok
        cases ev
        exact ⟨vs', vs'[i]'(by rw [← rr2.length]; exact hi), hK ▸ h2, by simp [← rr2.length, hi]⟩
      · obtain ⟨a', vs', ev, h2, rr2⟩ := src_list hS1 rv e3 nt s hS' ok
        cases ev
        exact ⟨vs', hK ▸ h2, by rw [enumD_len, rr2.length]; exact Nat.le_refl _⟩
      · obtain ⟨T, x', o, rfl, hT, ho, rfl, y⟩ := y
        obtain ⟨a', vs', ev, h2, rr2⟩ := src_list hS1 rv e3 nt s hS' ok
        cases ev
        obtain ⟨d', ed, rd⟩ := rr2.get' (y vs' (hK ▸ h2))
        refine ⟨_, enumD_get ds 0 i d' ed, upd_keeps hT, ?_⟩
        have e0 : (0 : Int) + (i : Int) = (i : Int) := Int.zero_add _
        rw [e0]
        exact rep_pair hS' rd hT ho
    · cases ek
/-! ### for -/
theorem forL_nil {t : Tg} {b : Env → Sto → Out} {w : Wk} {δ : Env} {S : Sto} : forL t b w [] δ S = if okWk w S then .nxt δ S else .stuck := rfl
theorem forL_cons {t : Tg} {b : Env → Sto → Out} {w : Wk} {d : D} {ds : List D} {δ : Env} {S : Sto} : forL t b w (d :: ds) δ S = if okWk w S then (asgO t d δ S).bind fun δ' S => (b δ' S).bind fun δ'' S' => forL t b w ds δ'' S' else .stuck := by
  rw [forL]
  unfold asgO
  cases asgT S t d δ <;> rfl
theorem sS_for {iter : Expr} {body : List Stmt} {t : Tg} {fw : Env → Sto → R Wk} {g : Env → Sto → Out} (hp : PassesOwn (model X.prog X.w) X.A X.env X.xe) (hc : X.calm = true) (hi : PI X tg iter (rdI M W fw)) (hg : PG X tg (rdG M t)) (hb : PSs X body (rdS M W g))
    (hs : ∀ x, foldedSetIterable iter X.env x = pure x) : PS X (.For tg iter body [] pos) (rdS M W fun δ S => Out.of δ (fw δ S) fun k S => forL t g k k.1 δ S) :=
  PS.weak (ps_for hp hc hi hg hb hs) fun D σ H ⟨ρ, δ, S, hS, hE, hP⟩ => ⟨ρ, δ, S, hS, hE, hP.of hE fun k S1 e1 ρ1 H1 J s1 hS1 r1 hP1 => by
    refine ⟨fun i m σ H' => m = k.1.length - i ∧ i ≤ k.1.length ∧ ∃ ρ' δ' S', Step ρ1 H1 ρ' H' ∧ RepSt M ρ' H' S' ∧ RepE M ρ' H' δ' σ ∧ PostS M W ρ' H' D (forL t g k (k.1.drop i) δ' S'), ⟨k.1.length, by simp, Nat.zero_le _, ρ1, δ, S1, Step.refl, hS1, hE.step s1, by rw [List.drop_zero]; exact hP1⟩, ?_⟩
    rintro i m σ2 H2 ⟨rfl, hi, ρ2, δ2, S2, s2, hS2, hE2, hP2⟩
    by_cases hl : i < k.1.length
    · right
      rw [List.drop_eq_getElem_cons hl, forL_cons] at hP2
      by_cases ok : okWk k S2 = true
      · rw [if_pos ok] at hP2
        refine ⟨r1.go ρ2 H2 S2 i s2.go hS2 ok hl, fun σ' H' => ∃ ρ' δ' S', Step ρ1 H1 ρ' H' ∧ RepSt M ρ' H' S' ∧ RepE M ρ' H' δ' σ' ∧ PostS M W ρ' H' D (forL t g k (k.1.drop (i + 1)) δ' S'), fun σ' H' q => ⟨k.1.length - (i + 1), by omega, rfl, hl, q⟩, fun x H3 y => ?_⟩
        obtain ⟨d, ed, kp, rd⟩ := r1.yld ρ2 H2 S2 i x H3 s2.go hS2 ok hl y
        have ed' : k.1[i] = d := by
          rw [List.getElem?_eq_getElem hl] at ed
          exact Option.some.inj ed
        rw [ed'] at hP2
        obtain ⟨hS3, s3⟩ := hS2.ext kp
        unfold asgO at hP2
        cases e5 : asgT S2 t d δ2 with
        | none => rw [e5] at hP2; exact hP2.elim
        | some δ5 =>
          rw [e5, Out.bind_nxt] at hP2
          refine ⟨ρ2, δ2, S2, d, δ5, hS3, hE2.step s3, rd, e5, fun σ5 hE5 _ => ⟨ρ2, δ5, S2, hS3, hE5, ?_⟩⟩
          cases e6 : g δ5 S2 with
          | nxt δ6 S6 =>
            rw [e6, Out.bind_nxt] at hP2
            exact fun ρ6 H6 σ6 s6 hS6 hE6 => ⟨ρ6, δ6, S6, (s2.trans s3).trans s6, hS6, hE6, hP2.step (s3.trans s6)⟩
          | ret d6 S6 =>
            rw [e6] at hP2
            exact hP2.step s3
          | exc x6 δ6 S6 =>
            rw [e6] at hP2
            exact hP2.step s3
          | stuck => rw [e6] at hP2; exact hP2
      · rw [if_neg ok] at hP2; exact hP2.elim
    · left
      have e : i = k.1.length := by omega
      subst e
      rw [List.drop_length, forL_nil] at hP2
      by_cases ok : okWk k S2 = true
      · rw [if_pos ok] at hP2
        exact ⟨r1.stop ρ2 H2 S2 s2.go hS2 ok, hP2 _ _ _ Step.refl hS2 hE2⟩
      · rw [if_neg ok] at hP2; exact hP2.elim⟩
end
end Py

set_option Elab.async false
set_option linter.all false
set_option maxRecDepth 100000
set_option maxHeartbeats 4000000
/-! Part H: list comprehensions. -/
namespace Py
open PySem PySem.Spec PyProof.Rows L2
abbrev W0 : WX := fun _ _ _ _ => False
theorem wipe_none {σ : L2.St} {i : Nat} : ∀ {vs : List Nat}, i ∈ vs → ∀ x, (wipe σ vs)[i]? ≠ some (some x)
  | [], h, _ => by simp at h
  | v :: vs, h, x => by
    intro e
    obtain ⟨_, n⟩ := wipe_some e
    exact n h
theorem wipe_ext {σ σ' : L2.St} (hl : σ'.length = σ.length) : ∀ {vs : List Nat}, (∀ i, i ∉ vs → σ'[i]? = σ[i]?) → wipe σ' vs = wipe σ vs := by
  intro vs h
  refine List.ext_getElem? fun i => ?_
  by_cases hi : i ∈ vs
  · have h1 := wipe_none (σ := σ) hi
    have h2 := wipe_none (σ := σ') hi
    have l1 : (wipe σ' vs).length = (wipe σ vs).length := by rw [wipe_length, wipe_length, hl]
    cases e1 : (wipe σ vs)[i]? with
    | none =>
      have := List.getElem?_eq_none_iff.mp e1
      exact List.getElem?_eq_none_iff.mpr (by omega)
    | some o =>
      cases o with
      | some x => exact absurd e1 (h1 x)
      | none =>
        cases e2 : (wipe σ' vs)[i]? with
        | none =>
          have := List.getElem?_eq_none_iff.mp e2
          have := (List.getElem?_eq_some_iff.mp e1).1
          omega
        | some o =>
          cases o with
          | some x => exact absurd e2 (h2 x)
          | none => rfl
  · rw [wipe_out hi, wipe_out hi, h i hi]
theorem wipe_idem (σ : L2.St) (vs : List Nat) : wipe (wipe σ vs) vs = wipe σ vs := wipe_ext (wipe_length σ vs) fun i hi => wipe_out hi
theorem wipe_off {σ σ2 : L2.St} {vs l : List Nat} (h : Off l (wipe σ vs) σ2) (sub : ∀ i ∈ l, i ∈ vs) : wipe σ2 vs = wipe σ vs := by
  rw [← wipe_idem σ vs]
  exact wipe_ext h.1 fun i hi => h.2 i fun z => hi (sub i z)
theorem wipeE_get {δ : Env} {d : D} : ∀ {vs : List Nat} {i : Nat}, (wipeE δ vs)[i]? = some (some d) → δ[i]? = some (some d) ∧ i ∉ vs
  | [], i, h => ⟨h, by simp⟩
  | v :: vs, i, h => by
    unfold wipeE at h
    by_cases hi : v = i
    · subst hi
      rw [List.getElem?_set, if_pos rfl] at h
      split at h <;> cases h
    · rw [List.getElem?_set_ne hi] at h
      obtain ⟨h1, h2⟩ := wipeE_get h
      exact ⟨h1, by simp only [List.mem_cons, not_or]; exact ⟨fun e => hi e.symm, h2⟩⟩
theorem wipeE_len (δ : Env) : ∀ vs : List Nat, (wipeE δ vs).length = δ.length
  | [] => rfl
  | v :: vs => by unfold wipeE; rw [List.length_set, wipeE_len δ vs]
theorem RepE.wipe {M : Mo} {ρ : Rho} {H : Hp} {δ : Env} {σ : L2.St} (h : RepE M ρ H δ σ) (vs : List Nat) : RepE M ρ H (wipeE δ vs) (L2.wipe σ vs) := by
  refine ⟨by rw [wipe_length, wipeE_len, h.len], fun i d e => ?_⟩
  obtain ⟨e1, hi⟩ := wipeE_get e
  obtain ⟨v, e2, r⟩ := h.at_ i d e1
  exact ⟨v, by rw [wipe_out hi]; exact e2, r⟩
/-- one item of a comprehension -/
def lcF (vs : List Nat) (t : Tg) (fc : Env → Sto → R Bool) (fe : Env → Sto → R D) (δ : Env) (d : D) (S : Sto) : R (Option D) := match asgT S t d (wipeE δ vs) with
  | some δ' => (fc δ' S).bind fun b S => if b then (fe δ' S).bind fun y S => .ok (some y) S else .ok none S
  | none => .stuck
theorem compL_nil {f : D → Sto → R (Option D)} {w : Wk} {acc : List D} {S : Sto} : compL f w [] acc S = if okWk w S then .ok acc S else .stuck := rfl
theorem compL_cons {f : D → Sto → R (Option D)} {w : Wk} {d : D} {ds acc : List D} {S : Sto} : compL f w (d :: ds) acc S = if okWk w S then (f d S).nox.bind fun o S1 => if acc.length < 10000 then compL f w ds (match o with | some y => acc ++ [y] | none => acc) S1 else .stuck else .stuck := rfl
theorem go_of_step {ρ1 : Rho} {H1 H' : Hp} {l : List Addr} {D : Addr} (s : Step ρ1 H1 ⟨l, ρ1.z⟩ H') (hD : H1 D = none) (nm : D ∉ ρ1) : Go ρ1 H1 ⟨l, D :: ρ1.z⟩ H' :=
  ⟨s.ext, ⟨[D], rfl, fun b hb => by
    have e : b = D := by simpa using hb
    subst e; exact ⟨hD, nm⟩⟩, fun e h => s.keeps e h⟩
section
variable {M : Mo} {X : Cx} {W : WX} {elt tg iter : Expr} {ifs : List Expr} {pos : Pos} {fc : Env → Sto → R Bool} {fe : Env → Sto → R D} {fw : Env → Sto → R Wk}
theorem PTs.weak {t t' : TT} (h : PTs X ifs t) (w : ∀ σ H Q, t' σ H Q → t σ H Q) : PTs X ifs t' := ⟨fun pins s σ H Q I q => h.run pins s σ H Q I (w σ H Q q)⟩
theorem sTs_nil : PTs X [] (rdT M W fun _ S => .ok true S) := PTs.weak pts_nil fun σ H Q ⟨ρ, δ, S, hS, hE, hP⟩ => hP.use (a := true) (x := true) Step.refl hS rfl
theorem sTs_one {c : Expr} {g : Env → Sto → R Bool} (h : PT X c (rdT M W g)) : PTs X [c] (rdT M W g) := pts_one h
/-- the reading of a comprehension, by its meaning -/
theorem lc_of {own : Bool} {vs : List Nat} {t : Tg} {σ : L2.St} {H : Hp} {Q : VK} (sub : ∀ i ∈ t.slots, i ∈ vs)
    (h : rdE M W (fun δ S => (fw δ S).bind fun k S => (compL (lcF vs t fc fe δ) k k.1 [] S).bind fun ds S => newL own ds S) σ H Q) : tLc (rdI M W fw) (rdG M t) (rdT M W0 fc) (rdE M W0 fe) vs σ H Q := by
  obtain ⟨ρ, δ, S, hS, hE, hP⟩ := h
  refine ⟨ρ, δ, S, hS, hE, hP.bind fun k S1 e1 ρ1 H1 J s1 hS1 r1 hP1 => fun D hD => ?_⟩
  have hE1 := hE.step s1
  have nm := hS1.fresh hD
  have nz : D ∉ ρ1.z := fun z => nm (.inr z)
  -- behind i turns: the list so far at D, which no value names
  let Inv' : Nat → Hp → Prop := fun i H' => ∃ (l : List Addr) (S' : Sto) (acc : List Py.D) (vacc : List V), Step ρ1 H1 ⟨l, ρ1.z⟩ H' ∧ RepSt M ⟨l, D :: ρ1.z⟩ H' S' ∧ H' D = some (.lst vacc) ∧ Reps M ⟨l, D :: ρ1.z⟩ H' acc vacc ∧
    Post M W σ ρ1 H1 (Rep M) Q ((compL (lcF vs t fc fe δ) k (k.1.drop i) acc S').bind fun ds S => newL own ds S)
  refine ⟨fun i m H' => m = k.1.length - i ∧ i ≤ k.1.length ∧ Inv' i H', ⟨k.1.length, by simp, Nat.zero_le _, ρ1.l, S1, [], [], ?_, (hS1.more hD).1, upd_same, Reps.nil, ?_⟩, ?_⟩
  · exact ⟨⟨[], by simp, by simp⟩, rfl, fun a o e _ => upd_keeps hD a o e⟩
  · rw [List.drop_zero]
    exact hP1
  · rintro i m H2 ⟨rfl, hi, l, S2, acc, vacc, s2, hS2, hD2, ra, hP2⟩
    have g2 := go_of_step s2 hD nm
    have back : ∀ {H3 : Hp} {S3 : Sto} {l3 : List Addr}, RepSt M ⟨l3, D :: ρ1.z⟩ H3 S3 → RepSt M ⟨l3, ρ1.z⟩ H3 S3 := fun {_ _ l3} h => RepSt.less (ρ := ⟨l3, D :: ρ1.z⟩) (ρ' := ⟨l3, ρ1.z⟩) rfl (fun a q => List.mem_cons_of_mem _ q) h
    by_cases hl : i < k.1.length
    · right
      rw [List.drop_eq_getElem_cons hl, compL_cons] at hP2
      by_cases ok : okWk k S2 = true
      · rw [if_pos ok] at hP2
        refine ⟨r1.go ⟨l, D :: ρ1.z⟩ H2 S2 i g2 hS2 ok hl, Inv' (i + 1), fun H' q => ⟨k.1.length - (i + 1), by omega, rfl, hl, q⟩, fun x H3 y => ?_⟩
        obtain ⟨d, ed, kp, rd⟩ := r1.yld ⟨l, D :: ρ1.z⟩ H2 S2 i x H3 g2 hS2 ok hl y
        have ed' : k.1[i] = d := by
          rw [List.getElem?_eq_getElem hl] at ed
          exact Option.some.inj ed
        rw [ed'] at hP2
        obtain ⟨hS3, s3⟩ := hS2.ext kp
        have g3 := g2.trans s3.go
        -- the step seen from outside
        have out : ∀ {l4 : List Addr} {H4 : Hp}, Step ⟨l, D :: ρ1.z⟩ H2 ⟨l4, D :: ρ1.z⟩ H4 → Step ⟨l, ρ1.z⟩ H2 ⟨l4, ρ1.z⟩ H4 := fun s => by
          obtain ⟨ex, q1, q2⟩ := s.ext
          exact ⟨⟨ex, q1, fun b hb => ⟨(q2 b hb).1, fun z => (q2 b hb).2 (z.elim .inl fun z => .inr (List.mem_cons_of_mem _ z))⟩⟩, rfl, s.keep⟩
        cases e5 : asgT S2 t d (wipeE δ vs) with
        | none =>
          rw [show lcF vs t fc fe δ d S2 = .stuck by unfold lcF; rw [e5]] at hP2
          exact hP2.elim
        | some δ5 =>
          rw [show lcF vs t fc fe δ d S2 = ((fc δ5 S2).bind fun b S => if b then (fe δ5 S).bind fun y S => .ok (some y) S else .ok none S) by unfold lcF; rw [e5]] at hP2
          refine ⟨⟨l, D :: ρ1.z⟩, wipeE δ vs, S2, d, δ5, hS3, (hE1.wipe vs).go g3, rd, e5, fun σ5 hE5 o5 => ⟨wipe_off o5 sub, ?_⟩⟩
          refine ⟨⟨l, D :: ρ1.z⟩, δ5, S2, hS3, hE5, ?_⟩
          cases ec : fc δ5 S2 with
          | stuck => rw [ec] at hP2; exact hP2.elim
          | exc x6 S6 => rw [ec] at hP2; exact hP2.elim
          | ok b S6 =>
            rw [ec, R.bind_ok] at hP2
            intro ρ6 H6 b' s6 hS6 eb
            have eb' : b' = b := eb
            subst eb'
            obtain ⟨l6, z6⟩ := ρ6
            have ez : z6 = D :: ρ1.z := s6.z
            subst ez
            have dl : D ∉ l := (hS2.zs D (List.mem_cons_self ..)).1
            have hD3 : H3 D = some (.lst vacc) := kp D _ hD2
            have hD6 : H6 D = some (.lst vacc) := s6.keep D _ hD3 dl
            cases b' with
            | false =>
              rw [if_neg Bool.false_ne_true] at hP2 ⊢
              rw [R.nox_ok, R.bind_ok] at hP2
              by_cases ha : acc.length < 10000
              · rw [if_pos ha] at hP2
                exact ⟨l6, S6, acc, vacc, s2.trans (out (s3.trans s6)), hS6, hD6, (ra.step s3).step s6, hP2⟩
              · rw [if_neg ha] at hP2; exact hP2.elim
            | true =>
              rw [if_pos rfl] at hP2 ⊢
              refine ⟨⟨l6, D :: ρ1.z⟩, δ5, S6, hS6, hE5.step s6, ?_⟩
              cases ee : fe δ5 S6 with
              | stuck => rw [ee] at hP2; exact hP2.elim
              | exc x7 S7 => rw [ee] at hP2; exact hP2.elim
              | ok yv S7 =>
                rw [ee, R.bind_ok, R.nox_ok, R.bind_ok] at hP2
                by_cases ha : acc.length < 10000
                · rw [if_pos ha] at hP2
                  intro ρ7 H7 v7 s7 hS7 r7
                  obtain ⟨l7, z7⟩ := ρ7
                  have ez : z7 = D :: ρ1.z := s7.z
                  subst ez
                  have dl6 : D ∉ l6 := (hS6.zs D (List.mem_cons_self ..)).1
                  have hD7 : H7 D = some (.lst vacc) := s7.keep D _ hD6 dl6
                  have ra7 := ((ra.step s3).step s6).step s7
                  have s27 := (s3.trans s6).trans s7
                  refine ⟨vacc, hD7, lt_line (by rw [← ra.length]; exact ha), ?_⟩
                  obtain ⟨hS8, g8⟩ := hS7.grow (p := D) (u := .lst (vacc ++ [v7])) (List.mem_cons_self ..)
                  have dl7 : D ∉ l7 := (hS7.zs D (List.mem_cons_self ..)).1
                  have s18 : Step ρ1 H1 ⟨l7, ρ1.z⟩ (upd H7 D (.lst (vacc ++ [v7]))) := by
                    have q := s2.trans (out s27)
                    exact ⟨q.ext, rfl, fun a o e n => by rw [upd_ne (ne_of_none e hD)]; exact q.keep a o e n⟩
                  refine ⟨l7, S7, acc ++ [yv], vacc ++ [v7], s18, hS8, upd_same, (ra7.append (Reps.one r7)).go g8, hP2⟩
                · rw [if_neg ha] at hP2; exact hP2.elim
      · rw [if_neg ok] at hP2; exact hP2.elim
    · left
      have e : i = k.1.length := by omega
      subst e
      rw [List.drop_length, compL_nil] at hP2
      by_cases ok : okWk k S2 = true
      · rw [if_pos ok, R.bind_ok] at hP2
        refine ⟨r1.stop ⟨l, D :: ρ1.z⟩ H2 S2 g2 hS2 ok, ?_⟩
        unfold newL at hP2
        by_cases hz : acc.length ≤ 10000
        · rw [if_pos hz] at hP2
          have dl : D ∉ l := (hS2.zs D (List.mem_cons_self ..)).1
          cases own with
          | false =>
            rw [if_neg Bool.false_ne_true] at hP2
            refine hP2.use s2 (back hS2) ?_
            rw [Rep]
            refine ⟨D, vacc, rfl, ⟨fun z => z.elim dl nz, hD2⟩, Reps.less (ρ := ⟨l, D :: ρ1.z⟩) (ρ' := ⟨l, ρ1.z⟩) (fun n a q => q) (fun a q => q.elim .inl fun z => .inr (List.mem_cons_of_mem _ z)) acc ra⟩
          | true =>
            rw [if_pos rfl] at hP2
            have s9 : Step ρ1 H1 ⟨l ++ [D], ρ1.z⟩ H2 := by
              obtain ⟨ex, q1, q2⟩ := s2.ext
              refine ⟨⟨ex ++ [D], by show l ++ [D] = _; rw [show l = ρ1.l ++ ex from q1, List.append_assoc], fun b hb => ?_⟩, rfl, s2.keep⟩
              rcases List.mem_append.mp hb with q | q
              · exact q2 b q
              · rw [show b = D by simpa using q]; exact ⟨hD, nm⟩
            refine hP2.use s9 (hS2.adopt nz ⟨vacc, hD2, ra⟩) ?_
            rw [Rep]
            have hl2 : l.length = S2.length := hS2.len
            exact ⟨D, by show (l ++ [D])[S2.length]? = some D; rw [← hl2, List.getElem?_append_right (Nat.le_refl _)]; simp, rfl⟩
        · rw [if_neg hz] at hP2; exact hP2.elim
      · rw [if_neg ok] at hP2; exact hP2.elim
theorem sE_lc {own : Bool} {scope : Scope} {ow : List (Str × Nat)} {t : Tg} (hc : X.calm = true) (hN : X.N.Nodup) (hi : PI X tg iter (rdI M W fw)) (ok : BlkOk X.N X.env.scope scope ow) (sub : ∀ i ∈ t.slots, i ∈ ow.map (·.2))
    (hg : ∀ (s : Shared) (H : Hp) (C : Addr) (cl : List (Str × Addr)) (fp : List Addr), PG (X.blk s H scope (compEnvC scope cl C X.env) fp) tg (rdG M t)) (ht : ∀ (s : Shared) (H : Hp) (C : Addr) (cl : List (Str × Addr)) (fp : List Addr), PTs (X.blk s H scope (compEnvC scope cl C X.env) fp) ifs (rdT M W0 fc))
    (he : ∀ (s : Shared) (H : Hp) (C : Addr) (cl : List (Str × Addr)) (fp : List Addr), PE (X.blk s H scope (compEnvC scope cl C X.env) fp) elt (rdE M W0 fe)) (hs : ∀ x, foldedSetIterable iter X.env x = pure x) :
    PE X (.ListComp elt [⟨tg, iter, ifs, 0⟩] scope pos) (rdE M W fun δ S => (fw δ S).bind fun k S => (compL (lcF (ow.map (·.2)) t fc fe δ) k k.1 [] S).bind fun ds S => newL own ds S) :=
  PE.weak (pe_lc hc hN hi ok hg ht he hs) fun σ H Q h => lc_of sub h
theorem sS_lc {own : Bool} {scope : Scope} {ow : List (Str × Nat)} {t : Tg} {i : Nat} {y : Str} {py spos : Pos} (hc : X.calm = true) (hN : X.N.Nodup) (hy : X.N[i]? = some y) (hyl : X.env.scope.names.lookup y = some .local)
    (hsw : swapsWith (.ListComp elt [⟨tg, iter, ifs, 0⟩] scope pos) (some (.Name y py)) spos.line X.env = pure true) (hi : PI X tg iter (rdI M W fw)) (ok : BlkOk X.N X.env.scope scope ow) (sub : ∀ i ∈ t.slots, i ∈ ow.map (·.2))
    (hg : ∀ (s : Shared) (H : Hp) (C : Addr) (cl : List (Str × Addr)) (fp : List Addr), PG (X.blk s H scope (compEnvC scope cl C X.env) fp) tg (rdG M t)) (ht : ∀ (s : Shared) (H : Hp) (C : Addr) (cl : List (Str × Addr)) (fp : List Addr), PTs (X.blk s H scope (compEnvC scope cl C X.env) fp) ifs (rdT M W0 fc))
    (he : ∀ (s : Shared) (H : Hp) (C : Addr) (cl : List (Str × Addr)) (fp : List Addr), PE (X.blk s H scope (compEnvC scope cl C X.env) fp) elt (rdE M W0 fe)) (hs : ∀ x, foldedSetIterable iter X.env x = pure x) :
    PS X (.Assign [.Name y py] (.ListComp elt [⟨tg, iter, ifs, 0⟩] scope pos) spos)
      (rdS M W fun δ S => Out.of δ ((fw δ S).bind fun k S => (compL (lcF (ow.map (·.2)) t fc fe δ) k k.1 [] S).bind fun ds S => newL own ds S) fun d S => asgO (.nm i) d δ S) :=
  PS.weak (ps_setLc hc hN hy hyl hsw hi ok hg ht he hs) fun D σ H ⟨ρ, δ, S, hS, hE, hP⟩ => by
    refine lc_of (M := M) (W := W) (fc := fc) (fe := fe) (fw := fw) (own := own) sub ⟨ρ, δ, S, hS, hE, hP.of hE fun d S1 e1 ρ1 H1 x s1 hS1 r1 hP1 => ?_⟩
    obtain ⟨ρ', δ1, S', d', δ', a1, a2, a3, a4, a5⟩ := asg_of hS1 (hE.step s1) r1 hP1
    rw [asgT] at a4
    by_cases hl : i < δ1.length
    · rw [if_pos hl] at a4
      cases a4
      refine a5 _ (a2.set a3) ⟨by simp, fun j hj => ?_⟩
      rw [List.getElem?_set_ne (fun z => hj (by rw [Tg.slots, ← z]; simp))]
    · rw [if_neg hl] at a4; cases a4
end
end Py

set_option Elab.async false
set_option linter.all false
set_option maxRecDepth 100000
set_option maxHeartbeats 4000000
/-! Part Z: tuple(zip(a, b)) of two tuples. -/
namespace RZ
open PySem PySem.Spec PyProof.Rows L2
open PySem.Sem (wp)
section
variable {prog : Program} {w : World} {A : Around} {E : Value → Shared → Prop} {s : Shared}
theorem nolen_zip : typeLookup (.type "zip") "__len__" = pure none := by rw [typeLookup_type, builtinLookup_eq_fast]; kernel_rfl
theorem nohint_zip : typeLookup (.type "zip") "__length_hint__" = pure none := by rw [typeLookup_type, builtinLookup_eq_fast]; kernel_rfl
theorem zipT_item_h {z TI TO T i1 i2 l1 l2 : Addr} {f : Bool} {oT : Obj} {k1 k2 : Nat} {xs ys : Array Value} {x y : Value} {Q : Option Value → Shared → Prop} (D : ZipApart z TI TO i1 i2 l1 l2)
    (hz : IsZipHeld s.heap z TI TO T f) (hT : s.heap.get? T = some oT) (hTI : IsPair s.heap TI (.ref i1) (.ref i2))
    (h1 : s.heap.IsTupleIter i1 l1 k1) (h2 : s.heap.IsTupleIter i2 l2 k2) (hl1 : s.heap.IsTuple l1 xs) (hl2 : s.heap.IsTuple l2 ys) (hx : xs[k1]? = some x) (hy : ys[k2]? = some y)
    (hQ : ∀ h', IsZipHeld h' z TI TO T true → h'.IsTupleIter i1 l1 (k1 + 1) → h'.IsTupleIter i2 l2 (k2 + 1) → IsPair h' s.heap.objs.size x y → h'.objs.size = s.heap.objs.size + 1 →
      (∀ c o, c ≠ z → c ≠ i1 → c ≠ i2 → s.heap.get? c = some o → h'.get? c = some o) → Q (some (.ref s.heap.objs.size)) { s with heap := h' }) :
    wpAny (model prog w) A (pyNext (.ref z)) Q E s := by
  have hTy : s.TypeIs (.ref z) "zip" := ⟨_, hz, rfl⟩
  unfold pyNext
  refine wpAny_bind (wpAny_attempt (wpAny_callSpecial?_slot (name := Str.ofString "__next__") hTy F.slot_zip_next
    (wpAny_call_entry F.slot_zip_next hTy F.entry_zip_next ?_ (F.args_zip_next_1 _))))
  show wpAny _ _ (field (.ref z) 2 >>= _) _ _ _
  refine wpAny_bind (wpAny_field hz rfl (x := .bool false) rfl ?_)
  show wpAny _ _ (field (.ref z) 3 >>= _) _ _ _
  refine wpAny_bind (wpAny_field hz rfl (x := .ref TI) rfl ?_)
  refine wpAny_bind (wpAny_seqItems hTI rfl ?_)
  show wpAny _ _ (Builtin.SmallTypes.ownedTupleIsFree (.ref z) >>= _) _ _ _
  refine wpAny_bind (wpAny_tupleHeld_zip hz hT fun h₁ hz₁ hs₁ => ?_)
  simp only [Bool.false_eq_true, if_false]
  refine wpAny_bind ?_
  rw [← Array.forIn_toList]
  simp only [List.forIn_cons, List.forIn_nil]
  refine wpAny_bind (wpAny_bind (wpAny_holding ?_))
  show wpAny _ _ (Builtin.SmallTypes.nextOf (.ref i1) >>= _) _ _ _
  refine wpAny_bind (nextOf_tuple_item (s := { s with heap := h₁ }) (h1.extBut hs₁.extBut D.i1z) (hl1.extBut hs₁.extBut D.l1z) hx fun h₂ h1₂ hs₂ => wpAny_pure ?_)
  refine wpAny_pure ?_
  refine wpAny_bind (wpAny_bind (wpAny_holding ?_))
  show wpAny _ _ (Builtin.SmallTypes.nextOf (.ref i2) >>= _) _ _ _
  refine wpAny_bind (nextOf_tuple_item (s := { s with heap := h₂ }) ((h2.extBut hs₁.extBut D.i2z).extBut hs₂.extBut D.i12.symm) ((hl2.extBut hs₁.extBut D.l2z).extBut hs₂.extBut D.l2i1) hy fun h₃ h2₃ hs₃ => wpAny_pure ?_)
  refine wpAny_pure (wpAny_pure ?_)
  show wpAny _ _ (newTuple [x, y] >>= _) _ _ _
  refine wpAny_bind (wpAny_newTuple ?_)
  have hsz : h₃.objs.size = s.heap.objs.size := by rw [hs₃.1, hs₂.1, hs₁.1]
  have hz₃ : IsZipHeld h₃ z TI TO T true := hs₃.extBut _ _ D.i2z.symm (hs₂.extBut _ _ D.i1z.symm hz₁)
  have hk : ∀ c o, c ≠ z → c ≠ i1 → c ≠ i2 → s.heap.get? c = some o → h₃.get? c = some o := fun c o c1 c2 c3 e => hs₃.extBut _ _ c3 (hs₂.extBut _ _ c2 (hs₁.extBut _ _ c1 e))
  have h1₃ : h₃.IsTupleIter i1 l1 (k1 + 1) := h1₂.extBut hs₃.extBut D.i12
  refine wpAny_pure ⟨_, rfl, wpAny_pure ?_⟩
  show Q (some (.ref h₃.objs.size)) _
  have hp : IsPair (h₃.push { cls := .type "tuple", data := .seq #[x, y] }) h₃.objs.size x y := Heap.get?_push_size _ rfl
  have hz4 : (h₃.push { cls := .type "tuple", data := .seq #[x, y] }).objs.size = h₃.objs.size + 1 := Heap.size_push ..
  rw [hsz] at hp hz4 ⊢
  exact hQ _ (Heap.get?_push_of_some _ hz₃) (h1₃.at fun o e => Heap.get?_push_of_some _ e) (h2₃.at fun o e => Heap.get?_push_of_some _ e) hp hz4 fun c o c1 c2 c3 e => Heap.get?_push_of_some _ (hk c o c1 c2 c3 e)
theorem zipT_end_h {z TI TO T i1 i2 l1 l2 : Addr} {f : Bool} {oT : Obj} {k1 k2 : Nat} {xs ys : Array Value} {Q : Option Value → Shared → Prop} (hh : A.handled = none) (D : ZipApart z TI TO i1 i2 l1 l2)
    (hz : IsZipHeld s.heap z TI TO T f) (hT : s.heap.get? T = some oT) (hTI : IsPair s.heap TI (.ref i1) (.ref i2))
    (h1 : s.heap.IsTupleIter i1 l1 k1) (h2 : s.heap.IsTupleIter i2 l2 k2) (hl1 : s.heap.IsTuple l1 xs) (hl2 : s.heap.IsTuple l2 ys) (hend : xs[k1]? = none ∨ ys[k2]? = none)
    (hQ : ∀ h', (∀ c o, c ≠ z → c ≠ i1 → c ≠ i2 → s.heap.get? c = some o → h'.get? c = some o) → Q none { s with heap := h' }) :
    wpAny (model prog w) A (pyNext (.ref z)) Q E s := by
  have hTy : s.TypeIs (.ref z) "zip" := ⟨_, hz, rfl⟩
  unfold pyNext
  refine wpAny_bind (wpAny_attempt (wpAny_callSpecial?_slot (name := Str.ofString "__next__") hTy F.slot_zip_next
    (wpAny_call_entry F.slot_zip_next hTy F.entry_zip_next ?_ (F.args_zip_next_1 _))))
  have fin : ∀ (h' : Heap) (e : Addr), (∀ c o, c ≠ z → c ≠ i1 → c ≠ i2 → s.heap.get? c = some o → h'.get? c = some o) → (∃ o, h'.get? e = some o ∧ o.cls = .type "StopIteration") →
      wpAny (model prog w) A (isInstance (.ref e) (.type "StopIteration") >>= fun b => if b = true then pure none else throw (.ref e)) Q E { s with heap := h' } := fun h' e hk ho => by
    refine wpAny_bind (wpAny_isInstance (T := "StopIteration") (b := true) ho isSubtype_stop ?_)
    exact wpAny_pure (hQ h' hk)
  show wpAny _ _ (field (.ref z) 2 >>= _) _ _ _
  refine wpAny_bind (wpAny_field hz rfl (x := .bool false) rfl ?_)
  show wpAny _ _ (field (.ref z) 3 >>= _) _ _ _
  refine wpAny_bind (wpAny_field hz rfl (x := .ref TI) rfl ?_)
  refine wpAny_bind (wpAny_seqItems hTI rfl ?_)
  show wpAny _ _ (Builtin.SmallTypes.ownedTupleIsFree (.ref z) >>= _) _ _ _
  refine wpAny_bind (wpAny_tupleHeld_zip hz hT fun h₁ hz₁ hs₁ => ?_)
  simp only [Bool.false_eq_true, if_false]
  refine wpAny_bind ?_
  rw [← Array.forIn_toList]
  simp only [List.forIn_cons, List.forIn_nil]
  refine wpAny_bind (wpAny_bind (wpAny_holding ?_))
  show wpAny _ _ (Builtin.SmallTypes.nextOf (.ref i1) >>= _) _ _ _
  cases hx : xs[k1]? with
  | none =>
    refine wpAny_bind (nextOf_tuple_end (s := { s with heap := h₁ }) hh (h1.extBut hs₁.extBut D.i1z) (hl1.extBut hs₁.extBut D.l1z) hx fun h₂ e hs₂ he => ?_)
    exact fin h₂ e (fun c o c1 c2 _ x => hs₂ _ _ c2 (hs₁.extBut _ _ c1 x)) he
  | some x =>
    have hy : ys[k2]? = none := by rcases hend with h | h; rw [hx] at h; cases h; exact h
    refine wpAny_bind (nextOf_tuple_item (s := { s with heap := h₁ }) (h1.extBut hs₁.extBut D.i1z) (hl1.extBut hs₁.extBut D.l1z) hx fun h₂ h1₂ hs₂ => wpAny_pure ?_)
    refine wpAny_pure ?_
    refine wpAny_bind (wpAny_bind (wpAny_holding ?_))
    show wpAny _ _ (Builtin.SmallTypes.nextOf (.ref i2) >>= _) _ _ _
    refine wpAny_bind (nextOf_tuple_end (s := { s with heap := h₂ }) hh ((h2.extBut hs₁.extBut D.i2z).extBut hs₂.extBut D.i12.symm) ((hl2.extBut hs₁.extBut D.l2z).extBut hs₂.extBut D.l2i1) hy fun h₃ e hs₃ he => ?_)
    exact fin h₃ e (fun c o c1 c2 c3 x => hs₃ _ _ c3 (hs₂.extBut _ _ c2 (hs₁.extBut _ _ c1 x))) he
end
end RZ
namespace RZ
open PySem PySem.Spec PyProof.Rows L2
open PySem.Sem (wp)
/-- the zip behind i items -/
structure ZS (z TI TO i1 i2 a b S : Addr) (i : Nat) (h : Heap) : Prop where
  ti : IsPair h TI (.ref i1) (.ref i2)
  it1 : h.IsTupleIter i1 a i
  it2 : h.IsTupleIter i2 b i
  to : ∃ o, h.get? TO = some o
  hz : (IsZip h z TI TO .none ∧ ∃ x y, IsPair h TO x y) ∨ ∃ T f oT, IsZipHeld h z TI TO T f ∧ h.get? T = some oT ∧ T ≠ z ∧ T ≠ i1 ∧ T ≠ i2 ∧ T ≠ S
/-- the pairs made -/
def Prs (H0 : Hp) (xs ys vs : List V) (H : Hp) (i : Nat) : Prop := vs.length = i ∧ ∀ j, j < i → ∃ T x y o, vs[j]? = some (.ref T) ∧ xs[j]? = some x ∧ ys[j]? = some y ∧ H T = some (.frz o (.tup [x, y])) ∧ Obj.dict o = none ∧ H0 T = none
theorem Prs.more {H0 : Hp} {xs ys vs : List V} {H : Hp} {i : Nat} {T : Addr} {x y : V} {o : Obj} (h : Prs H0 xs ys vs H i) (hT : H T = none) (ho : o.dict = none) (h0 : H0 T = none) (hx : xs[i]? = some x) (hy : ys[i]? = some y) : Prs H0 xs ys (vs ++ [.ref T]) (upd H T (.frz o (.tup [x, y]))) (i + 1) := by
  refine ⟨by rw [List.length_append, h.1]; rfl, fun j hj => ?_⟩
  by_cases e : j < i
  · obtain ⟨T', x', y', o', a1, a2, a3, a4, a5, a6⟩ := h.2 j e
    exact ⟨T', x', y', o', by rw [List.getElem?_append_left (by rw [h.1]; exact e)]; exact a1, a2, a3, by rw [upd_ne (ne_of_none a4 hT)]; exact a4, a5, a6⟩
  · have e2 : j = i := by omega
    subst e2
    exact ⟨T, x, y, o, by rw [List.getElem?_append_right (by rw [h.1]; exact Nat.le_refl _), h.1]; simp, hx, hy, upd_same, ho, h0⟩
theorem fpAt {X : Cx} {pins : List (Addr × Obj)} {H H' : Hp} {b : Addr} (h : FpOk X pins H b) (e : H' b = none) : FpOk X pins H' b := ⟨e, h.2⟩
section
variable {X : Cx} {pins : List (Addr × Obj)} {σ : L2.St} {A : Around} {R : Result → Shared → Prop}
theorem ext_zipT {H0 : Hp} (hh : A.in1.handled = none) {z TI TO i1 i2 a b S : Addr} (D : ZipApart z TI TO i1 i2 a b) (hS : S ≠ z ∧ S ≠ TI ∧ S ≠ TO ∧ S ≠ i1 ∧ S ≠ i2 ∧ S ≠ a ∧ S ≠ b) (res : Value) {xs ys : List V} {ia ib : List Value} (ra : Vals xs ia) (rb : Vals ys ib) {n : Nat} (hn : n = min xs.length ys.length) (hz : n ≤ sizeLine) :
    ∀ (k i : Nat) (s : Shared) (H : Hp) (acc : Array Value) (c : Nat) (vs : List V), n - i = k → i ≤ n → Inv X pins σ H s → ZS z TI TO i1 i2 a b S i s.heap → s.heap.get? S = some { cls := .type "list", dict := none, data := .seq acc c, slots := #[] } → Vals vs acc.toList →
      (∀ p o, H0 p = some o → H p = some o) → Prs H0 xs ys vs H i → s.heap.IsTuple a ia.toArray → s.heap.IsTuple b ib.toArray → (∀ c ∈ [z, TI, TO, i1, i2, S], FpOk X pins H c) →
      (∀ s' H' acc' c' vs', Inv X pins σ H' s' → (∀ p o, H p = some o → H' p = some o) → s'.heap.get? S = some { cls := .type "list", dict := none, data := .seq acc' c', slots := #[] } → Vals vs' acc'.toList → Prs H0 xs ys vs' H' n → R (.ok (.ret res)) s') →
      codeAny (model X.prog X.w) A (.builtin "list.extend.loop" ⟨[.ref S, .ref z, res], []⟩) R s := by
  obtain ⟨Sz, STI, STO, Si1, Si2, Sa, Sb⟩ := hS
  have la := ra.length
  have lb := rb.length
  intro k
  induction k with
  | zero =>
    intro i s H acc c vs hk hi I st hSc rv k0 hp hta htb hf hR
    have hin : i = n := by omega
    subst hin
    refine codeAny_builtin F.entry_extend_loop ?_
    rw [Around.under_plainId F.plain_extend_loop _]
    show wpAny _ A.in1 (pyNext (.ref z) >>= _) _ _ s
    have hend : ia.toArray[i]? = none ∨ ib.toArray[i]? = none := by
      rcases Nat.le_total xs.length ys.length with h | h
      · exact .inl (by simp; omega)
      · exact .inr (by simp; omega)
    have fin : ∀ h' : Heap, (∀ p o, p ≠ z → p ≠ TO → p ≠ i1 → p ≠ i2 → s.heap.get? p = some o → h'.get? p = some o) → R (.ok (.ret res)) { s with heap := h' } := fun h' hk =>
      hR _ H acc c vs (I.turnedL (t' := s.toks) (ch := [z, TI, TO, i1, i2, S]) (fun p o hb q => hk p o (fun q' => hb (by simp [q'])) (fun q' => hb (by simp [q'])) (fun q' => hb (by simp [q'])) (fun q' => hb (by simp [q'])) q) hf) (fun _ _ e => e)
        (hk S _ Sz STO Si1 Si2 hSc) rv hp
    rcases st.hz with ⟨hz0, x0, y0, hTO⟩ | ⟨T, f, oT, hz0, hT, r1, r2, r3, r4⟩
    · refine wpAny_bind (pyNext_zipT_end hh D hz0 st.ti hTO st.it1 st.it2 hta htb hend fun h' hk => ?_)
      exact wpAny_pure (fin h' hk)
    · refine wpAny_bind (zipT_end_h hh D hz0 hT st.ti st.it1 st.it2 hta htb hend fun h' hk => ?_)
      exact wpAny_pure (fin h' fun p o c1 _ c3 c4 e => hk p o c1 c3 c4 e)
  | succ k ih =>
    intro i s H acc c vs hk hi I st hSc rv k0 hp hta htb hf hR
    have hlt : i < n := by omega
    have hix : i < xs.length := by omega
    have hiy : i < ys.length := by omega
    have hx : xs[i]? = some xs[i] := List.getElem?_eq_getElem hix
    have hy : ys[i]? = some ys[i] := List.getElem?_eq_getElem hiy
    obtain ⟨u, hu, ru⟩ := ra.get hx
    obtain ⟨u2, hu2, ru2⟩ := rb.get hy
    refine codeAny_builtin F.entry_extend_loop ?_
    rw [Around.under_plainId F.plain_extend_loop _]
    show wpAny _ A.in1 (pyNext (.ref z) >>= _) _ _ s
    have hacc : acc.size = i := by
      have := rv.length
      rw [hp.1] at this
      simpa using this.symm
    have lt : ∀ {c : Addr} {o : Obj}, s.heap.get? c = some o → s.heap.objs.size ≠ c := fun e => Nat.ne_of_gt (Heap.lt_size e)
    have n1 : s.heap.objs.size ≠ i1 := let ⟨_, e, _⟩ := st.it1; lt e
    have n2 : s.heap.objs.size ≠ i2 := let ⟨_, e, _⟩ := st.it2; lt e
    have nS : s.heap.objs.size ≠ S := lt hSc
    have hTn : H s.heap.objs.size = none := I.hok.fresh (Nat.le_refl _)
    have go : ∀ h' : Heap, ZS z TI TO i1 i2 a b S (i + 1) h' → IsPair h' s.heap.objs.size u u2 → h'.objs.size = s.heap.objs.size + 1 →
        (∀ p o, p ≠ z → p ≠ TO → p ≠ i1 → p ≠ i2 → s.heap.get? p = some o → h'.get? p = some o) →
        wpAny (model X.prog X.w) A.in1 (updateSeq S (·.push (.ref s.heap.objs.size)) >>= fun _ => again (.builtin "list.extend.loop" ⟨[.ref S, .ref z, res], []⟩))
          (fun fin s' => match fin with | .done f => R (.ok f) s' | .again c' => c'.quiet = true ∧ codeAny (model X.prog X.w) A c' R s') (fun e s' => R (.error e) s') { s with heap := h' } := fun h' st' hT' hsz hk' => by
      have new : ObjOk X.prog X.w (upd H s.heap.objs.size (.frz { cls := .type "tuple", data := .seq #[u, u2] } (.tup [xs[i], ys[i]]))) h' s.heap.objs.size (.frz { cls := .type "tuple", data := .seq #[u, u2] } (.tup [xs[i], ys[i]])) :=
        ⟨hT', by show 2 ≤ sizeLine; decide, [u, u2], .cons ru (.cons ru2 .nil), ⟨_, hT', rfl, _, rfl⟩⟩
      have I1 : Inv X pins σ (upd H s.heap.objs.size (.frz { cls := .type "tuple", data := .seq #[u, u2] } (.tup [xs[i], ys[i]]))) { s with heap := h' } :=
        I.turnedNew (t' := s.toks) (ch := [z, TI, TO, i1, i2, S]) (fun p o hb q => hk' p o (fun q' => hb (by simp [q'])) (fun q' => hb (by simp [q'])) (fun q' => hb (by simp [q'])) (fun q' => hb (by simp [q'])) q) hf (Nat.le_refl _) new
      have hS' : h'.get? S = some { cls := .type "list", dict := none, data := .seq acc c, slots := #[] } := hk' S _ Sz STO Si1 Si2 hSc
      have hfl : ∀ p ∈ [z, TI, TO, i1, i2, S], p ≠ s.heap.objs.size := fun p hp2 => by
        have e' : p = z ∨ p = TI ∨ p = TO ∨ p = i1 ∨ p = i2 ∨ p = S := by simpa using hp2
        have zl : z ≠ s.heap.objs.size := by
          rcases st.hz with ⟨hz0, _⟩ | ⟨T, f, oT, hz0, _⟩
          · exact (lt hz0).symm
          · exact (lt hz0).symm
        rcases e' with q | q | q | q | q | q
        · rw [q]; exact zl
        · rw [q]; exact (lt st.ti).symm
        · rw [q]; obtain ⟨o, e⟩ := st.to; exact (lt e).symm
        · rw [q]; exact n1.symm
        · rw [q]; exact n2.symm
        · rw [q]; exact nS.symm
      have hf1 : ∀ p ∈ [z, TI, TO, i1, i2, S], FpOk X pins (upd H s.heap.objs.size (.frz { cls := .type "tuple", data := .seq #[u, u2] } (.tup [xs[i], ys[i]]))) p := fun p hp2 => fpAt (hf p hp2) (by rw [upd_ne (hfl p hp2)]; exact (hf p hp2).1)
      refine wpAny_bind ?_
      refine wpAny_updateSeq hS' rfl (wpAny_pure ⟨plainId_quiet F.plain_extend_loop _, ?_⟩) (by rw [hacc]; omega) (by show (acc.push _).size ≤ sizeLine + 1; rw [Array.size_push, hacc]; omega)
      have up : ∀ p o, p ≠ S → h'.get? p = some o → (h'.update S (Obj.mapSeq (·.push (.ref s.heap.objs.size)))).get? p = some o := fun p o hb e => (Heap.get?_update_other _ _ (Ne.symm hb)).trans e
      have I2 := I1.turnedL (t' := s.toks) (ch := [z, TI, TO, i1, i2, S]) (h' := h'.update S (Obj.mapSeq (·.push (.ref s.heap.objs.size)))) (fun p o hb q => up p o (fun q' => hb (by simp [q'])) q) hf1
      refine ih (i + 1) _ _ (acc.push (.ref s.heap.objs.size)) _ (vs ++ [.ref s.heap.objs.size]) (by omega) hlt I2 ⟨up _ _ STI.symm st'.ti, st'.it1.at fun o e => up _ o Si1.symm e, st'.it2.at fun o e => up _ o Si2.symm e, st'.to.imp fun o e => up _ o STO.symm e, ?_⟩ (Heap.get?_update_self _ hS' rfl) ?_ (fun p o e => by rw [upd_ne (ne_of_none (k0 p o e) hTn)]; exact k0 p o e) (hp.more hTn rfl (by cases e0 : H0 s.heap.objs.size with | none => rfl | some o => exact absurd (k0 _ o e0) (by rw [hTn]; exact fun z => nomatch z)) hx hy) ?_ ?_ hf1 fun s' H' acc' c' vs' J kp => hR s' H' acc' c' vs' J fun p o e => kp p o (by rw [upd_ne (ne_of_none e hTn)]; exact e)
      · rcases st'.hz with ⟨q1, x0, y0, q2⟩ | ⟨T, f, oT, q1, q2, r1, r2, r3, r4⟩
        · exact .inl ⟨up _ _ Sz.symm q1, x0, y0, up _ _ STO.symm q2⟩
        · exact .inr ⟨T, f, oT, up _ _ Sz.symm q1, up _ _ r4 q2, r1, r2, r3, r4⟩
      · rw [Array.toList_push]
        exact Vals.append rv (.cons rfl .nil)
      · exact hta.at fun o e => up a o Sa.symm (hk' a o D.l1z D.l1TO D.l1i1 D.l1i2 e)
      · exact htb.at fun o e => up b o Sb.symm (hk' b o D.l2z D.l2TO D.l2i1 D.l2i2 e)
    rcases st.hz with ⟨hz0, x0, y0, hTO⟩ | ⟨T, f, oT, hz0, hT, r1, r2, r3, r4⟩
    · refine wpAny_bind (pyNext_zipT_item D hz0 st.ti hTO st.it1 st.it2 hta htb (x := u) (y := u2) (by simpa using hu) (by simpa using hu2) fun h' z' TO' h1' h2' hT' hsz hk' => ?_)
      exact go h' ⟨hk' _ _ D.TIz D.TITO D.TIi1 D.TIi2 st.ti, h1', h2', ⟨_, TO'⟩, .inr ⟨s.heap.objs.size, false, _, z', hT', lt hz0, n1, n2, nS⟩⟩ hT' hsz hk'
    · refine wpAny_bind (zipT_item_h D hz0 hT st.ti st.it1 st.it2 hta htb (x := u) (y := u2) (by simpa using hu) (by simpa using hu2) fun h' z' h1' h2' hT' hsz hk' => ?_)
      exact go h' ⟨hk' _ _ D.TIz D.TIi1 D.TIi2 st.ti, h1', h2', st.to.imp fun o e => hk' _ o D.TOz D.TOi1 D.TOi2 e, .inr ⟨T, true, oT, z', hk' _ _ r1 r2 r3 hT, r1, r2, r3, r4⟩⟩ hT' hsz fun p o c1 _ c3 c4 e => hk' p o c1 c3 c4 e
end
end RZ
namespace RZ
open PySem PySem.Spec PyProof.Rows L2
open PySem.Sem (wp)
section
variable {X : Cx} {pins : List (Addr × Obj)} {σ : L2.St} {A : Around} {E : Value → Shared → Prop} {s : Shared} {H : Hp}
theorem collect_zipT (hh : A.handled = none) {z TI TO i1 i2 a b : Addr} (D : ZipApart z TI TO i1 i2 a b) {xs ys : List V} {ia ib : List Value} (ra : Vals xs ia) (rb : Vals ys ib) {n : Nat} (hn : n = min xs.length ys.length) (hz : n ≤ sizeLine)
    (I : Inv X pins σ H s) (st : ZS z TI TO i1 i2 a b s.heap.objs.size 0 s.heap) (hzp : IsZip s.heap z TI TO .none) (hta : s.heap.IsTuple a ia.toArray) (htb : s.heap.IsTuple b ib.toArray) (hf : ∀ c ∈ [z, TI, TO, i1, i2], FpOk X pins H c)
    {Q : List Value → Shared → Prop} (hQ : ∀ s' H' us' vs', Inv X pins σ H' s' → (∀ p o, H p = some o → H' p = some o) → Vals vs' us' → Prs H xs ys vs' H' n → Q us' s') :
    wpAny (model X.prog X.w) A (collect (.ref z)) Q E s := by
  have lt : ∀ {c : Addr} {o : Obj}, s.heap.get? c = some o → s.heap.objs.size ≠ c := fun e => Nat.ne_of_gt (Heap.lt_size e)
  have nz : s.heap.objs.size ≠ z := lt hzp
  have nTI := lt st.ti
  have nTO : s.heap.objs.size ≠ TO := let ⟨_, e⟩ := st.to; lt e
  have n1 : s.heap.objs.size ≠ i1 := let ⟨_, e, _⟩ := st.it1; lt e
  have n2 : s.heap.objs.size ≠ i2 := let ⟨_, e, _⟩ := st.it2; lt e
  have na : s.heap.objs.size ≠ a := let ⟨_, e, _⟩ := hta; lt e
  have nb : s.heap.objs.size ≠ b := let ⟨_, e, _⟩ := htb; lt e
  unfold collect
  refine wpAny_bind (wpAny_runValue (codeAny_builtin F.entry_proto_collect ?_))
  rw [Around.under_plainId F.plain_proto_collect _]
  show wpAny _ A.in1 (newList [] >>= fun l' => again (.builtin "list.__iadd__" ⟨[l', .ref z], []⟩)) _ _ s
  refine wpAny_bind (wpAny_newObj_type ?_)
  refine wpAny_pure ⟨plainId_quiet F.plain_list_iadd _, codeAny_builtin F.entry_list_iadd ?_⟩
  rw [Around.under_plainId F.plain_list_iadd _]
  have hS₁ : (s.heap.push { cls := .type "list", data := .seq ([] : List Value).toArray }).get? s.heap.objs.size = some { cls := .type "list", data := .seq ([] : List Value).toArray } := Heap.get?_push_size _ rfl
  have up : ∀ {c : Addr} {o : Obj}, s.heap.get? c = some o → (s.heap.push { cls := .type "list", data := .seq ([] : List Value).toArray }).get? c = some o := fun e => Heap.get?_push_of_some _ e
  have hT : ({ s with heap := s.heap.push { cls := .type "list", data := .seq ([] : List Value).toArray } } : Shared).TypeIs (.ref z) "zip" := ⟨_, up hzp, rfl⟩
  have h1 : Builtin.List.listSameRef (.ref s.heap.objs.size) (.ref z) = false := by simp [Builtin.List.listSameRef, nz]
  have h2 : (Value.type "zip" == Value.type "list") = false := by decide
  have h3 : (Value.type "zip" == Value.type "tuple") = false := by decide
  show wpAny _ A.in1 (Builtin.List.listExtendWith (.ref s.heap.objs.size) (.ref z) (.ref s.heap.objs.size)) _ _ _
  unfold Builtin.List.listExtendWith
  refine wpAny_bind (wpAny_typeOf hT ?_)
  simp only [h1, h2, h3, Bool.or_false, Bool.false_eq_true, if_false]
  refine wpAny_bind (wpAny_pyIter_zip (s := { s with heap := s.heap.push { cls := .type "list", data := .seq ([] : List Value).toArray } }) (up hzp) ?_)
  refine wpAny_bind (wpAny_holding ?_)
  unfold Builtin.List.listLengthHint
  refine wpAny_bind (wpAny_specialOf hT nolen_zip ?_)
  show wpAny _ A.in1 (specialOf (Value.ref z) (Str.ofString "__length_hint__") >>= _) _ _ _
  refine wpAny_bind (wpAny_specialOf hT nohint_zip ?_)
  refine wpAny_pure ?_
  show wpAny _ A.in1 (rule "list.extend.makes-room" >>= fun _ => Builtin.List.listTouch (.ref s.heap.objs.size) >>= fun _ =>
    again (.builtin "list.extend.loop" ⟨[.ref s.heap.objs.size, .ref z, .ref s.heap.objs.size], []⟩)) _ _ _
  refine wpAny_bind (wpAny_rule ?_)
  refine wpAny_bind ?_
  show wpAny _ A.in1 (updateSeq s.heap.objs.size (·.push .none) >>= fun _ => updateSeq s.heap.objs.size (·.pop)) _ _ _
  refine wpAny_bind (wpAny_updateSeq hS₁ rfl ?_)
  have hS₂ := Heap.get?_update_self (Obj.mapSeq (·.push Value.none)) hS₁ rfl
  refine wpAny_updateSeq hS₂ rfl ?_
  have hS₃ := Heap.get?_update_self (Obj.mapSeq (·.pop)) hS₂ rfl
  have oth : ∀ {p : Addr} {o : Obj}, s.heap.get? p = some o →
      (((s.heap.push { cls := .type "list", data := .seq ([] : List Value).toArray }).update s.heap.objs.size (Obj.mapSeq (·.push Value.none))).update s.heap.objs.size (Obj.mapSeq (·.pop))).get? p = some o :=
    fun e => (Heap.get?_update_other _ _ (lt e)).trans ((Heap.get?_update_other _ _ (lt e)).trans (up e))
  have I1 := I.kept (t' := s.toks) (h' := ((s.heap.push { cls := .type "list", data := .seq ([] : List Value).toArray }).update s.heap.objs.size (Obj.mapSeq (·.push Value.none))).update s.heap.objs.size (Obj.mapSeq (·.pop))) fun p o e => oth e
  have hf1 : ∀ c ∈ [z, TI, TO, i1, i2, s.heap.objs.size], FpOk X pins H c := fun c hc => by
    by_cases e : c = s.heap.objs.size
    · rw [e]; exact I.fpOk (Nat.le_refl _) (I.hok.fresh (Nat.le_refl _))
    · have : c = z ∨ c = TI ∨ c = TO ∨ c = i1 ∨ c = i2 ∨ c = s.heap.objs.size := by simpa using hc
      rcases this with q | q | q | q | q | q
      iterate 5 (exact hf c (by simp [q]))
      exact absurd q e
  refine wpAny_pure ⟨plainId_quiet F.plain_extend_loop _, ext_zipT (A := A) hh D ⟨nz, nTI, nTO, n1, n2, na, nb⟩ _ ra rb hn hz n 0 _ H _ _ [] rfl (Nat.zero_le _) I1
    ⟨oth st.ti, st.it1.at fun o e => oth e, st.it2.at fun o e => oth e, st.to.imp fun o e => oth e, ?_⟩ hS₃ .nil (fun _ _ e => e) ⟨rfl, fun j hj => absurd hj (Nat.not_lt_zero _)⟩ (hta.at fun o e => oth e) (htb.at fun o e => oth e) hf1 fun s' H' acc' c' vs' J kp hS' rv hp => ?_⟩
  · rcases st.hz with ⟨q1, x0, y0, q2⟩ | ⟨T, f, oT, q1, q2, r1, r2, r3, r4⟩
    · exact .inl ⟨oth q1, x0, y0, oth q2⟩
    · exact .inr ⟨T, f, oT, oth q1, oth q2, r1, r2, r3, r4⟩
  · show wpAny _ A (load s.heap.objs.size >>= _) _ _ s'
    refine wpAny_bind (wpAny_load hS' ?_)
    exact wpAny_pure (hQ s' H' acc'.toList vs' J kp rv hp)
theorem code_tuple_zipT (hh : A.handled = none) {z TI TO i1 i2 a b : Addr} (D : ZipApart z TI TO i1 i2 a b) {xs ys : List V} {ia ib : List Value} (ra : Vals xs ia) (rb : Vals ys ib) {n : Nat} (hn : n = min xs.length ys.length) (hz : n ≤ sizeLine)
    (I : Inv X pins σ H s) (st : ZS z TI TO i1 i2 a b s.heap.objs.size 0 s.heap) (hzp : IsZip s.heap z TI TO .none) (hta : s.heap.IsTuple a ia.toArray) (htb : s.heap.IsTuple b ib.toArray) (hf : ∀ c ∈ [z, TI, TO, i1, i2], FpOk X pins H c)
    {Q₁ : Value → Shared → Prop} (hQ : ∀ s' H' us' vs', Inv X pins σ H' s' → (∀ p o, H p = some o → H' p = some o) → Vals vs' us' → Prs H xs ys vs' H' n → Q₁ (.ref s'.heap.objs.size) { s' with heap := s'.heap.push { cls := .type "tuple", data := .seq us'.toArray } }) :
    codeAny (model X.prog X.w) A (.call (.builtin "tuple.__new__") ⟨[.type "tuple", .ref z], []⟩) (wants Q₁ E) s := by
  refine codeAny_of_tree ?_
  show wpAny _ A.in1 (do checkBuiltinCall "tuple.__new__" ⟨[.type "tuple", .ref z], []⟩; again (.builtin "tuple.__new__" ⟨[.type "tuple", .ref z], []⟩)) _ _ s
  refine wpAny_bind (wpAny_of_eq (F.newCall_tuple_1 _) (wpAny_pure ⟨plainId_quiet F.plain_tuple_new _, codeAny_builtin F.entry_tuple_new ?_⟩))
  rw [Around.under_plainId F.plain_tuple_new _]
  have hsub := sub_tuple_self
  have hinit := init_tuple_lookup
  have hmh := madeHere_tuple
  have hTI : s.TypeIs (.ref z) "zip" := ⟨_, hzp, rfl⟩
  have hh1 : A.in1.handled = none := hh
  wp_walk using wpAny_typeOf hTI, collect_zipT (A := A.in1) hh1 D ra rb hn hz I st hzp hta htb hf
  intro s' H' us' vs' J kp rv hp
  show wpAny _ _ (Builtin.Tuple.tupleExact us'.toArray >>= fun v => ret v) _ _ _
  unfold Builtin.Tuple.tupleExact
  have hl := rv.length
  rw [hp.1] at hl
  refine wpAny_bind (wpAny_newObj_type ?_ (by show us'.toArray.size ≤ sizeLine; simp only [List.size_toArray]; omega))
  exact wpAny_pure (hQ s' H' us' vs' J kp rv hp)
theorem call_tuple_zipT (hh : A.handled = none) {z TI TO i1 i2 a b : Addr} (D : ZipApart z TI TO i1 i2 a b) {xs ys : List V} {ia ib : List Value} (ra : Vals xs ia) (rb : Vals ys ib) {n : Nat} (hn : n = min xs.length ys.length) (hz : n ≤ sizeLine)
    (I : Inv X pins σ H s) (st : ZS z TI TO i1 i2 a b s.heap.objs.size 0 s.heap) (hzp : IsZip s.heap z TI TO .none) (hta : s.heap.IsTuple a ia.toArray) (htb : s.heap.IsTuple b ib.toArray) (hf : ∀ c ∈ [z, TI, TO, i1, i2], FpOk X pins H c)
    {Q : Value → Shared → Prop} (hQ : ∀ s' H' us' vs', Inv X pins σ H' s' → (∀ p o, H p = some o → H' p = some o) → Vals vs' us' → Prs H xs ys vs' H' n → Q (.ref s'.heap.objs.size) { s' with heap := s'.heap.push { cls := .type "tuple", data := .seq us'.toArray } }) :
    wpAny (model X.prog X.w) A (call (.type "tuple") [.ref z]) Q E s := by
  refine callType_codes (Q₁ := fun obj s₁ => s₁.TypeIs obj "tuple" ∧ Q obj s₁) F.called_tuple (F.typeCall_tuple_1 _) F.entry_object_init
    (code_tuple_zipT (A := A.in1) hh D ra rb hn hz I st hzp hta htb hf fun s' H' us' vs' J kp rv hp => ⟨⟨_, Heap.get?_push_size _ rfl, rfl⟩, hQ s' H' us' vs' J kp rv hp⟩) fun obj s₁ h₁ => ?_
  exact ⟨h₁.1, F.args_object_init_2 obj _, object_init_meets F.called_tuple.init.lookup F.called_tuple.made (by decide) _ _ A.in1 _ s₁ ⟨h₁.1, rfl, h₁.2⟩⟩
end
section
variable {X : Cx}
/-- tuple(zip(a, b)) of two tuples: a new tuple of new pairs -/
def tTZ (K : PySem.W.Frag) (ta : TA) : TE := fun σ H Q => ta σ H fun vs H1 => ∃ a b xs ys, vs = [.ref a, .ref b] ∧ SqT K H1 a xs ∧ SqT K H1 b ys ∧
  ∀ H' ps, (∀ p o, H1 p = some o → H' p = some o) → Prs H1 xs ys ps H' (min xs.length ys.length) → RT.NT H' Q ps
theorem pe_tupZip {e e2 : Expr} {ta : TA} {p p2 pos pos2 : Pos} (hc : X.calm = true) (hg0 : Gl X "tuple") (hm0 : X.mg "tuple" = none) (hg : Gl X "zip") (hm : X.mg "zip" = none) (ha : PA X [e, e2] ta)
    (hs : starEach [e, e2] X.env = (false, eval e X.env) :: starEach [e2] X.env := by rfl) (hpl : (backTo pos2 (starEach [e2] X.env)).any (·.1) = false := by rfl) :
    PE X (.Call (.Name "tuple" p) [.Call (.Name "zip" p2) [e, e2] [] pos2] [] pos) (tTZ X.K ta) := by
  refine ⟨fun pins s σ H Q I h => ?_⟩
  refine Call_ (ld_blt I hg0 hm0 boot_tuple (PyProof.Rows.callWith_type1 ?_ rfl rfl))
  refine args_cons ?_ rfl
  refine Call_ (ld_blt I hg hm PyProof.Rows.boot_zip (PyProof.Rows.callWith_type1 (thn (ha.run pos2 pins s σ H _ I h) fun us s1 ⟨vs, H1, I1, r1, q1⟩ => ?_) hs hpl))
  obtain ⟨a, b, xs, ys, ex, hqx, hqy, q⟩ := q1
  subst ex
  cases r1 with
  | cons r rr =>
    cases rr with
    | cons r' rr =>
      cases rr
      cases r
      cases r'
      have fresh5 : ∀ c, c ∈ [s1.heap.objs.size + 4, s1.heap.objs.size + 2, s1.heap.objs.size + 3, s1.heap.objs.size, s1.heap.objs.size + 1] → FpOk X pins H1 c := fun c hcm => by
        have hle : s1.heap.objs.size ≤ c := by
          have e' : c = s1.heap.objs.size + 4 ∨ c = s1.heap.objs.size + 2 ∨ c = s1.heap.objs.size + 3 ∨ c = s1.heap.objs.size ∨ c = s1.heap.objs.size + 1 := by simpa using hcm
          rcases e' with z | z | z | z | z
          · rw [z]; exact Nat.le_add_right _ _
          · rw [z]; exact Nat.le_add_right _ _
          · rw [z]; exact Nat.le_add_right _ _
          · rw [z]; exact Nat.le_refl _
          · rw [z]; exact Nat.le_add_right _ _
        exact I1.fpOk hle (I1.hok.fresh hle)
      obtain ⟨its, rv, p1, z1⟩ := I1.tuple hqx
      obtain ⟨its2, rv2, p2, z2⟩ := I1.tuple hqy
      obtain ⟨o1, ho1, _⟩ := id p1
      obtain ⟨o2, ho2, _⟩ := id p2
      refine call_zipT (show s1.heap.IsTuple a its.toArray from p1) (show s1.heap.IsTuple b its2.toArray from p2) fun h' hz hTI hTO h1 h2 hsz hk => ?_
      have I2 : Inv X pins σ H1 { s1 with heap := h' } := I1.kept (t' := s1.toks) hk
      refine args_nil ?_
      have D := PySem.W.ktu_apart s1.heap.objs.size a b (Heap.lt_size ho1) (Heap.lt_size ho2)
      refine call_tuple_zipT (A := X.A) (I.ok.hd hc) D rv rv2 rfl (Nat.le_trans (Nat.min_le_left _ _) z1) I2 ⟨hTI, h1, h2, ⟨_, hTO⟩, .inl ⟨hz, _, _, hTO⟩⟩ hz
        (Heap.IsTuple.at p1 fun o e => hk _ o e) (Heap.IsTuple.at p2 fun o e => hk _ o e) fresh5 fun s' H' us' vs' J kp rvs hp => ?_
      have hl : vs'.length ≤ sizeLine := by
        have := hp.1
        have := Nat.min_le_left xs.length ys.length
        omega
      exact RT.laid (k := s'.toks) J rvs hl (q _ _ kp hp)
end
end RZ

set_option Elab.async false
set_option linter.all false
set_option maxRecDepth 100000
set_option maxHeartbeats 4000000
/-! Part I: built-in functions, methods of lists, stores. -/
namespace Py
open PySem PySem.Spec PyProof.Rows L2
section
variable {M : Mo} {ρ : Rho} {H : Hp} {S : Sto}
theorem lseq_read {d : D} {v : V} {ds : List D} (hS : RepSt M ρ H S) (h : Rep M ρ H d v) (e : lseqD S d = some ds) : ∃ a vs, v = .ref a ∧ SqL M.K H a vs ∧ Reps M ρ H ds vs := by
  cases d with
  | lst xs =>
    have e2 : xs = ds := Option.some.inj e
    subst e2
    rw [Rep] at h
    obtain ⟨a, vs, ev, l, r⟩ := h
    exact ⟨a, vs, ev, l.sq, r⟩
  | loc n =>
    rw [Rep] at h
    obtain ⟨a, e1, ev⟩ := h
    obtain ⟨vs, h1, r⟩ := lst_of_at hS e1 e
    exact ⟨a, vs, ev, SqL.of h1, r⟩
  | scr xs =>
    have e2 : xs = ds := Option.some.inj e
    subst e2
    rw [Rep] at h
    obtain ⟨a, vs, ev, l, r⟩ := h
    exact ⟨a, vs, ev, l.sq, r⟩
  | _ => cases e
theorem reps_ints : ∀ {ds : List D} {vs : List V} {is : List Int}, Reps M ρ H ds vs → intsD ds = some is → vs = is.map V.int
  | [], _, is, h, e => by
    rw [Reps] at h; subst h
    rw [intsD] at e; cases e; rfl
  | d :: ds, _, is, h, e => by
    rw [Reps] at h
    obtain ⟨v, r, rfl, h1, h2⟩ := h
    cases d with
    | int i =>
      rw [intsD] at e
      obtain ⟨js, e1, rfl⟩ := Option.map_eq_some_iff.mp e
      rw [rep_int_inv h1, reps_ints h2 e1]; rfl
    | _ => simp [intsD] at e
theorem reps_bools : ∀ {ds : List D} {vs : List V} {bs : List Bool}, Reps M ρ H ds vs → boolsD ds = some bs → vs = bs.map V.bl
  | [], _, is, h, e => by
    rw [Reps] at h; subst h
    rw [boolsD] at e; cases e; rfl
  | d :: ds, _, is, h, e => by
    rw [Reps] at h
    obtain ⟨v, r, rfl, h1, h2⟩ := h
    cases d with
    | bl i =>
      rw [boolsD] at e
      obtain ⟨js, e1, rfl⟩ := Option.map_eq_some_iff.mp e
      rw [rep_bl_inv h1, reps_bools h2 e1]; rfl
    | _ => simp [boolsD] at e
theorem foldl_min : ∀ (is : List Int) (i : Int), is.foldl (fun a b => if b < a then b else a) i ∈ i :: is ∧ ∀ y ∈ i :: is, is.foldl (fun a b => if b < a then b else a) i ≤ y
  | [], i => ⟨by simp, by simp⟩
  | j :: is, i => by
    obtain ⟨h1, h2⟩ := foldl_min is (if j < i then j else i)
    refine ⟨?_, fun y hy => ?_⟩
    · rw [List.foldl_cons]
      rcases List.mem_cons.mp h1 with q | q
      · rw [q]; split <;> simp
      · exact List.mem_cons_of_mem _ (List.mem_cons_of_mem _ q)
    · rw [List.foldl_cons]
      have h0 := h2 (if j < i then j else i) (List.mem_cons_self ..)
      rcases List.mem_cons.mp hy with q | q
      · subst q; refine Int.le_trans h0 ?_; split <;> omega
      · rcases List.mem_cons.mp q with q | q
        · subst q; refine Int.le_trans h0 ?_; split <;> omega
        · exact h2 y (List.mem_cons_of_mem _ q)
theorem minL_of {is : List Int} {m n : Int} (e : minL is = some n) (h1 : m ∈ is) (h2 : ∀ y, y ∈ is → m ≤ y) : m = n := by
  cases is with
  | nil => cases e
  | cons i is =>
    have e' := Option.some.inj e
    obtain ⟨g1, g2⟩ := foldl_min is i
    rw [e'] at g1 g2
    exact Int.le_antisymm (h2 n g1) (g2 m h1)
theorem reps_one {d : D} {vs : List V} (h : Reps M ρ H [d] vs) : ∃ v, vs = [v] ∧ Rep M ρ H d v := by
  rw [Reps] at h
  obtain ⟨v, r, rfl, h1, h2⟩ := h
  rw [Reps] at h2
  subst h2
  exact ⟨v, rfl, h1⟩
theorem reps_two {d e : D} {vs : List V} (h : Reps M ρ H [d, e] vs) : ∃ v w, vs = [v, w] ∧ Rep M ρ H d v ∧ Rep M ρ H e w := by
  rw [Reps] at h
  obtain ⟨v, r, rfl, h1, h2⟩ := h
  obtain ⟨w, rfl, h3⟩ := reps_one h2
  exact ⟨v, w, rfl, h1, h3⟩
end
def rMinS (K : PySem.W.Frag) : List V → Hp → VK → Prop := fun vs H Q => ∃ (a : Addr) (ns : List Int), vs = [V.ref a] ∧ (SqL K H a (ns.map V.int) ∨ SqT K H a (ns.map V.int)) ∧ 0 < ns.length ∧ ∀ m, m ∈ ns → (∀ y, y ∈ ns → m ≤ y) → Q (.int m) H
theorem fold_min_le : ∀ (ns : List Int) (n : Int), ns.foldl min n ∈ n :: ns ∧ ∀ y ∈ n :: ns, ns.foldl min n ≤ y
  | [], n => ⟨by simp, by simp⟩
  | j :: ns, n => by
    obtain ⟨h1, h2⟩ := fold_min_le ns (min n j)
    rw [List.foldl_cons]
    refine ⟨?_, fun y hy => ?_⟩
    · rcases List.mem_cons.mp h1 with q | q
      · rw [q]
        rcases Int.le_total n j with h | h
        · rw [Int.min_eq_left h]; simp
        · rw [Int.min_eq_right h]; simp
      · exact List.mem_cons_of_mem _ (List.mem_cons_of_mem _ q)
    · have h0 := h2 (min n j) (List.mem_cons_self ..)
      rcases List.mem_cons.mp hy with q | q
      · subst q; exact Int.le_trans h0 (Int.min_le_left _ _)
      · rcases List.mem_cons.mp q with q | q
        · subst q; exact Int.le_trans h0 (Int.min_le_right _ _)
        · exact h2 y (List.mem_cons_of_mem _ q)
theorem cr_minS {X : Cx} (hc : X.calm = true) (hu : X.A.units + 65 < cLine) : CallR X (.builtin "min") (rMinS X.K) := by
  intro pins s σ H vs us Q I r h
  obtain ⟨a, ns, rfl, hs, hne, q⟩ := h
  rcases hs with hs | hs
  · exact cr_min hc pins s σ H _ us Q I r ⟨a, ns, rfl, hs, hne, q⟩
  · obtain ⟨its, rv, hl, _⟩ := I.tuple hs
    rw [Vals.ref1 r]
    cases ns with
    | nil => simp at hne
    | cons n ns =>
      have hi := rv.ints
      obtain ⟨as, ra⟩ := PySem.W.HoldAll.of_ints (h := s.heap) hi
      refine PySem.W.min_tuple_data (I.ok.hd hc) hl (vs := its.toArray) (x := .int n) (xs := ns.map .int) (by rw [List.toList_toArray]; exact ra) (PySem.W.alikeAll_datum (n :: ns)) (by
        have : PyData.depthAll ((PyData.int n) :: ns.map .int) ≤ 0 := PySem.W.depthAll_map (n :: ns)
        omega) fun i v h' tk bs hi2 rd hk => ?_
      rw [PySem.W.minD_ints] at rd
      obtain ⟨m1, m2⟩ := fold_min_le ns n
      cases rd
      exact ⟨.int _, H, I.kept hk, ⟨_, rfl⟩, q _ m1 m2⟩
/-- the reading of a built-in function -/
def rBi (M : Mo) (b : Bi) : List V → Hp → VK → Prop := fun vs H Q => ∃ ρ S ds d, RepSt M ρ H S ∧ Reps M ρ H ds vs ∧ biD S b ds = some d ∧ ∀ H' v, Step ρ H ρ H' → RepSt M ρ H' S → Rep M ρ H' d v → Q v H'
def biV : Bi → Value
  | .len => .builtin "len" | .abs => .builtin "abs" | .int => .type "int" | .min1 => .builtin "min" | .min2 => .builtin "min" | .max2 => .builtin "max" | .sum => .builtin "sum" | .any => .builtin "any" | .all => .builtin "all" | .tuple => .type "tuple"
def biN : Bi → Str
  | .len => "len" | .abs => "abs" | .int => "int" | .min1 => "min" | .min2 => "min" | .max2 => "max" | .sum => "sum" | .any => "any" | .all => "all" | .tuple => "tuple"
section
variable {M : Mo} {X : Cx}
theorem CallR.weak {f : Value} {r r' : List V → Hp → VK → Prop} (h : CallR X f r) (w : ∀ xs H Q, r' xs H Q → r xs H Q) : CallR X f r' := fun pins s σ H xs us Q I rs q => h pins s σ H xs us Q I rs (w xs H Q q)
/-- the arguments: one, or two ints -/
theorem bi_args {b : Bi} {S : Sto} {ds : List D} {d : D} {ρ : Rho} {H : Hp} {vs : List V} (r : Reps M ρ H ds vs) (e : biD S b ds = some d) :
    (∃ x v, vs = [v] ∧ Rep M ρ H x v ∧ bi1 S b x = some d) ∨ ∃ i j, vs = [.int i, .int j] ∧ bi2 b (.int i) (.int j) = some d := by
  rcases ds with _ | ⟨x, _ | ⟨y, _ | ⟨z, zs⟩⟩⟩
  · cases e
  · obtain ⟨v, rfl, rv⟩ := reps_one r
    exact .inl ⟨x, v, rfl, rv, e⟩
  · obtain ⟨v, w, rfl, r1, r2⟩ := reps_two r
    have e' : bi2 b x y = some d := e
    cases x <;> cases y <;> first | cases e' | exact .inr ⟨_, _, by rw [rep_int_inv r1, rep_int_inv r2], e'⟩
  · cases e
theorem bi_args1 {b : Bi} {S : Sto} {ds : List D} {d : D} {ρ : Rho} {H : Hp} {vs : List V} (r : Reps M ρ H ds vs) (e : biD S b ds = some d) (hb : b ≠ .min2 ∧ b ≠ .max2) : ∃ x v, vs = [v] ∧ Rep M ρ H x v ∧ bi1 S b x = some d := by
  rcases bi_args r e with h | ⟨i, j, _, h⟩
  · exact h
  · cases b <;> first | exact absurd rfl hb.1 | exact absurd rfl hb.2 | cases h
theorem bi_args2 {b : Bi} {S : Sto} {ds : List D} {d : D} {ρ : Rho} {H : Hp} {vs : List V} (r : Reps M ρ H ds vs) (e : biD S b ds = some d) (hb : b = .min2 ∨ b = .max2) : ∃ i j, vs = [.int i, .int j] ∧ bi2 b (.int i) (.int j) = some d := by
  rcases bi_args r e with ⟨x, v, _, _, h⟩ | h
  · rcases hb with rfl | rfl <;> cases h
  · exact h
theorem lenD_ns {S : Sto} {d : D} (h : ∀ s, d ≠ .str s) : lenD S d = (seqD S d).map fun ds => .int ds.length := by
  cases d <;> first | rfl | exact absurd rfl (h _)
theorem bi_len (hK : X.K = M.K) : CallR X (biV .len) (rBi M .len) := by
  refine CallR.weak call_len fun vs H Q ⟨ρ, S, ds, d, hS, r, e, q⟩ => ?_
  obtain ⟨x, v, rfl, rv, e⟩ := bi_args1 r e (by decide)
  have e : lenD S x = some d := e
  have seq : ∀ ls, seqD S x = some ls → d = .int ls.length → ∃ y n, [v] = [y] ∧ LenV X.K y H n ∧ Q (.int n) H := fun ls e1 ed => by
    obtain ⟨a, vs, rfl, hs, rr⟩ := seq_read hS rv e1
    refine ⟨.ref a, ls.length, rfl, ?_, q _ _ Step.refl hS (by rw [ed]; exact rep_int)⟩
    rcases hs with hs | hs
    · exact .inl ⟨vs, hK ▸ hs, rr.length⟩
    · exact .inr ⟨vs, hK ▸ hs, rr.length⟩
  cases x with
  | str s =>
    unfold lenD at e
    dsimp only at e
    by_cases hl : s.length ≤ 10000
    · rw [if_pos hl] at e; cases e
      rw [rep_str_inv rv]
      exact ⟨_, s.length, rfl, ⟨le_line hl, rfl⟩, q _ _ Step.refl hS rep_int⟩
    · rw [if_neg hl] at e; cases e
  | _ =>
    rw [lenD_ns (fun s z => by cases z)] at e
    obtain ⟨ls, e1, e2⟩ := Option.map_eq_some_iff.mp e
    exact seq ls e1 e2.symm
theorem bi_ints1 {f : List Int → Option D} {S : Sto} {x d : D} {v : V} {ρ : Rho} {H : Hp} (hS : RepSt M ρ H S) (rv : Rep M ρ H x v) (e : ((lseqD S x).bind fun ds => (intsD ds).bind f) = some d) :
    ∃ a is, v = .ref a ∧ SqL M.K H a (is.map V.int) ∧ f is = some d := by
  cases e1 : lseqD S x with
  | none => rw [e1] at e; cases e
  | some ls =>
    rw [e1, Option.bind_some] at e
    cases e2 : intsD ls with
    | none => rw [e2] at e; cases e
    | some is =>
      rw [e2, Option.bind_some] at e
      obtain ⟨a, vs, rfl, hs, rr⟩ := lseq_read hS rv e1
      rw [reps_ints rr e2] at hs
      exact ⟨a, is, rfl, hs, e⟩
theorem bi_bools1 {f : List Bool → D} {S : Sto} {x d : D} {v : V} {ρ : Rho} {H : Hp} (hS : RepSt M ρ H S) (rv : Rep M ρ H x v) (e : ((lseqD S x).bind fun ds => (boolsD ds).map f) = some d) :
    ∃ a bs, v = .ref a ∧ SqL M.K H a (bs.map V.bl) ∧ f bs = d := by
  cases e1 : lseqD S x with
  | none => rw [e1] at e; cases e
  | some ls =>
    rw [e1, Option.bind_some] at e
    obtain ⟨is, e2, e3⟩ := Option.map_eq_some_iff.mp e
    obtain ⟨a, vs, rfl, hs, rr⟩ := lseq_read hS rv e1
    rw [reps_bools rr e2] at hs
    exact ⟨a, is, rfl, hs, e3⟩
theorem bi_intsS {f : List Int → Option D} {S : Sto} {x d : D} {v : V} {ρ : Rho} {H : Hp} (hS : RepSt M ρ H S) (rv : Rep M ρ H x v) (e : ((seqD S x).bind fun ds => (intsD ds).bind f) = some d) :
    ∃ a is, v = .ref a ∧ (SqL M.K H a (is.map V.int) ∨ SqT M.K H a (is.map V.int)) ∧ f is = some d := by
  cases e1 : seqD S x with
  | none => rw [e1] at e; cases e
  | some ls =>
    rw [e1, Option.bind_some] at e
    cases e2 : intsD ls with
    | none => rw [e2] at e; cases e
    | some is =>
      rw [e2, Option.bind_some] at e
      obtain ⟨a, vs, rfl, hs, rr⟩ := seq_read hS rv e1
      rw [reps_ints rr e2] at hs
      exact ⟨a, is, rfl, hs, e⟩
theorem biR (hK : X.K = M.K) (hc : X.calm = true) (hu : X.A.units + 65 < cLine) (b : Bi) : CallR X (biV b) (rBi M b) := by
  cases b with
  | len => exact bi_len hK
  | abs =>
    refine CallR.weak call_abs fun vs H Q ⟨ρ, S, ds, d, hS, r, e, q⟩ => ?_
    obtain ⟨x, v, rfl, rv, e⟩ := bi_args1 r e (by decide)
    have e : absD x = some d := e
    cases x <;> cases e
    exact ⟨_, by rw [rep_int_inv rv], q _ _ Step.refl hS rep_int⟩
  | int =>
    refine CallR.weak call_int1 fun vs H Q ⟨ρ, S, ds, d, hS, r, e, q⟩ => ?_
    obtain ⟨x, v, rfl, rv, e⟩ := bi_args1 r e (by decide)
    have e : intD x = some d := e
    cases x <;> cases e
    exact .inl ⟨_, by rw [rep_int_inv rv], q _ _ Step.refl hS rep_int⟩
  | min1 =>
    refine CallR.weak (cr_minS hc hu) fun vs H Q ⟨ρ, S, ds, d, hS, r, e, q⟩ => ?_
    obtain ⟨x, v, rfl, rv, e⟩ := bi_args1 r e (by decide)
    obtain ⟨a, is, rfl, hs, e2⟩ := bi_intsS hS rv e
    obtain ⟨m, e3, rfl⟩ := Option.map_eq_some_iff.mp e2
    exact ⟨a, is, rfl, hK ▸ hs, by cases is with | nil => cases e3 | cons _ _ => simp, fun m' h1 h2 => by rw [minL_of e3 h1 h2]; exact q _ _ Step.refl hS rep_int⟩
  | min2 =>
    refine CallR.weak (call_min2 hc) fun vs H Q ⟨ρ, S, ds, d, hS, r, e, q⟩ => ?_
    obtain ⟨i, j, rfl, e⟩ := bi_args2 r e (by decide)
    cases e
    exact ⟨i, j, rfl, q _ _ Step.refl hS rep_int⟩
  | max2 =>
    refine CallR.weak (call_max2 hc) fun vs H Q ⟨ρ, S, ds, d, hS, r, e, q⟩ => ?_
    obtain ⟨i, j, rfl, e⟩ := bi_args2 r e (by decide)
    cases e
    exact ⟨i, j, rfl, q _ _ Step.refl hS rep_int⟩
  | sum =>
    refine CallR.weak (cr_sum hc) fun vs H Q ⟨ρ, S, ds, d, hS, r, e, q⟩ => ?_
    obtain ⟨x, v, rfl, rv, e⟩ := bi_args1 r e (by decide)
    obtain ⟨a, is, rfl, hs, e2⟩ := bi_ints1 hS rv e
    cases e2
    exact ⟨a, is, rfl, hK ▸ hs, q _ _ Step.refl hS rep_int⟩
  | any =>
    refine CallR.weak (cr_any hc) fun vs H Q ⟨ρ, S, ds, d, hS, r, e, q⟩ => ?_
    obtain ⟨x, v, rfl, rv, e⟩ := bi_args1 r e (by decide)
    obtain ⟨a, is, rfl, hs, e2⟩ := bi_bools1 hS rv e
    exact ⟨a, is, rfl, hK ▸ hs, q _ _ Step.refl hS (by rw [← e2]; exact rep_bl)⟩
  | all =>
    refine CallR.weak (cr_all hc) fun vs H Q ⟨ρ, S, ds, d, hS, r, e, q⟩ => ?_
    obtain ⟨x, v, rfl, rv, e⟩ := bi_args1 r e (by decide)
    obtain ⟨a, is, rfl, hs, e2⟩ := bi_bools1 hS rv e
    exact ⟨a, is, rfl, hK ▸ hs, q _ _ Step.refl hS (by rw [← e2]; exact rep_bl)⟩
  | tuple =>
    refine CallR.weak RT.call_tupF fun vs H Q ⟨ρ, S, ds, d, hS, r, e, q⟩ => ?_
    obtain ⟨x, v, rfl, rv, e⟩ := bi_args1 r e (by decide)
    have e' : (seqD S x).map (fun ds => D.tup ds) = some d := e
    obtain ⟨ls, e1, rfl⟩ := Option.map_eq_some_iff.mp e'
    have ll : ∀ a vs, v = .ref a → SqL M.K H a vs → Reps M ρ H ls vs → ∃ p ys, [v] = [V.ref p] ∧ ((SqL X.K H p ys ∧ RT.NT H Q ys) ∨ (SqT X.K H p ys ∧ Q (.ref p) H)) := fun a vs ea hs rr => by
      refine ⟨a, vs, by rw [ea], .inl ⟨hK ▸ hs, fun p o hp ho => ?_⟩⟩
      obtain ⟨s2, hS2, r2⟩ := new_tupF hS rr hp ho
      exact q _ _ s2 hS2 r2
    cases x with
    | tup xs =>
      have e2 : xs = ls := Option.some.inj e1
      subst e2
      obtain ⟨a, vs, rfl, t, rr⟩ := rep_tup_inv rv
      exact ⟨a, vs, rfl, .inr ⟨hK ▸ t.sq, q _ _ Step.refl hS rv⟩⟩
    | lst xs =>
      obtain ⟨a, vs, ea, hs, rr⟩ := lseq_read hS rv (ds := ls) e1
      exact ll a vs ea hs rr
    | loc xs =>
      obtain ⟨a, vs, ea, hs, rr⟩ := lseq_read hS rv (ds := ls) e1
      exact ll a vs ea hs rr
    | scr xs =>
      obtain ⟨a, vs, ea, hs, rr⟩ := lseq_read hS rv (ds := ls) e1
      exact ll a vs ea hs rr
    | _ => cases e1
theorem boot_bi (b : Bi) : bootBuiltins (biN b) = some (biV b) := by
  cases b <;> first | exact PyProof.Rows.boot_len | (unfold biN biV; decide +kernel) | (unfold biN biV; kernel_rfl)
end
end Py

set_option Elab.async false
set_option linter.all false
set_option maxRecDepth 100000
set_option maxHeartbeats 4000000
/-! Part J: the rules of built-in calls, methods of lists, stores. -/
namespace Py
open PySem PySem.Spec PyProof.Rows L2
/-- a name of a built-in thing that nobody has bound -/
structure Blt (X : Cx) (x : Str) : Prop where
  gl : Gl X x
  mg : X.mg x = none
section
variable {M : Mo} {X : Cx} {W : WX} {a b e o : Expr} {es : List Expr} {pos p apos : Pos} {fa fb fo : Env → Sto → R D} {fs : Env → Sto → R (List D)}
theorem bi_of {bt : Bi} {σ : L2.St} {H : Hp} {Q : VK} (h : rdE M W (fun δ S => (fs δ S).bind fun ds S => R.lift (biD S bt ds) S) σ H Q) : tCB (rBi M bt) (rdA M W fs) σ H Q := by
  obtain ⟨ρ, δ, S, hS, hE, hP⟩ := h
  exact ⟨ρ, δ, S, hS, hE, hP.bind fun ds S1 e1 ρ1 H1 vs s1 hS1 r1 hP1 => by
    obtain ⟨d, ed, hP1⟩ := hP1.lift
    exact ⟨ρ1, S1, ds, d, hS1, r1, ed, fun H' v s h r => hP1.use s h r⟩⟩
theorem sE_bi {bt : Bi} (hK : X.K = M.K) (hc : X.calm = true) (hu : X.A.units + 65 < cLine) (hb : Blt X (biN bt)) (ha : PA X (e :: es) (rdA M W fs))
    (he : starEach (e :: es) X.env = (false, eval e X.env) :: starEach es X.env) (hpl : (backTo pos (starEach es X.env)).any (·.1) = false) :
    PE X (.Call (.Name (biN bt) p) (e :: es) [] pos) (rdE M W fun δ S => (fs δ S).bind fun ds S => R.lift (biD S bt ds) S) := by
  have hR := biR hK hc hu bt
  have hv := boot_bi bt
  refine PE.weak (?_ : PE X _ (tCB (rBi M bt) (rdA M W fs))) fun σ H Q h => bi_of h
  cases bt <;> first
    | exact pe_callB hR hb.gl hb.mg hv ha (by decide) (by decide) he hpl
    | exact pe_callTy hR hb.gl hb.mg hv ha (by decide) (by decide) he hpl
/-- list(x) -/
theorem sE_lof {own : Bool} (hK : X.K = M.K) (hb : Blt X "list") (ha : PE X e (rdE M W fa)) (he : starEach [e] X.env = (false, eval e X.env) :: starEach [] X.env) (hpl : (backTo pos (starEach [] X.env)).any (·.1) = false) :
    PE X (.Call (.Name "list" p) [e] [] pos) (rdE M W fun δ S => (fa δ S).bind fun d S => (R.lift (seqD S d) S).bind fun ds S => newL own ds S) := by
  refine PE.weak (pe_callTy call_list_of hb.gl hb.mg (by decide +kernel) (sA_cons ha sA_nil he) (by decide) (by decide) he hpl) fun σ H Q ⟨ρ, δ, S, hS, hE, hP⟩ => ⟨ρ, δ, S, hS, hE, ?_⟩
  show Post M W σ ρ H (Reps M) _ ((fa δ S).bind fun d S => (R.ok [] S).bind fun ds S => R.ok (d :: ds) S)
  have : ((fa δ S).bind fun d S => (R.ok [] S).bind fun ds S => R.ok (d :: ds) S) = (fa δ S).bind fun d S => R.ok [d] S := by cases fa δ S <;> rfl
  rw [this]
  dsimp only at hP
  cases ef : fa δ S with
  | stuck => rw [ef] at hP; exact hP.elim
  | exc x S1 => rw [ef] at hP; exact hP
  | ok d S1 =>
    rw [ef, R.bind_ok] at hP
    rw [R.bind_ok]
    intro ρ1 H1 vs s1 hS1 r1
    obtain ⟨v, rfl, rv⟩ := reps_one r1
    cases e1 : seqD S1 d with
    | none => rw [e1] at hP; exact hP.elim
    | some ds =>
      rw [e1, R.lift_some, R.bind_ok] at hP
      obtain ⟨a, vs, rfl, hs, rr⟩ := seq_read hS1 rv e1
      exact ⟨a, vs, rfl, hK ▸ hs, (post_newL hS1 rr (hP.step s1)).2⟩
theorem reps_rng {ρ : Rho} {H : Hp} : ∀ (n : Nat) (lo : Int), Reps M ρ H (rngD lo n) ((List.range n).map fun i => V.int (lo + (i : Nat)))
  | 0, lo => by simp [rngD, Reps]
  | n + 1, lo => by
    rw [rngD, List.range_succ_eq_map, List.map_cons, List.map_map]
    refine Reps.cons (by rw [show lo + ((0 : Nat) : Int) = lo by omega]; exact rep_int) ?_
    have h := reps_rng (ρ := ρ) (H := H) n (lo + 1)
    have e : ((fun i : Nat => V.int (lo + (i : Nat))) ∘ Nat.succ) = fun i : Nat => V.int (lo + 1 + (i : Nat)) := by
      funext i
      simp only [Function.comp]
      rw [show lo + ((Nat.succ i : Nat) : Int) = lo + 1 + (i : Nat) by omega]
    rw [e]; exact h
theorem post_rg {σ : L2.St} {ρ : Rho} {H : Hp} {S : Sto} {own : Bool} {a b : Int} {Q : VK} (hS : RepSt M ρ H S) (hP : Post M W σ ρ H (Rep M) Q (newL own (rngD a (b - a).toNat) S)) :
    ∀ p, H p = none → Q (.ref p) (upd H p (.lst (rgV a b))) := (post_newL hS (reps_rng (b - a).toNat a) hP).2
theorem len_rng : ∀ (n : Nat) (lo : Int), (rngD lo n).length = n
  | 0, _ => rfl
  | n + 1, lo => by rw [rngD, List.length_cons, len_rng n]
theorem newL_len {own : Bool} {ds : List D} {S : Sto} {σ : L2.St} {ρ : Rho} {H : Hp} {Q : VK} (hP : Post M W σ ρ H (Rep M) Q (newL own ds S)) : ds.length ≤ 10000 := by
  unfold newL at hP
  by_cases h : ds.length ≤ 10000
  · exact h
  · rw [if_neg h] at hP; exact hP.elim
/-- list(range(n)) -/
theorem sE_lrg1 {own : Bool} {p2 pos2 : Pos} (hc : X.calm = true) (hb : Blt X "list") (hb2 : Blt X "range") (ha : PE X a (rdE M W fa)) (na : starEach [a] X.env = (false, eval a X.env) :: starEach [] X.env)
    (nb : starEach [.Call (.Name "range" p2) [a] [] pos2] X.env = (false, eval (.Call (.Name "range" p2) [a] [] pos2) X.env) :: starEach [] X.env) :
    PE X (.Call (.Name "list" p) [.Call (.Name "range" p2) [a] [] pos2] [] pos) (rdE M W fun δ S => (fa δ S).bind fun x S => (R.lift (rngW [x]) S).bind fun k S => newL own k.1 S) := by
  refine PE.weak (pe_listRg hc hb.gl hb.mg (prg_1 hb2.gl hb2.mg ha na) nb) fun σ H Q ⟨ρ, δ, S, hS, hE, hP⟩ => ⟨ρ, δ, S, hS, hE, hP.bind fun d S1 e1 ρ1 H1 v s1 hS1 r1 hP1 => ?_⟩
  cases d with
  | int n =>
    dsimp only [rngW] at hP1
    by_cases hn : -1000 ≤ n ∧ n ≤ 1000
    · rw [if_pos hn, R.lift_some, R.bind_ok] at hP1
      dsimp only at hP1
      have e0 : (n - 0).toNat = n.toNat := by rw [Int.sub_zero]
      have hl := newL_len hP1
      rw [len_rng] at hl
      rw [← e0] at hP1
      refine ⟨n, rep_int_inv r1, ⟨by omega, by omega, by omega, by omega, by rw [e0]; omega⟩, post_rg hS1 hP1⟩
    · rw [if_neg hn] at hP1; exact hP1.elim
  | _ => exact hP1.elim
theorem sE_lrg2 {own : Bool} {p2 pos2 : Pos} (hc : X.calm = true) (hb : Blt X "list") (hb2 : Blt X "range") (ha : PE X a (rdE M W fa)) (hbb : PE X b (rdE M W fb)) (na : starEach [a, b] X.env = (false, eval a X.env) :: starEach [b] X.env)
    (nb : starEach [b] X.env = (false, eval b X.env) :: starEach [] X.env) (hp : (backTo pos2 (starEach [b] X.env)).any (·.1) = false)
    (nc : starEach [.Call (.Name "range" p2) [a, b] [] pos2] X.env = (false, eval (.Call (.Name "range" p2) [a, b] [] pos2) X.env) :: starEach [] X.env) :
    PE X (.Call (.Name "list" p) [.Call (.Name "range" p2) [a, b] [] pos2] [] pos) (rdE M W fun δ S => (fa δ S).bind fun x S => (fb δ S).bind fun y S => (R.lift (rngW [x, y]) S).bind fun k S => newL own k.1 S) := by
  refine PE.weak (pe_listRg hc hb.gl hb.mg (prg_2 hb2.gl hb2.mg ha hbb na nb hp) nc) fun σ H Q ⟨ρ, δ, S, hS, hE, hP⟩ => ⟨ρ, δ, S, hS, hE, hP.bind fun d S1 e1 ρ1 H1 v s1 hS1 r1 hP1 =>
    ⟨ρ1, δ, S1, hS1, hE.step s1, hP1.bind fun d2 S2 e2 ρ2 H2 u s2 hS2 r2 hP2 => ?_⟩⟩
  cases d with
  | int m =>
    cases d2 with
    | int n =>
      dsimp only [rngW] at hP2
      by_cases hn : -1000 ≤ m ∧ m ≤ 1000 ∧ -1000 ≤ n ∧ n ≤ 1000
      · rw [if_pos hn, R.lift_some, R.bind_ok] at hP2
        dsimp only at hP2
        have hl := newL_len hP2
        rw [len_rng] at hl
        refine ⟨m, n, rep_int_inv r1, rep_int_inv r2, ⟨by omega, by omega, by omega, by omega, by omega⟩, post_rg hS2 hP2⟩
      · rw [if_neg hn] at hP2; exact hP2.elim
    | _ => exact hP2.elim
  | _ => exact hP2.elim
/-- tuple(zip(a, b)) -/
theorem prs_reps {ρ : Rho} {H0 H : Hp} (hn : ∀ T, H0 T = none → T ∉ ρ) : ∀ {as bs : List D} {xs ys ps : List V} {i : Nat}, Reps M ρ H as xs → Reps M ρ H bs ys → RZ.Prs H0 xs ys ps H i → i = min xs.length ys.length → Reps M ρ H (zipD as bs) ps
  | [], bs, xs, ys, ps, i, h1, h2, hp, e => by
    rw [Reps] at h1; subst h1
    have : ps = [] := List.length_eq_zero_iff.mp (by rw [hp.1, e]; simp)
    subst this
    cases bs <;> exact Reps.nil
  | a :: as, [], xs, ys, ps, i, h1, h2, hp, e => by
    rw [Reps] at h2; subst h2
    have : ps = [] := List.length_eq_zero_iff.mp (by rw [hp.1, e]; simp)
    subst this
    exact Reps.nil
  | a :: as, b :: bs, xs, ys, ps, i, h1, h2, hp, e => by
    rw [Reps] at h1 h2
    obtain ⟨x, xr, rfl, r1, r2⟩ := h1
    obtain ⟨y, yr, rfl, r3, r4⟩ := h2
    obtain ⟨hl, hj⟩ := hp
    rw [List.length_cons, List.length_cons, Nat.succ_min_succ] at e
    cases ps with
    | nil => rw [← hl] at e; cases e
    | cons q ps =>
      obtain ⟨T, x', y', o', e1, e2, e3, e4, eo, e5⟩ := hj 0 (by omega)
      have e1' : q = .ref T := Option.some.inj e1
      have e2' : x = x' := Option.some.inj e2
      have e3' : y = y' := Option.some.inj e3
      subst e1' e2' e3'
      rw [zipD]
      refine Reps.cons ?_ (prs_reps hn r2 r4 (i := i - 1) ⟨by rw [← hl]; rfl, fun j hj2 => ?_⟩ (by omega))
      · rw [Rep]
        exact ⟨T, [x, y], rfl, .inl ⟨hn T e5, o', e4, eo⟩, Reps.cons r1 (Reps.one r3)⟩
      · obtain ⟨T, x', y', o', e1, e2, e3, e4, eo, e5⟩ := hj (j + 1) (by omega)
        exact ⟨T, x', y', o', by simpa using e1, by simpa using e2, by simpa using e3, e4, eo, e5⟩
theorem sE_tzip {p2 pos2 : Pos} (hK : X.K = M.K) (hc : X.calm = true) (hb : Blt X "tuple") (hb2 : Blt X "zip") (ha : PE X a (rdE M W fa)) (hbb : PE X b (rdE M W fb)) (na : starEach [a, b] X.env = (false, eval a X.env) :: starEach [b] X.env)
    (nb : starEach [b] X.env = (false, eval b X.env) :: starEach [] X.env) (hp : (backTo pos2 (starEach [b] X.env)).any (·.1) = false) :
    PE X (.Call (.Name "tuple" p) [.Call (.Name "zip" p2) [a, b] [] pos2] [] pos) (rdE M W fun δ S => (fa δ S).bind fun x S => (fb δ S).bind fun y S => R.lift (tzD x y) S) := by
  refine PE.weak (RZ.pe_tupZip hc hb.gl hb.mg hb2.gl hb2.mg (pa_cons ha (pa_cons hbb pa_nil nb) na) na hp) fun σ H Q ⟨ρ, δ, S, hS, hE, hP⟩ => ⟨ρ, δ, S, hS, hE, hP.bind fun d S1 e1 ρ1 H1 v s1 hS1 r1 hP1 =>
    ⟨ρ1, δ, S1, hS1, hE.step s1, hP1.bind fun d2 S2 e2 ρ2 H2 u s2 hS2 r2 hP2 => ?_⟩⟩
  obtain ⟨d', e, hP2⟩ := hP2.lift
  replace r1 := r1.step s2 d
  clear hP hP1 hE e1 e2
  cases d <;> try (cases e; done)
  cases d2 <;> try (cases e; done)
  rename_i as bs
  unfold tzD at e
  dsimp only at e
  by_cases hl : as.length ≤ 10000 ∧ bs.length ≤ 10000
  · rw [if_pos hl] at e; cases e
    obtain ⟨q1, xs, rfl, t1, g1⟩ := rep_tup_inv r1
    obtain ⟨q2, ys, rfl, t2, g2⟩ := rep_tup_inv r2
    refine ⟨q1, q2, xs, ys, rfl, hK ▸ t1.sq, hK ▸ t2.sq, fun H' ps kp hp q o hq ho => ?_⟩
    obtain ⟨hS3, s3⟩ := hS2.ext kp
    have rr : Reps M ρ2 H' (zipD as bs) ps := prs_reps (H0 := H2) (fun T hT => hS2.fresh hT) (g1.step s3) (g2.step s3) hp rfl
    obtain ⟨s4, hS4, r4⟩ := new_tupF hS3 rr hq ho
    exact hP2.use (s3.trans s4) hS4 r4
  · rw [if_neg hl] at e; cases e
end
end Py

set_option Elab.async false
set_option linter.all false
set_option maxRecDepth 100000
set_option maxHeartbeats 4000000
/-! Part K: isinstance, methods of lists, stores, fields, instances. -/
namespace Py
open PySem PySem.Spec PyProof.Rows L2
/-! ### isinstance -/
def dtV (M : Mo) : DT → Value
  | .non => .type "NoneType" | .bl => .type "bool" | .int => .type "int" | .str => .type "str" | .tup => .type "tuple" | .lst => .type "list" | .dict => .type "dict" | .cls C => .ref (M.cl C)
def tyW (M : Mo) : Ty → Value
  | .int => .type "int" | .bool => .type "bool" | .str => .type "str" | .tup => .type "tuple" | .lst => .type "list" | .cls C => .ref (M.cl C)
def tyX (M : Mo) : Ty → V
  | .int => .ty "int" | .bool => .ty "bool" | .str => .ty "str" | .tup => .ty "tuple" | .lst => .ty "list" | .cls C => .ref (M.cl C)
def DT.In (M : Mo) : DT → Prop
  | .cls C => C ∈ M.cs
  | _ => True
def Ty.In (M : Mo) : Ty → Prop
  | .cls C => C ∈ M.cs
  | _ => True
structure InsF (K : PySem.W.Frag) (C : Addr) : Prop where
  cl : Cls K C
  ha : PySem.W.findIn K (.ref C) "__class__" = some (some (.builtin "object.__class__"))
  hn : PySem.W.specialIn K (.builtin "object.__class__") "__get__" = some (some (.builtin "getset_descriptor.__get__"))
  htk : PySem.W.takesIn K (.builtin "object.__class__") = some true
  hm : PySem.W.mroIn K C (.type "object") = some true
/-- the classes of the module -/
structure KitOk (M : Mo) : Prop where
  kit : ∀ t u, DT.In M t → Ty.In M u → PySem.W.kitOne M.K (dtV M t) (tyW M u) = some (isTyT t u)
  ins : ∀ C ∈ M.cs, InsF M.K (M.cl C)
theorem clsV_of (M : Mo) (t : Ty) : ClsV (tyX M t) (tyW M t) := by
  cases t <;> constructor
theorem clsV_all (M : Mo) : ∀ ts : List Ty, Paired ClsV (ts.map (tyX M)) (ts.map (tyW M))
  | [] => .nil
  | t :: ts => .cons (clsV_of M t) (clsV_all M ts)
theorem kit_any {M : Mo} (k : KitOk M) {t : DT} (ht : t.In M) : ∀ {us : List Ty}, (∀ u ∈ us, u.In M) → PySem.W.kitAny M.K (dtV M t) (us.map (tyW M)) = some (us.any (isTyT t))
  | [], _ => rfl
  | u :: us, h => by
    rw [List.map_cons, PySem.W.kitAny, k.kit t u ht (h u (List.mem_cons_self ..)), List.any_cons]
    cases isTyT t u with
    | true => rfl
    | false => exact kit_any k ht fun u hu => h u (List.mem_cons_of_mem _ hu)
section
variable {M : Mo} {ρ : Rho} {H : Hp} {S : Sto}
theorem tat_ty {a : Addr} {vs : List V} (h : TAt M ρ H a vs) : TyX M.K H (.ref a) (.type "tuple") := by
  rcases h with ⟨_, o, h, _⟩ | ⟨h, _⟩
  · exact .fTuple h
  · rcases h (fun _ => none) with z | ⟨o, its, n, h1, h2, _⟩
    · rcases z with z | ⟨_, z⟩ <;> cases z
    · exact .kTuple h1 h2
theorem cat_ty {a : Addr} {vs : List V} (h : CAt M ρ H a vs) : TyX M.K H (.ref a) (.type "list") := by
  rcases h with ⟨_, o, h⟩ | h
  · exact .base (.frz h)
  · have := h (fun _ => none)
    rcases this with z | ⟨o, its, n, h1, h2, _⟩
    · rcases z with z | ⟨_, z⟩ <;> cases z
    · exact .kList h1 h2
theorem rep_ty (k : KitOk M) {d : D} {v : V} {t : DT} (hS : RepSt M ρ H S) (r : Rep M ρ H d v) (e : dTy S d = some t) : TyX M.K H v (dtV M t) ∧ t.In M := by
  have ins : ∀ {C a dx fs}, C ∈ M.cs → H a = some (.ins (M.cl C) dx fs) → TyX M.K H (.ref a) (.ref (M.cl C)) := fun hc ea => let f := k.ins _ hc; .base (.ins ea f.cl f.ha f.hn f.htk f.hm)
  cases d with
  | non => cases e; rw [rep_non_inv r]; exact ⟨.base .non, trivial⟩
  | bl b => cases e; rw [rep_bl_inv r]; exact ⟨.base (.bl b), trivial⟩
  | int b => cases e; rw [rep_int_inv r]; exact ⟨.base (.int b), trivial⟩
  | str b => cases e; rw [rep_str_inv r]; exact ⟨.base (.str b), trivial⟩
  | tup ds => cases e; obtain ⟨a, vs, rfl, t, _⟩ := rep_tup_inv r; exact ⟨tat_ty t, trivial⟩
  | lst ds =>
    cases e; rw [Rep] at r; obtain ⟨a, vs, rfl, t, _⟩ := r
    exact ⟨.base (.lst t.2), trivial⟩
  | scr ds =>
    cases e; rw [Rep] at r; obtain ⟨a, vs, rfl, t, _⟩ := r
    exact ⟨cat_ty t, trivial⟩
  | obj C ns ds =>
    cases e; rw [Rep] at r; obtain ⟨hc, a, dx, vs, rfl, _, ea, _⟩ := r
    exact ⟨ins hc ea, hc⟩
  | fn f => cases e
  | loc n =>
    rw [Rep] at r
    obtain ⟨a, e1, rfl⟩ := r
    obtain ⟨o, q, e⟩ := Option.map_eq_some_iff.mp (show (S[n]?).map oTy = some t from e)
    · have h := hS.at_ n a o e1 q
      cases o with
      | lst ds => cases e; obtain ⟨vs, ea, _⟩ := h; exact ⟨.base (.lst ea), trivial⟩
      | ins C ns ds => cases e; obtain ⟨hc, dx, vs, ea, _⟩ := h; exact ⟨ins hc ea, hc⟩
      | dT ks ds => cases e; obtain ⟨vs, ea, _⟩ := h; exact ⟨.base (.dT ea), trivial⟩
end
section
variable {M : Mo} {X : Cx} {W : WX} {a b e o tn : Expr} {es : List Expr} {pos p apos tpos : Pos} {fa fb fo : Env → Sto → R D} {fs : Env → Sto → R (List D)}
theorem sE_isi {t : Ty} (hK : X.K = M.K) (k : KitOk M) (hb : Blt X "isinstance") (ha : PE X a (rdE M W fa)) (ht : PE X tn (tC (tyX M t))) (hi : t.In M)
    (na : starEach [a, tn] X.env = (false, eval a X.env) :: starEach [tn] X.env) (nb : starEach [tn] X.env = (false, eval tn X.env) :: starEach [] X.env) (hp : (backTo pos (starEach [tn] X.env)).any (·.1) = false) :
    PE X (.Call (.Name "isinstance" p) [a, tn] [] pos) (rdE M W fun δ S => (fa δ S).bind fun x S => R.lift ((dTy S x).map fun d => .bl ([t].any (isTyT d))) S) := by
  refine PE.weak (pe_callB call_isi hb.gl hb.mg boot_isinstance (pa_cons ha (pa_cons ht pa_nil nb) na) (by decide) (by decide) na hp) fun σ H Q ⟨ρ, δ, S, hS, hE, hP⟩ => ⟨ρ, δ, S, hS, hE, hP.bind fun d S1 e1 ρ1 H1 v s1 hS1 r1 hP1 => ?_⟩
  obtain ⟨d', e2, hP1⟩ := hP1.lift
  obtain ⟨dt, e3, rfl⟩ := Option.map_eq_some_iff.mp e2
  obtain ⟨ty, hin⟩ := rep_ty k hS1 r1 e3
  exact ⟨v, _, _, _, _, rfl, clsV_of M t, hK ▸ ty, by rw [hK]; exact k.kit dt t hin hi, hP1.use Step.refl hS1 (by simp only [List.any_cons, List.any_nil, Bool.or_false]; exact rep_bl)⟩
theorem sE_isiT {ts : List Ty} {kk : Nat} (hK : X.K = M.K) (k : KitOk M) (hb : Blt X "isinstance") (ha : PE X a (rdE M W fa)) (ht : PA X es (fun σ H Q => Q (ts.map (tyX M)) H)) (hi : ∀ t ∈ ts, t.In M) (hl : ts.length ≤ 10000)
    (na : starEach [a, .Tuple es kk tpos] X.env = (false, eval a X.env) :: starEach [.Tuple es kk tpos] X.env) (nb : starEach [.Tuple es kk tpos] X.env = (false, eval (.Tuple es kk tpos) X.env) :: starEach [] X.env) (hp : (backTo pos (starEach [.Tuple es kk tpos] X.env)).any (·.1) = false) :
    PE X (.Call (.Name "isinstance" p) [a, .Tuple es kk tpos] [] pos) (rdE M W fun δ S => (fa δ S).bind fun x S => R.lift ((dTy S x).map fun d => .bl (ts.any (isTyT d))) S) := by
  refine PE.weak (pe_callB call_isiT hb.gl hb.mg boot_isinstance (pa_cons ha (pa_cons (pe_tup ht) pa_nil nb) na) (by decide) (by decide) na hp) fun σ H Q ⟨ρ, δ, S, hS, hE, hP⟩ => ⟨ρ, δ, S, hS, hE, hP.bind fun d S1 e1 ρ1 H1 v s1 hS1 r1 hP1 => ?_⟩
  obtain ⟨d', e2, hP1⟩ := hP1.lift
  obtain ⟨dt, e3, rfl⟩ := Option.map_eq_some_iff.mp e2
  refine ⟨le_line (by rw [List.length_map]; exact hl), fun q hq => ?_⟩
  obtain ⟨hS2, s2⟩ := hS1.ext (upd_keeps (o := .tup (ts.map (tyX M))) hq)
  obtain ⟨ty, hin⟩ := rep_ty k hS2 (r1.step s2 d) e3
  exact ⟨v, q, _, _, _, _, rfl, upd_same, clsV_all M ts, hK ▸ ty, by rw [hK]; exact kit_any k hin hi, hP1.use s2 hS2 rep_bl⟩
/-! ### methods of lists -/
/-- the reading of a method -/
def rBm (M : Mo) (bm : Bm) : V → List V → Hp → VK → Prop := fun x vs H Q => ∃ ρ S d ds d' S', RepSt M ρ H S ∧ Rep M ρ H d x ∧ Reps M ρ H ds vs ∧ bmD bm d ds S = .ok d' S' ∧ ∀ H' v, Step ρ H ρ H' → RepSt M ρ H' S' → Rep M ρ H' d' v → Q v H'
/-- the same of a list -/
def rBmL (M : Mo) (bm : Bm) : V → List V → Hp → VK → Prop := fun x vs H Q => ∃ ρ S d ds d' S', RepSt M ρ H S ∧ Rep M ρ H d x ∧ Reps M ρ H ds vs ∧ ixT .index d = false ∧ bmD bm d ds S = .ok d' S' ∧ ∀ H' v, Step ρ H ρ H' → RepSt M ρ H' S' → Rep M ρ H' d' v → Q v H'
theorem rBmL.of {bm : Bm} {x : V} {vs : List V} {H : Hp} {Q : VK} (h : rBmL M bm x vs H Q) : rBm M bm x vs H Q := let ⟨ρ, S, d, ds, d', S', hS, r, rs, _, e, q⟩ := h; ⟨ρ, S, d, ds, d', S', hS, r, rs, e, q⟩
theorem seq_eq_lseq {S : Sto} {d : D} (h : ixT .index d = false) : seqD S d = lseqD S d := by
  cases d <;> first | rfl | cases h
theorem MtR.weak {id : String} {r r' : V → List V → Hp → VK → Prop} (h : MtR X id r) (w : ∀ x vs H Q, r' x vs H Q → r x vs H Q) : MtR X id r' := fun pins s σ H x xs v us Q I rx rv q => h pins s σ H x xs v us Q I rx rv (w _ _ _ _ q)
def bmId : Bm → String
  | .append => "list.append" | .insert => "list.insert" | .index => "list.index" | .reverse => "list.reverse" | .join => "str.join" | .split => "str.split" | .replace => "str.replace"
def bmN : Bm → Str
  | .append => "append" | .insert => "insert" | .index => "index" | .reverse => "reverse" | .join => "join" | .split => "split" | .replace => "replace"
theorem bm_append : MtR X "list.append" (rBm M .append) := by
  refine MtR.weak mt_append fun x vs H Q ⟨ρ, S, d, ds, d', S', hS, r, rs, e, q⟩ => ?_
  replace e : appD d ds S = .ok d' S' := e
  unfold appD at e
  cases d <;> try (cases e; done)
  rename_i n
  rcases ds with _ | ⟨y, _ | ⟨z, zs⟩⟩ <;> try (cases e; done)
  dsimp only at e
  cases q1 : lstAt S n with
  | none => rw [q1] at e; cases e
  | some xs =>
    rw [q1] at e
    dsimp only at e
    by_cases hl : xs.length < 10000
    · rw [if_pos hl] at e; cases e
      rw [Rep] at r
      obtain ⟨a, e1, rfl⟩ := r
      obtain ⟨vs', ha, rr⟩ := lst_of_at hS e1 q1
      obtain ⟨v, rfl, rv⟩ := reps_one rs
      refine ⟨a, vs', v, rfl, rfl, ha, lt_line (by rw [← rr.length]; exact hl), ?_⟩
      have s0 : Step ρ H ρ (upd H a (.lst (vs' ++ [v]))) := ⟨⟨[], by simp, by simp⟩, rfl, fun b w eb hb => by
        rw [upd_ne (fun z => hb (by rw [z]; exact List.mem_of_getElem? e1))]; exact eb⟩
      obtain ⟨hS2, s2⟩ := hS.put (o := .lst (xs ++ [y])) (u := .lst (vs' ++ [v])) e1 ⟨_, upd_same, (rr.append (Reps.one rv)).step s0⟩
      exact q _ _ s2 hS2 rep_non
    · rw [if_neg hl] at e; cases e
theorem put_lst {ρ : Rho} {H : Hp} {S : Sto} {n : Nat} {a : Addr} {ds : List D} {vs : List V} (hS : RepSt M ρ H S) (e1 : ρ.l[n]? = some a) (r : Reps M ρ H ds vs) :
    Step ρ H ρ (upd H a (.lst vs)) ∧ RepSt M ρ (upd H a (.lst vs)) (S.set n (.lst ds)) := by
  have s0 : Step ρ H ρ (upd H a (.lst vs)) := ⟨⟨[], by simp, by simp⟩, rfl, fun b w eb hb => by
    rw [upd_ne (fun z => hb (by rw [z]; exact List.mem_of_getElem? e1))]; exact eb⟩
  obtain ⟨hS2, s2⟩ := hS.put (o := .lst ds) (u := .lst vs) e1 ⟨_, upd_same, r.step s0⟩
  exact ⟨s2, hS2⟩
theorem bm_reverse : MtR X "list.reverse" (rBm M .reverse) := by
  refine MtR.weak mt_reverse fun x vs H Q ⟨ρ, S, d, ds, d', S', hS, r, rs, e, q⟩ => ?_
  replace e : rvsD d ds S = .ok d' S' := e
  unfold rvsD at e
  cases d <;> try (cases e; done)
  rename_i n
  rcases ds with _ | ⟨y, ys⟩ <;> try (cases e; done)
  dsimp only at e
  cases q1 : lstAt S n with
  | none => rw [q1] at e; cases e
  | some xs =>
    rw [q1] at e
    cases e
    rw [Rep] at r
    obtain ⟨a, e1, rfl⟩ := r
    obtain ⟨vs', ha, rr⟩ := lst_of_at hS e1 q1
    rw [Reps] at rs
    subst rs
    obtain ⟨s2, hS2⟩ := put_lst hS e1 rr.reverse
    exact ⟨a, vs', rfl, rfl, ha, q _ _ s2 hS2 rep_non⟩
theorem bm_insert : MtR X "list.insert" (rBm M .insert) := by
  refine MtR.weak mt_insert fun x vs H Q ⟨ρ, S, d, ds, d', S', hS, r, rs, e, q⟩ => ?_
  replace e : insD d ds S = .ok d' S' := e
  unfold insD at e
  cases d <;> try (cases e; done)
  rename_i n
  rcases ds with _ | ⟨i, _ | ⟨y, _ | ⟨z, zs⟩⟩⟩
  · cases e
  · cases i <;> cases e
  rotate_left
  · cases i <;> cases e
  cases i <;> try (cases e; done)
  rename_i i
  dsimp only at e
  cases q1 : lstAt S n with
  | none => rw [q1] at e; cases e
  | some xs =>
    rw [q1] at e
    dsimp only at e
    by_cases hl : 0 ≤ i ∧ i ≤ xs.length ∧ xs.length < 10000
    · rw [if_pos hl] at e; cases e
      rw [Rep] at r
      obtain ⟨a, e1, rfl⟩ := r
      obtain ⟨vs', ha, rr⟩ := lst_of_at hS e1 q1
      obtain ⟨v, w, rfl, rv, rw'⟩ := reps_two rs
      rw [rep_int_inv rv]
      have hll := rr.length
      obtain ⟨s2, hS2⟩ := put_lst hS e1 ((rr.take i.toNat).append (Reps.cons rw' (rr.drop i.toNat)))
      refine ⟨a, vs', i, w, rfl, rfl, ha, lt_line (by rw [← hll]; exact hl.2.2), hl.1, by omega, ?_⟩
      rw [List.append_assoc]
      exact q _ _ s2 hS2 rep_non
    · rw [if_neg hl] at e; cases e
theorem idx_lt {is : List Int} {i : Int} (h : i ∈ is) : is[is.idxOf i]? = some i := by
  have hl := List.idxOf_lt_length_of_mem h
  rw [List.getElem?_eq_getElem hl, List.getElem_idxOf]
theorem bm_index (hK : X.K = M.K) : MtR X "list.index" (rBmL M .index) := by
  refine MtR.weak mt_index fun x vs H Q ⟨ρ, S, d, ds, d', S', hS, r, rs, hlq, e, q⟩ => ?_
  have e' : ∃ i, ds = [.int i] ∧ (match (seqD S d).bind intsD with | some is => if i ∈ is then R.ok (D.int (is.idxOf i)) S else .stuck | none => .stuck) = R.ok d' S' := by
    replace e : idxD d ds S = .ok d' S' := e
    unfold idxD at e
    rcases ds with _ | ⟨y, _ | ⟨z, zs⟩⟩
    · cases e
    · cases y <;> first | exact ⟨_, rfl, e⟩ | cases e
    · cases y <;> cases e
  clear e
  obtain ⟨i, rfl, e⟩ := e'
  rw [seq_eq_lseq hlq] at e
  cases q1 : lseqD S d with
  | none => rw [q1] at e; cases e
  | some ls =>
    rw [q1, Option.bind_some] at e
    cases q2 : intsD ls with
    | none => rw [q2] at e; cases e
    | some is =>
      rw [q2] at e
      dsimp only at e
      by_cases hi : i ∈ is
      · rw [if_pos hi] at e; cases e
        obtain ⟨a, vs', rfl, hs, rr⟩ := lseq_read hS r q1
        obtain ⟨v, rfl, rv⟩ := reps_one rs
        rw [reps_ints rr q2] at hs
        rw [rep_int_inv rv]
        refine ⟨a, is.map V.int, .int i, is.idxOf i, .int i, rfl, rfl, hK ▸ hs, rfl, ?_, ?_, ?_, fun m z' hm hz => ?_, q _ _ Step.refl hS rep_int⟩
        · rw [List.all_map]; exact List.all_eq_true.mpr fun _ _ => rfl
        · rw [List.getElem?_map, idx_lt hi]; rfl
        · unfold eqV; simp
        · rw [List.getElem?_map] at hz
          obtain ⟨j, hj, rfl⟩ := Option.map_eq_some_iff.mp hz
          have : j ≠ i := fun z => by
            subst z
            have := List.not_of_lt_findIdx hm
            have hl := (List.getElem?_eq_some_iff.mp hj)
            obtain ⟨h1, h2⟩ := hl
            simp [h2] at this
          unfold eqV; simp [this]
      · rw [if_neg hi] at e; cases e
/-! ### index of a tuple -/
/-- a tuple that is kept -/
def TKept (K : PySem.W.Frag) (H : Hp) (a : Addr) : Prop := (∃ (o : Obj) (vs : List V), H a = some (.frz o (.tup vs)) ∧ o.dict = none) ∨ ∃ o : Obj, K.lookup a = some o ∧ o.cls = .type "tuple" ∧ o.dict = none
theorem TAt.kept {ρ : Rho} {H : Hp} {a : Addr} {vs : List V} (h : TAt M ρ H a vs) : TKept M.K H a := by
  rcases h with ⟨_, o, h, hd⟩ | ⟨h, o, ho, hd⟩
  · exact .inl ⟨o, vs, h, hd⟩
  · rcases h (fun _ => none) with z | ⟨o', its, n, h1, h2, _⟩
    · rcases z with z | ⟨_, z⟩ <;> cases z
    · rw [ho] at h1; cases h1
      exact .inr ⟨o, ho, h2, hd⟩
theorem tkept_is {pins : List (Addr × Obj)} {σ : L2.St} {H : Hp} {s : Shared} {a : Addr} (I : Inv X pins σ H s) (h : TKept X.K H a) :
    s.TypeIs (.ref a) "tuple" ∧ ∀ b, Value.ref a = .ref b → ∃ ob, s.heap.get? b = some ob ∧ ob.dict = none := by
  rcases h with ⟨o, vs, h, hd⟩ | ⟨o, h, hc, hd⟩
  · obtain ⟨e, _, its, _, o', e', hc, _⟩ := (show ObjOk X.prog X.w H s.heap a (.frz o (.tup vs)) from I.hok a _ h)
    exact ⟨⟨o', e', hc⟩, fun b eb => by cases eb; exact ⟨o, e, hd⟩⟩
  · exact ⟨⟨o, I.kIn a o h, hc⟩, fun b eb => by cases eb; exact ⟨o, I.kIn a o h, hd⟩⟩
def tBMT (K : PySem.W.Frag) (r : V → List V → Hp → VK → Prop) (to : TE) (t : TA) : TE := fun σ H Q => to σ H fun x H1 => (∃ a, x = .ref a ∧ TKept K H1 a) ∧ t σ H1 fun xs H2 => r x xs H2 Q
theorem pe_bmT {o e : Expr} {es : List Expr} {to : TE} {t : TA} {name : Str} {apos cpos : Pos} {id : String} {r : V → List V → Hp → VK → Prop} (pa : PlainAttrs "tuple") (slot : Slot "tuple" name id)
    (hty : typeOf (.builtin id) = pure (.type "method_descriptor")) (hm : MtR X id r) (ho : PE X o to) (ha : PA X (e :: es) t)
    (hbase : attributeBase o name X.env (eval o X.env) = eval o X.env)
    (hfew : ((backTo cpos (starEach (e :: es) X.env)).all (fun x => !x.1) && (backToKw cpos (keywordEach [] X.env)).all (fun x => x.1.isSome)
      && decide ((e :: es).length + ([] : List Keyword).length + (if ([] : List Keyword).isEmpty then 0 else 1) < 30)) = true)
    (hline : (apos.endLine == cpos.line) = true) (hs : starEach (e :: es) X.env = (false, eval e X.env) :: starEach es X.env) (hplain : (backTo cpos (starEach es X.env)).any (·.1) = false) :
    PE X (.Call (.Attribute o name apos) (e :: es) [] cpos) (tBMT X.K r to t) := by
  refine ⟨fun pins s σ H Q I h => ?_⟩
  refine wpAny_Call_method_late hbase hfew hline rfl (thn (ho.run pins s σ H _ I h) fun v s1 ⟨x, H1, I1, r1, ⟨a, ex, ty⟩, q1⟩ => ?_)
  subst ex
  cases r1
  obtain ⟨h1, h2⟩ := tkept_is I1 ty
  refine ⟨"tuple", id, pa, slot, hty, h1, h2, ?_⟩
  have hA := ha.run cpos pins s1 σ H1 _ I1 q1
  rw [hs] at hA ⊢
  refine Calls.callWith_builtin (by show (false || (backTo cpos (starEach es X.env)).any (·.1)) = false; rw [hplain] <;> rfl) (Calls.evalArgs_plain ?_)
  exact thn hA fun us s2 ⟨vs, H2, I2, r2, q2⟩ => hm pins s2 σ H2 (.ref a) vs _ us Q I2 rfl r2 q2
def rIxT (K : PySem.W.Frag) : V → List V → Hp → VK → Prop := fun x xs H Q => ∃ (p : Addr) (ns : List Int) (i : Int), x = V.ref p ∧ xs = [V.int i] ∧ SqT K H p (ns.map V.int) ∧ i ∈ ns ∧ Q (.int (ns.idxOf i : Nat)) H
theorem mt_ixT : MtR X "tuple.index" (rIxT X.K) := by
  intro pins s σ H x xs v us Q I rx rs h
  obtain ⟨p, ns, i, rfl, rfl, hq, hi, q⟩ := h
  cases rx
  obtain ⟨u, rfl, t, rfl⟩ := vals1 rs
  obtain ⟨its, r, pl, hz⟩ := I.tuple hq
  exact PySem.SeqAt.tuple_index_ints (vs := its) pl (intsAre_of r) hi ⟨.int (ns.idxOf i : Nat), H, I.kept (h' := s.heap) (t' := s.toks + 1) fun b o e => e, ⟨_, rfl⟩, q⟩
theorem bm_indexT (hK : X.K = M.K) : MtR X "tuple.index" (fun x vs H Q => ∃ ρ S xs ds d' S', RepSt M ρ H S ∧ Rep M ρ H (.tup xs) x ∧ Reps M ρ H ds vs ∧ bmD .index (.tup xs) ds S = .ok d' S' ∧ ∀ H' v, Step ρ H ρ H' → RepSt M ρ H' S' → Rep M ρ H' d' v → Q v H') := by
  refine MtR.weak mt_ixT fun x vs H Q ⟨ρ, S, xs, ds, d', S', hS, r, rs, e, q⟩ => ?_
  have e' : ∃ i, ds = [.int i] ∧ (match (some xs).bind intsD with | some is => if i ∈ is then R.ok (D.int (is.idxOf i)) S else .stuck | none => .stuck) = R.ok d' S' := by
    replace e : idxD (.tup xs) ds S = .ok d' S' := e
    unfold idxD at e
    rcases ds with _ | ⟨y, _ | ⟨z, zs⟩⟩
    · cases e
    · cases y <;> first | exact ⟨_, rfl, e⟩ | cases e
    · cases y <;> cases e
  clear e
  obtain ⟨i, rfl, e⟩ := e'
  rw [Option.bind_some] at e
  cases q2 : intsD xs with
  | none => rw [q2] at e; cases e
  | some is =>
    rw [q2] at e
    dsimp only at e
    by_cases hi : i ∈ is
    · rw [if_pos hi] at e; cases e
      obtain ⟨a, vs', rfl, hs, rr⟩ := rep_tup_inv r
      obtain ⟨v, rfl, rv⟩ := reps_one rs
      have ev := reps_ints rr q2
      subst ev
      rw [rep_int_inv rv]
      exact ⟨a, is, i, rfl, rfl, hK ▸ hs.sq, hi, q _ _ Step.refl hS rep_int⟩
    · rw [if_neg hi] at e; cases e
end
end Py

set_option Elab.async false
set_option linter.all false
set_option maxRecDepth 100000
set_option maxHeartbeats 4000000
/-! Part M: calls of methods of lists, stores, fields, instances. -/
namespace Py
open PySem PySem.Spec PyProof.Rows L2
section
variable {M : Mo} {X : Cx} {W : WX} {a b e o i : Expr} {es : List Expr} {pos p apos tpos : Pos} {fa fb fo fi : Env → Sto → R D} {fs : Env → Sto → R (List D)}
theorem ty_lst {ρ : Rho} {H : Hp} {S : Sto} {d : D} {v : V} (hK : X.K = M.K) (hS : RepSt M ρ H S) (r : Rep M ρ H d v) (h : (lseqD S d).isSome = true) : L2.tyV X.K "list" v H := by
  obtain ⟨ds, e⟩ := Option.isSome_iff_exists.mp h
  obtain ⟨a, vs, rfl, hs, _⟩ := lseq_read hS r e
  exact .inl ⟨rfl, vs, hK ▸ hs⟩
def bmF (bm : Bm) (fo : Env → Sto → R D) (fs : Env → Sto → R (List D)) : Env → Sto → R D := fun δ S => (fo δ S).bind fun x S => if ((lseqD S x).isSome || ixT bm x) = true then (fs δ S).bind fun ds S => bmD bm x ds S else .stuck
theorem post_bm {bm : Bm} {σ : L2.St} {ρ : Rho} {H : Hp} {S : Sto} {d : D} {ds : List D} {x : V} {vs : List V} {Q : VK} (hS : RepSt M ρ H S) (r : Rep M ρ H d x) (rs : Reps M ρ H ds vs) (hP : Post M W σ ρ H (Rep M) Q (bmD bm d ds S)) : rBm M bm x vs H Q := by
  have ne : ∀ e S', bmD bm d ds S ≠ .exc e S' := fun e S' h => by
    unfold bmD at h
    cases bm <;> dsimp only at h <;> try (cases h; done)
    · unfold appD at h; split at h <;> (try split at h) <;> (try split at h) <;> cases h
    · unfold insD at h; split at h <;> (try split at h) <;> (try split at h) <;> cases h
    · unfold idxD at h; split at h <;> (try split at h) <;> (try split at h) <;> cases h
    · unfold rvsD at h; split at h <;> (try split at h) <;> (try split at h) <;> cases h
  cases eb : bmD bm d ds S with
  | stuck => rw [eb] at hP; exact hP.elim
  | exc e' S' => exact absurd eb (ne _ _)
  | ok d' S' => rw [eb] at hP; exact ⟨ρ, S, d, ds, d', S', hS, r, rs, eb, fun H' v s h r => hP _ _ _ s h r⟩
theorem PE.cases {t t' t'' : TE} (h : PE X e t) (h' : PE X e t') (w : ∀ σ H Q, t'' σ H Q → t σ H Q ∨ t' σ H Q) : PE X e t'' := ⟨fun pins s σ H Q I q => (w σ H Q q).elim (h.run pins s σ H Q I) (h'.run pins s σ H Q I)⟩
theorem idx_post {σ : L2.St} {ρ : Rho} {H : Hp} {S : Sto} {d : D} {ds : List D} {Q : VK} (hP : Post M W σ ρ H (Rep M) Q (bmD .index d ds S)) : ∃ d' S', bmD .index d ds S = .ok d' S' ∧ ∀ H' v, Step ρ H ρ H' → RepSt M ρ H' S' → Rep M ρ H' d' v → Q v H' := by
  cases eb : bmD .index d ds S with
  | stuck => rw [eb] at hP; exact hP.elim
  | exc e' S' =>
    replace eb : idxD d ds S = .exc e' S' := eb
    unfold idxD at eb; split at eb <;> (try split at eb) <;> (try split at eb) <;> cases eb
  | ok d' S' => rw [eb] at hP; exact ⟨d', S', rfl, fun H' v s h r => hP _ _ _ s h r⟩
theorem sE_bm {bm : Bm} (hK : X.K = M.K) (hm : bm = .append ∨ bm = .insert ∨ bm = .index) (ho : PE X o (rdE M W fo)) (ha : PA X (e :: es) (rdA M W fs)) (hbase : attributeBase o (bmN bm) X.env (eval o X.env) = eval o X.env)
    (hfew : ((backTo pos (starEach (e :: es) X.env)).all (fun x => !x.1) && (backToKw pos (keywordEach [] X.env)).all (fun x => x.1.isSome)
      && decide ((e :: es).length + ([] : List Keyword).length + (if ([] : List Keyword).isEmpty then 0 else 1) < 30)) = true)
    (hline : (apos.endLine == pos.line) = true) (hs : starEach (e :: es) X.env = (false, eval e X.env) :: starEach es X.env) (hplain : (backTo pos (starEach es X.env)).any (·.1) = false) :
    PE X (.Call (.Attribute o (bmN bm) apos) (e :: es) [] pos) (rdE M W (bmF bm fo fs)) := by
  have w : ixT bm = (fun _ => false) → ∀ σ H Q, rdE M W (bmF bm fo fs) σ H Q → tBM X.K "list" (rBm M bm) (rdE M W fo) (rdA M W fs) σ H Q := fun hx σ H Q ⟨ρ, δ, S, hS, hE, hP⟩ => ⟨ρ, δ, S, hS, hE, hP.bind fun d S1 e1 ρ1 H1 x s1 hS1 r1 hP1 => by
    rw [hx, Bool.or_false] at hP1
    by_cases hi : (lseqD S1 d).isSome = true
    · rw [if_pos hi] at hP1
      exact ⟨ty_lst hK hS1 r1 hi, ρ1, δ, S1, hS1, hE.step s1, hP1.bind fun ds S2 e2 ρ2 H2 vs s2 hS2 r2 hP2 => post_bm hS2 (r1.step s2 d) r2 hP2⟩
    · rw [if_neg hi] at hP1; exact hP1.elim⟩
  rcases hm with rfl | rfl | rfl
  · exact PE.weak (pe_bm PySem.F.plainAttrs_list PySem.F.slot_list_append PySem.F.type_list_append bm_append ho ha hbase hfew hline hs hplain) (w rfl)
  · exact PE.weak (pe_bm PySem.F.plainAttrs_list PySem.F.slot_list_insert PySem.F.type_list_insert bm_insert ho ha hbase hfew hline hs hplain) (w rfl)
  · refine Py.PE.cases (pe_bm PySem.F.plainAttrs_list PySem.F.slot_list_index PySem.F.type_list_index (bm_index hK) ho ha hbase hfew hline hs hplain)
      (pe_bmT PySem.F.plainAttrs_tuple PySem.F.slot_tuple_index PySem.F.type_tuple_index (bm_indexT hK) ho ha hbase hfew hline hs hplain) fun σ H Q ⟨ρ, δ, S, hS, hE, hP⟩ => ?_
    by_cases ht : ∃ xs S1, fo δ S = .ok (.tup xs) S1
    · right
      refine ⟨ρ, δ, S, hS, hE, hP.bind fun d S1 e1 ρ1 H1 x s1 hS1 r1 hP1 => ?_⟩
      obtain ⟨xs, S2, e2⟩ := ht
      rw [e1] at e2
      cases e2
      rw [if_pos (show ((lseqD S1 (.tup xs)).isSome || ixT .index (.tup xs)) = true from rfl)] at hP1
      obtain ⟨a, vs, ea, t, _⟩ := rep_tup_inv r1
      refine ⟨⟨a, ea, hK ▸ t.kept⟩, ρ1, δ, S1, hS1, hE.step s1, hP1.bind fun ds S2 e2 ρ2 H2 vs s2 hS2 r2 hP2 => ?_⟩
      obtain ⟨d', S', eb, q⟩ := idx_post hP2
      exact ⟨ρ2, S2, xs, ds, d', S', hS2, r1.step s2 _, r2, eb, q⟩
    · left
      refine ⟨ρ, δ, S, hS, hE, hP.bind fun d S1 e1 ρ1 H1 x s1 hS1 r1 hP1 => ?_⟩
      have nt : ixT .index d = false := by
        cases d <;> first | rfl | exact absurd ⟨_, _, e1⟩ ht
      rw [nt, Bool.or_false] at hP1
      by_cases hi : (lseqD S1 d).isSome = true
      · rw [if_pos hi] at hP1
        refine ⟨ty_lst hK hS1 r1 hi, ρ1, δ, S1, hS1, hE.step s1, hP1.bind fun ds S2 e2 ρ2 H2 vs s2 hS2 r2 hP2 => ?_⟩
        obtain ⟨d', S', eb, q⟩ := idx_post hP2
        exact ⟨ρ2, S2, d, ds, d', S', hS2, r1.step s2 d, r2, nt, eb, q⟩
      · rw [if_neg hi] at hP1; exact hP1.elim
theorem sE_bm0 (hK : X.K = M.K) (ho : PE X o (rdE M W fo)) (hbase : attributeBase o "reverse" X.env (eval o X.env) = eval o X.env) (hline : (apos.endLine == pos.line) = true) :
    PE X (.Call (.Attribute o "reverse" apos) [] [] pos) (rdE M W (bmF .reverse fo fun _ S => .ok [] S)) := by
  refine PE.weak (pe_bm0 PySem.F.plainAttrs_list PySem.F.slot_list_reverse PySem.F.type_list_reverse (bm_reverse (M := M)) ho hbase hline) fun σ H Q ⟨ρ, δ, S, hS, hE, hP⟩ => ⟨ρ, δ, S, hS, hE, hP.bind fun d S1 e1 ρ1 H1 x s1 hS1 r1 hP1 => ?_⟩
  rw [show ixT .reverse d = false from by cases d <;> rfl, Bool.or_false] at hP1
  by_cases hi : (lseqD S1 d).isSome = true
  · rw [if_pos hi, R.bind_ok] at hP1
    exact ⟨ty_lst hK hS1 r1 hi, post_bm hS1 r1 Reps.nil hP1⟩
  · rw [if_neg hi] at hP1; exact hP1.elim
/-! ### o[i] = e -/
theorem sS_sto (ho : PE X o (rdE M W fo)) (hi : PE X i (rdE M W fi)) (he : PE X e (rdE M W fa)) (hs : swapsWithSole [.Subscript o i apos] e pos.line X.env = pure false) (hw : swappedStores [.Subscript o i apos] e X.env = pure none)
    (h1 : (assignEach [.Subscript o i apos] X.env).map (·.2) = [assign (.Subscript o i apos) X.env])
    (hg : ∀ v, assign (.Subscript o i apos) X.env v = (do
      let ov ← holding [v] (eval o X.env)
      let iv ← holding [v, ov] (eval i X.env)
      standAt apos
      holding [v, ov, iv] (setItem ov iv v)
      release [v, ov, iv] [])) :
    PS X (.Assign [.Subscript o i apos] e pos) (rdS M W fun δ S => Out.of δ (fa δ S) fun d S => Out.of δ (fo δ S) fun x S => Out.of δ (fi δ S) fun j S => (match stoD x j d S with
    | some S' => .nxt δ S'
    | none => .stuck)) := by
  refine PS.weak (ps_asg he (pg_sub ho hi set_list hg) hs hw h1) fun D σ H ⟨ρ, δ, S, hS, hE, hP⟩ => ⟨ρ, δ, S, hS, hE, hP.of hE fun d S1 e1 ρ1 H1 v s1 hS1 r1 hP1 => ⟨ρ1, δ, S1, hS1, hE.step s1, hP1.of (hE.step s1) fun x S2 e2 ρ2 H2 xv s2 hS2 r2 hP2 =>
    ⟨ρ2, δ, S2, hS2, (hE.step s1).step s2, hP2.of ((hE.step s1).step s2) fun j S3 e3 ρ3 H3 jv s3 hS3 r3 hP3 => ?_⟩⟩⟩
  replace r1 := (r1.step s2 d).step s3 d
  replace r2 := r2.step s3 x
  have hE3 := ((hE.step s1).step s2).step s3
  cases x <;> try (exact hP3.elim)
  rename_i n
  cases j <;> try (exact hP3.elim)
  rename_i j
  dsimp only [stoD] at hP3
  cases q : lstAt S3 n with
  | none => rw [q] at hP3; exact hP3.elim
  | some xs =>
    rw [q, Option.bind_some] at hP3
    cases q2 : L2.ixN xs.length j with
    | none => rw [q2] at hP3; exact hP3.elim
    | some k =>
      rw [q2, Option.map_some] at hP3
      rw [Rep] at r2
      obtain ⟨al, ea, rfl⟩ := r2
      obtain ⟨vs, ha, rr⟩ := lst_of_at hS3 ea q
      obtain ⟨s4, hS4⟩ := put_lst hS3 ea (rr.set k r1)
      exact ⟨al, vs, j, k, rfl, rep_int_inv r3, ha, by rw [← rr.length]; exact q2, hP3 _ _ _ s4 hS4 (hE3.step s4)⟩
/-! ### a, b = x, y all at once -/
theorem sS_par2 {i j k k2 : Nat} {x y : Str} {px py pt pt2 : Pos} (hc : X.calm = true) (hN : X.N.Nodup) (hi : X.N[i]? = some x) (hj : X.N[j]? = some y) (hij : i ≠ j)
    (hx : X.env.scope.names.lookup x = some .local) (hy : X.env.scope.names.lookup y = some .local) (ha : PA X [a, b] (rdA M W fs))
    (hw : swappedStores [.Tuple [.Name x px, .Name y py] k pt] (.Tuple [a, b] k2 pt2) X.env = pure (some [x, y]))
    (hs : swapsWithSole [.Tuple [.Name x px, .Name y py] k pt] (.Tuple [a, b] k2 pt2) pos.line X.env = pure false) :
    PS X (.Assign [.Tuple [.Name x px, .Name y py] k pt] (.Tuple [a, b] k2 pt2) pos) (rdS M W fun δ S => Out.of δ (fs δ S) fun ds S => (match setsE [i, j] ds δ with
    | some δ' => .nxt δ' S
    | none => .stuck)) := by
  refine PS.weak (ps_par hc hN hi hj hij hx hy ha hw hs) fun D σ H ⟨ρ, δ, S, hS, hE, hP⟩ => ⟨ρ, δ, S, hS, hE, hP.of hE fun ds S1 e1 ρ1 H1 vs s1 hS1 r1 hP1 => ?_⟩
  rcases ds with _ | ⟨d1, _ | ⟨d2, _ | ⟨d3, ds⟩⟩⟩ <;> try (exact hP1.elim)
  obtain ⟨v, w, rfl, q1, q2⟩ := reps_two r1
  exact ⟨v, w, rfl, hP1 _ _ _ Step.refl hS1 (((hE.step s1).set q1).set q2)⟩
theorem sS_par3 {c : Expr} {i j l k k2 : Nat} {x y z : Str} {px py pz pt pt2 : Pos} (hc : X.calm = true) (hN : X.N.Nodup) (hi : X.N[i]? = some x) (hj : X.N[j]? = some y) (hl : X.N[l]? = some z) (hij : i ≠ j) (hil : i ≠ l) (hjl : j ≠ l)
    (hx : X.env.scope.names.lookup x = some .local) (hy : X.env.scope.names.lookup y = some .local) (hz : X.env.scope.names.lookup z = some .local) (ha : PA X [a, b, c] (rdA M W fs))
    (hw : swappedStores [.Tuple [.Name x px, .Name y py, .Name z pz] k pt] (.Tuple [a, b, c] k2 pt2) X.env = pure (some [x, y, z]))
    (hs : swapsWithSole [.Tuple [.Name x px, .Name y py, .Name z pz] k pt] (.Tuple [a, b, c] k2 pt2) pos.line X.env = pure false) :
    PS X (.Assign [.Tuple [.Name x px, .Name y py, .Name z pz] k pt] (.Tuple [a, b, c] k2 pt2) pos) (rdS M W fun δ S => Out.of δ (fs δ S) fun ds S => (match setsE [i, j, l] ds δ with
    | some δ' => .nxt δ' S
    | none => .stuck)) := by
  refine PS.weak (ps_par3 hc hN hi hj hl hij hil hjl hx hy hz ha hw hs) fun D σ H ⟨ρ, δ, S, hS, hE, hP⟩ => ⟨ρ, δ, S, hS, hE, hP.of hE fun ds S1 e1 ρ1 H1 vs s1 hS1 r1 hP1 => ?_⟩
  rcases ds with _ | ⟨d1, _ | ⟨d2, _ | ⟨d3, _ | ⟨d4, ds⟩⟩⟩⟩ <;> try (exact hP1.elim)
  rw [Reps] at r1
  obtain ⟨u, r, rfl, q0, r1⟩ := r1
  obtain ⟨v, w, rfl, q1, q2⟩ := reps_two r1
  exact ⟨u, v, w, rfl, hP1 _ _ _ Step.refl hS1 ((((hE.step s1).set q0).set q1).set q2)⟩
/-! ### fields -/
theorem look_zip {ρ : Rho} {H : Hp} {x : Str} : ∀ {ns : List Str} {ds : List D} {vs : List V} {d : D}, Reps M ρ H ds vs → lookD x ns ds = some d → ∃ v, (ns.zip vs).lookup x = some v ∧ Rep M ρ H d v
  | [], _, _, _, _, e => by cases e
  | n :: ns, [], _, _, _, e => by cases e
  | n :: ns, d :: ds, _, d', h, e => by
    rw [Reps] at h
    obtain ⟨v, r, rfl, h1, h2⟩ := h
    unfold lookD at e
    rw [List.zip_cons_cons, List.lookup_cons]
    by_cases hn : n = x
    · rw [if_pos hn] at e; cases e
      rw [show (x == n) = true by rw [hn]; exact beq_self_eq_true x]
      exact ⟨v, rfl, h1⟩
    · rw [if_neg hn] at e
      rw [show (x == n) = false from beq_eq_false_iff_ne.mpr fun z => hn z.symm]
      exact look_zip h2 e
theorem fld_read {ρ : Rho} {H : Hp} {S : Sto} {C x : Str} {d d' : D} {v : V} (hS : RepSt M ρ H S) (r : Rep M ρ H d v) (e : fldD S C x d = some d') : C ∈ M.cs ∧ ∃ a dx fs u, v = .ref a ∧ H a = some (.ins (M.cl C) dx fs) ∧ fs.lookup x = some u ∧ Rep M ρ H d' u := by
  cases d <;> try (cases e; done)
  · rename_i C' ns ds
    unfold fldD at e
    dsimp only at e
    by_cases hC : C' = C
    · subst hC
      rw [if_pos rfl] at e
      rw [Rep] at r
      obtain ⟨hc, a, dx, vs, rfl, _, ea, _, rr⟩ := r
      obtain ⟨u, hu, ru⟩ := look_zip rr e
      exact ⟨hc, a, dx, _, u, rfl, ea, hu, ru⟩
    · rw [if_neg hC] at e; cases e
  · rename_i n
    unfold fldD at e
    dsimp only at e
    rw [Rep] at r
    obtain ⟨a, e1, rfl⟩ := r
    cases q : S[n]? with
    | none => rw [q] at e; cases e
    | some o =>
      rw [q] at e
      cases o with
      | ins C' ns ds =>
        dsimp only at e
        by_cases hC : C' = C
        · subst hC
          rw [if_pos rfl] at e
          obtain ⟨hc, dx, vs, ea, _, rr⟩ := hS.at_ n a _ e1 q
          obtain ⟨u, hu, ru⟩ := look_zip rr e
          exact ⟨hc, a, dx, _, u, rfl, ea, hu, ru⟩
        · rw [if_neg hC] at e; cases e
      | _ => cases e
theorem sE_fld {C x : Str} (hK : X.K = M.K) (k : KitOk M) (n : NoAttr M.K (M.cl C) x) (ho : PE X o (rdE M W fo)) (hb : attributeBase o x X.env (eval o X.env) = eval o X.env) :
    PE X (.Attribute o x pos) (rdE M W fun δ S => (fo δ S).bind fun d S => R.lift (fldD S C x d) S) :=
  PE.weak (pe_fld ho hb) fun σ H Q ⟨ρ, δ, S, hS, hE, hP⟩ => ⟨ρ, δ, S, hS, hE, hP.bind fun d S1 e1 ρ1 H1 v s1 hS1 r1 hP1 => by
    obtain ⟨d', e2, hP1⟩ := hP1.lift
    obtain ⟨hc, a, dx, fs, u, rfl, ea, hu, ru⟩ := fld_read hS1 r1 e2
    exact ⟨a, _, dx, fs, u, rfl, ea, hK ▸ (k.ins C hc).cl, hK ▸ n, hu, hP1.use Step.refl hS1 ru⟩⟩
theorem put_zip {ρ : Rho} {H : Hp} {x : Str} {d : D} {v : V} (r : Rep M ρ H d v) : ∀ {ns : List Str} {ds : List D} {vs : List V}, ns.length = vs.length → Reps M ρ H ds vs →
    ∃ vs', putF x v (ns.zip vs) = (putD x d ns ds).1.zip vs' ∧ (putD x d ns ds).1.length = vs'.length ∧ Reps M ρ H (putD x d ns ds).2 vs'
  | [], ds, vs, hl, h => by
    have : vs = [] := List.length_eq_zero_iff.mp hl.symm
    subst this
    have : ds = [] := List.length_eq_zero_iff.mp h.length
    subst this
    exact ⟨[v], rfl, rfl, Reps.one r⟩
  | n :: ns, [], vs, hl, h => by
    rw [Reps] at h; subst h; cases hl
  | n :: ns, e :: ds, _, hl, h => by
    rw [Reps] at h
    obtain ⟨u, w, rfl, h1, h2⟩ := h
    by_cases hn : n = x
    · refine ⟨v :: w, ?_, ?_, ?_⟩
      · unfold putD; rw [if_pos hn, List.zip_cons_cons]; simp [putF, hn]
      · unfold putD; rw [if_pos hn]; exact hl
      · unfold putD; rw [if_pos hn]; exact Reps.cons r h2
    · obtain ⟨vs', q1, q2, q3⟩ := put_zip r (ns := ns) (by simpa using hl) h2
      refine ⟨u :: vs', ?_, ?_, ?_⟩
      · unfold putD; rw [if_neg hn, List.zip_cons_cons]
        dsimp only
        rw [List.zip_cons_cons, ← q1]; simp [putF, hn]
      · unfold putD; rw [if_neg hn]; simp [q2]
      · unfold putD; rw [if_neg hn]; exact Reps.cons h1 q3
theorem sS_sfl {C x : Str} (hK : X.K = M.K) (k : KitOk M) (n : NoAttr M.K (M.cl C) x) (ho : PE X o (rdE M W fo)) (he : PE X e (rdE M W fa)) (hs : swapsWith e (some (.Attribute o x apos)) pos.line X.env = pure false) :
    PS X (.Assign [.Attribute o x apos] e pos) (rdS M W fun δ S => Out.of δ (fa δ S) fun d S => Out.of δ (fo δ S) fun y S => (match sflD C x y d S with
    | some S' => .nxt δ S'
    | none => .stuck)) := by
  refine PS.weak (ps_fld ho he hs) fun D σ H ⟨ρ, δ, S, hS, hE, hP⟩ => ⟨ρ, δ, S, hS, hE, hP.of hE fun d S1 e1 ρ1 H1 v s1 hS1 r1 hP1 => ⟨ρ1, δ, S1, hS1, hE.step s1, hP1.of (hE.step s1) fun y S2 e2 ρ2 H2 yv s2 hS2 r2 hP2 => ?_⟩⟩
  replace r1 := r1.step s2 d
  have hE2 := (hE.step s1).step s2
  cases y <;> try (exact hP2.elim)
  rename_i m
  unfold sflD at hP2
  dsimp only at hP2
  rw [Rep] at r2
  obtain ⟨al, e3, rfl⟩ := r2
  cases q : S2[m]? with
  | none => rw [q] at hP2; exact hP2.elim
  | some ob =>
    rw [q] at hP2
    cases ob with
    | ins C' ns ds =>
      dsimp only at hP2
      by_cases hC : C' = C ∧ ns.length < 100
      · rw [if_pos hC] at hP2
        obtain ⟨rfl, hl⟩ := hC
        obtain ⟨hc, dx, vs, ea, hl2, rr⟩ := hS2.at_ m al _ e3 q
        have s0 : ∀ u, Step ρ2 H2 ρ2 (upd H2 al u) := fun u => ⟨⟨[], by simp, by simp⟩, rfl, fun b w eb hb => by
          rw [upd_ne (fun z => hb (by rw [z]; exact List.mem_of_getElem? e3))]; exact eb⟩
        obtain ⟨vs', p1, p2, p3⟩ := put_zip (x := x) r1 hl2 rr
        obtain ⟨hS3, s3⟩ := hS2.put (o := .ins C' (putD x d ns ds).1 (putD x d ns ds).2) (u := .ins (M.cl C') dx (putF x v (ns.zip vs))) e3 ⟨hc, dx, vs', by rw [upd_same, p1], p2, p3.step (s0 _)⟩
        exact ⟨al, _, dx, _, rfl, ea, hK ▸ (k.ins C' hc).cl, hK ▸ n, by rw [List.length_zip]; omega, hP2 _ _ _ s3 hS3 (hE2.step s3)⟩
      · rw [if_neg hC] at hP2; exact hP2.elim
    | _ => exact hP2.elim
/-! ### C(..) -/
theorem run_makeS {CX : CXT} {k : Nat} {f C : Addr} {fd : FuncData} {ps : List Str} {sp : Sp} {E : L2.St → XK} {pins : List (Addr × Obj)} {σ : L2.St} {H : Hp} {s : Shared} {Q : VK} {us : List Value} {vs : List V} (Mk_ : Mk X.K C f) (F : FnOk X.prog X.w X.K X.mg X.base CX k f fd ps sp) (hr : Room (k + 1) X.A) (hb : Binds X.K fd ps [])
    (hx : PassesAt CX X σ (E σ)) (I : Inv X pins σ H s) (r : Vals vs us)
    (h : ∀ x dx, H x = none → H dx = none → dx ≠ x → sp (.ref x :: vs) (upd (upd H dx (.own x)) x (.ins C dx [])) (fun v H2 => v = .non ∧ Q (.ref x) H2) (E σ)) :
    wpAny (model X.prog X.w) X.A (call (.ref C) us) (EP X pins σ Q) X.xe s := by
  have hq := h (s.heap.objs.size + 1) s.heap.objs.size (I.hok.fresh (Nat.le_succ _)) (I.hok.fresh (Nat.le_refl _)) (Nat.ne_of_lt (Nat.lt_succ_self _))
  have I2 := Inv.made (C := C) I
  have r2 : Vals (V.ref (s.heap.objs.size + 1) :: vs) (Value.ref (s.heap.objs.size + 1) :: us) := .cons rfl r
  have hl : (Value.ref (s.heap.objs.size + 1) :: us).length = ps.length := by
    have e := r2.length
    rw [F.len _ _ _ _ hq] at e
    exact e.symm
  have b := hb _ (Value.ref (s.heap.objs.size + 1) :: us) I2.kIn (by rw [List.append_nil]; exact hl)
  rw [List.append_nil] at b
  refine wpAny_call (make_map (f := f) I.kIn Mk_.makes Mk_.init (beq_iff_eq.mp Mk_.fn) (codeAny_mono (F.run _ X.stack _ _ ⟨Value.ref (s.heap.objs.size + 1) :: us, []⟩ (Value.ref (s.heap.objs.size + 1) :: us) _ _ (E σ) (hr.make C us [])
    (I2.env0.make C us []) b r2 hq) fun r s' hq' => ?_))
  cases r with
  | error e => exact hx pins _ _ e s' I2 hq'
  | ok fl =>
    cases fl with
    | ret u =>
      obtain ⟨v, H', I3, rv, ev, q3⟩ := I2.after hq'
      subst ev
      exact ⟨rv, ⟨V.ref (s.heap.objs.size + 1), H', I3, rfl, q3⟩⟩
    | next => exact False.elim hq'
    | brk => exact False.elim hq'
    | cont => exact False.elim hq'
/-- a class and its __init__ -/
structure ClsFn (M : Mo) (X : Cx) (k : Nat) (x C : Str) (f : Addr) (φ : List D → Sto → R D) (n : Nat) : Prop where
  gl : X.mg x = some (.ref (M.cl C))
  mks : Mk X.K (M.cl C) f
  inn : C ∈ M.cs
  ok : ∃ fd ps, ps.length = n ∧ Binds X.K fd ps [] ∧ FnOk X.prog X.w X.K X.mg X.base (L2.CX X.prog X.w) k f fd ps (spD M φ n)
def newG (φ : List D → Sto → R D) (C : Str) (frz : Bool) (ds : List D) (S : Sto) : R D :=
  (φ (.loc S.length :: ds) (S ++ [.ins C [] []])).bind fun d S2 => match d with
    | .non => if frz then (match S2[S.length]? with
        | some (.ins C' ns xs) => if C' = C ∧ S2.length = S.length + 1 ∧ closed S.length (S2.take S.length) = true ∧ D.unds S.length xs = true then .ok (.obj C ns xs) (S2.take S.length) else .stuck
        | _ => .stuck)
      else .ok (.loc S.length) S2
    | _ => .stuck
end
end Py

set_option Elab.async false
set_option linter.all false
set_option maxRecDepth 100000
set_option maxHeartbeats 4000000
/-! Part N: the end of a call; instances; what a def promises. -/
namespace Py
open PySem PySem.Spec PyProof.Rows L2
section
variable {M : Mo} {ρ ρ' : Rho} {H H' : Hp} {k : Nat}
theorem pre_get (e : ρ'.l.take k = ρ.l) {n : Nat} {a : Addr} (h : ρ'.l[n]? = some a) (hn : n < k) : ρ.l[n]? = some a := by
  rw [← e, List.getElem?_take_of_lt hn]; exact h
theorem sub_mem (e : ρ'.l.take k = ρ.l) (ez : ρ'.z = ρ.z) {a : Addr} (h : a ∈ ρ) : a ∈ ρ' := by
  rcases h with h | h
  · left; rw [← e] at h; exact List.mem_of_mem_take h
  · right; rw [ez]; exact h
mutual
theorem Rep.cut (e : ρ'.l.take k = ρ.l) (ez : ρ'.z = ρ.z) : ∀ (d : D) {v : V}, D.und k d = true → Rep M ρ' H d v → Rep M ρ H d v
  | .non, _, _, h => by simpa only [Rep] using h
  | .bl b, _, _, h => by simpa only [Rep] using h
  | .int i, _, _, h => by simpa only [Rep] using h
  | .str x, _, _, h => by simpa only [Rep] using h
  | .tup ds, _, u, h => by
    rw [D.und] at u
    rw [Rep] at h ⊢
    obtain ⟨a, vs, ev, t, r⟩ := h
    refine ⟨a, vs, ev, ?_, Reps.cut e ez ds u r⟩
    rcases t with ⟨n, t⟩ | t
    · exact .inl ⟨fun z => n (sub_mem e ez z), t⟩
    · exact .inr t
  | .lst ds, _, u, h => by
    rw [D.und] at u
    rw [Rep] at h ⊢
    obtain ⟨a, vs, ev, t, r⟩ := h
    exact ⟨a, vs, ev, ⟨fun z => t.1 (sub_mem e ez z), t.2⟩, Reps.cut e ez ds u r⟩
  | .obj C ns ds, _, u, h => by
    rw [D.und] at u
    rw [Rep] at h ⊢
    obtain ⟨hc, a, dx, vs, ev, n, t, l, r⟩ := h
    exact ⟨hc, a, dx, vs, ev, fun z => n (sub_mem e ez z), t, l, Reps.cut e ez ds u r⟩
  | .loc n, _, u, h => by
    rw [D.und] at u
    rw [Rep] at h ⊢
    obtain ⟨a, e1, q⟩ := h
    exact ⟨a, pre_get e e1 (of_decide_eq_true u), q⟩
  | .fn f, _, _, h => by simpa only [Rep] using h
  | .scr ds, _, u, h => by
    rw [D.und] at u
    rw [Rep] at h ⊢
    obtain ⟨a, vs, ev, t, r⟩ := h
    refine ⟨a, vs, ev, ?_, Reps.cut e ez ds u r⟩
    rcases t with ⟨n, t⟩ | t
    · exact .inl ⟨fun z => n (sub_mem e ez z), t⟩
    · exact .inr t
theorem Reps.cut (e : ρ'.l.take k = ρ.l) (ez : ρ'.z = ρ.z) : ∀ (ds : List D) {vs : List V}, D.unds k ds = true → Reps M ρ' H ds vs → Reps M ρ H ds vs
  | [], _, _, h => by simpa only [Reps] using h
  | d :: ds, _, u, h => by
    rw [D.unds, Bool.and_eq_true] at u
    rw [Reps] at h ⊢
    obtain ⟨v, r, ev, h1, h2⟩ := h
    exact ⟨v, r, ev, Rep.cut e ez d u.1 h1, Reps.cut e ez ds u.2 h2⟩
end
theorem RepO.cut (e : ρ'.l.take k = ρ.l) (ez : ρ'.z = ρ.z) {a : Addr} {o : O} (u : O.und k o = true) (h : RepO M ρ' H a o) : RepO M ρ H a o := by
  cases o with
  | lst ds => obtain ⟨vs, ea, g⟩ := h; exact ⟨vs, ea, Reps.cut e ez ds u g⟩
  | ins C ns ds => obtain ⟨hc, dx, vs, ea, l, g⟩ := h; exact ⟨hc, dx, vs, ea, l, Reps.cut e ez ds u g⟩
  | dT ks ds => obtain ⟨vs, ea, l, g⟩ := h; exact ⟨vs, ea, l, Reps.cut e ez ds u g⟩
theorem step_take (s : Step ρ H ρ' H') : ρ'.l.take ρ.l.length = ρ.l ∧ ρ'.z = ρ.z := by
  obtain ⟨ex, e, _⟩ := s.ext
  refine ⟨?_, s.z⟩
  rw [e, List.take_left]
theorem step_cut (s : Step ρ H ρ' H') : Step ρ H ρ H' := ⟨⟨[], by simp, by simp⟩, rfl, s.keep⟩
theorem RepSt.cut {S : Sto} (e : ρ'.l.take k = ρ.l) (ez : ρ'.z = ρ.z) (h : RepSt M ρ' H S) (u : closed k (S.take k) = true) (hk : k ≤ S.length) : RepSt M ρ H (S.take k) := by
  have hl : ρ.l.length = k := by rw [← e, List.length_take, h.len]; omega
  refine ⟨?_, by rw [hl, List.length_take]; omega, fun n a o e1 e2 => ?_, fun b hb => ?_⟩
  · rw [← e]; exact h.nd.sublist (List.take_sublist _ _)
  · have hn : n < k := by rw [← hl]; exact (List.getElem?_eq_some_iff.mp e1).1
    rw [List.getElem?_take_of_lt hn] at e2
    have e1' : ρ'.l[n]? = some a := by rw [← e, List.getElem?_take_of_lt hn] at e1; exact e1
    have uo : O.und k o = true := List.all_eq_true.mp u o (List.mem_of_getElem? (i := n) (by rw [List.getElem?_take_of_lt hn]; exact e2))
    exact RepO.cut e ez uo (h.at_ n a o e1' e2)
  · obtain ⟨n1, o, eo⟩ := h.zs b (by rw [ez]; exact hb)
    exact ⟨fun z => n1 (by rw [← e] at z; exact List.mem_of_mem_take z), o, eo⟩
/-- a place behind the cut is no place any more -/
theorem out_cut {S : Sto} (e : ρ'.l.take k = ρ.l) (ez : ρ'.z = ρ.z) (h : RepSt M ρ' H S) {n : Nat} {a : Addr} (ha : ρ'.l[n]? = some a) (hn : k ≤ n) : a ∉ ρ := fun z => by
  rcases z with z | z
  · rw [← e] at z
    obtain ⟨m, hm, em⟩ := List.mem_iff_getElem.mp z
    have h1 : (ρ'.l.take k)[m]? = some a := by rw [List.getElem?_eq_getElem hm, em]
    have hmk : m < k := by rw [List.length_take] at hm; omega
    rw [List.getElem?_take_of_lt hmk] at h1
    have := nd_ix h.nd h1 ha
    omega
  · exact (h.zs a (by rw [ez]; exact z)).1 (List.mem_of_getElem? ha)
variable {W : WX} {σ : L2.St} {Q : VK} {S S' : Sto}
/-- the end of a call that returns -/
theorem post_cut {d : D} (hS : RepSt M ρ H S) (hP : Post M W σ ρ H (Rep M) Q (cut S.length d S')) : ∀ ρ' H' v, Step ρ H ρ' H' → RepSt M ρ' H' S' → Rep M ρ' H' d v → Q v H' := fun ρ' H' v s hS' r => by
  unfold Py.cut at hP
  obtain ⟨e, ez⟩ := step_take s
  rw [hS.len] at e
  by_cases h0 : S'.length ≤ S.length
  · rw [if_pos h0] at hP; exact hP _ _ _ s hS' r
  · rw [if_neg h0] at hP
    by_cases h1 : closed S.length (S'.take S.length) = true
    · rw [if_pos h1] at hP
      have hS2 := hS'.cut e ez h1 (by omega)
      have s2 := step_cut s
      have other : (if d.und S.length = true then R.ok d (S'.take S.length) else .stuck) = (if d.und S.length = true then R.ok d (S'.take S.length) else .stuck) → Post M W σ ρ H (Rep M) Q (if d.und S.length = true then R.ok d (S'.take S.length) else .stuck) → Q v H' := fun _ hP => by
        by_cases h2 : d.und S.length = true
        · rw [if_pos h2] at hP
          exact hP _ _ _ s2 hS2 (Rep.cut e ez d h2 r)
        · rw [if_neg h2] at hP; exact hP.elim
      cases d with
      | loc n =>
        dsimp only at hP
        by_cases hn : n < S.length
        · rw [if_pos hn] at hP
          exact hP _ _ _ s2 hS2 (Rep.cut e ez (.loc n) (by rw [D.und]; exact decide_eq_true hn) r)
        · rw [if_neg hn] at hP
          cases q : lstAt S' n with
          | none => rw [q] at hP; exact hP.elim
          | some ds =>
            rw [q] at hP
            dsimp only at hP
            by_cases hu : D.unds S.length ds = true
            · rw [if_pos hu] at hP
              rw [Rep] at r
              obtain ⟨a, e1, rfl⟩ := r
              obtain ⟨vs, ha, rr⟩ := lst_of_at hS' e1 q
              refine hP _ _ _ s2 hS2 ?_
              rw [Rep]
              exact ⟨a, vs, rfl, ⟨out_cut e ez hS' e1 (Nat.le_of_not_lt hn), ha⟩, Reps.cut e ez ds hu rr⟩
            · rw [if_neg hu] at hP; exact hP.elim
      | _ => exact other rfl hP
    · rw [if_neg h1] at hP; exact hP.elim
theorem post_cutX {x : Ex} (hS : RepSt M ρ H S) (hP : Post M W σ ρ H (Rep M) Q (cutX S.length x S')) : ∀ ρ' H' cls dd, Step ρ H ρ' H' → RepSt M ρ' H' S' → RepX M ρ' H' x cls dd → W cls dd σ H' := fun ρ' H' cls dd s hS' r => by
  unfold cutX at hP
  obtain ⟨e, ez⟩ := step_take s
  rw [hS.len] at e
  by_cases h0 : S'.length ≤ S.length
  · rw [if_pos h0] at hP; exact hP _ _ _ _ s hS' r
  · rw [if_neg h0] at hP
    by_cases h1 : (closed S.length (S'.take S.length) && D.unds S.length x.ds) = true
    · rw [if_pos h1] at hP
      rw [Bool.and_eq_true] at h1
      refine hP _ _ _ _ (step_cut s) (hS'.cut e ez h1.1 (by omega)) ⟨r.1, ?_⟩
      rcases r.2 with q | ⟨d, vs, q1, q2, q3, q4⟩
      · exact .inl q
      · exact .inr ⟨d, vs, q1, q2, q3, Reps.cut e ez x.ds h1.2 q4⟩
    · rw [if_neg h1] at hP; exact hP.elim
end
/-! ### C(..) -/
section
variable {M : Mo} {X : Cx} {W : WX} {e : Expr} {es : List Expr} {pos p : Pos} {fs : Env → Sto → R (List D)} {φ : List D → Sto → R D} {C : Str} {frz : Bool}
theorem new_ins {ρ : Rho} {H : Hp} {S : Sto} {x dx : Addr} (hS : RepSt M ρ H S) (hc : C ∈ M.cs) (hx : H x = none) (hd : H dx = none) (ne : dx ≠ x) :
    Step ρ H (ρ.push x) (upd (upd H dx (.own x)) x (.ins (M.cl C) dx [])) ∧ RepSt M (ρ.push x) (upd (upd H dx (.own x)) x (.ins (M.cl C) dx [])) (S ++ [.ins C [] []]) := by
  have hx2 : upd H dx (.own x) x = none := by rw [upd_ne (Ne.symm ne)]; exact hx
  have k : ∀ a u, H a = some u → upd (upd H dx (.own x)) x (.ins (M.cl C) dx []) a = some u := fun a u q => upd_keeps hx2 a u (upd_keeps hd a u q)
  obtain ⟨h1, s⟩ := hS.push (o := .ins C [] []) k hx ⟨hc, dx, [], upd_same, rfl, Reps.nil⟩
  exact ⟨s, h1⟩
theorem sE_new {x : Str} {f : Addr} {n k : Nat} (hT : ClsFn M X k x C f φ n) (hr : Room (k + 1) X.A) (hg : Gl X x) (tk : Takes X W) (kp : PySem.W.keepIn X.K (.ref (M.cl C)) = true) (ha : PA X (e :: es) (rdA M W fs)) (hdb : (x == ("__debug__" : Str)) = false)
    (he : starEach (e :: es) X.env = (false, eval e X.env) :: starEach es X.env) (hpl : (backTo pos (starEach es X.env)).any (·.1) = false) :
    PE X (.Call (.Name x p) (e :: es) [] pos) (rdE M W fun δ S => (fs δ S).bind fun ds S => if ds.length + 1 = n then newG φ C frz ds S else .stuck) := by
  obtain ⟨fd, ps, hn, hb, F⟩ := hT.ok
  refine ⟨fun pins s σ H Q I ⟨ρ, δ, S, hS, hE, hP⟩ => ?_⟩
  refine wpAny_Call_Name_kw (ld_glob I hg hT.gl ?_ hdb)
  have hA := ha.run pos pins s σ H (fun vs H1 => ∀ x dx, H1 x = none → H1 dx = none → dx ≠ x → spD M φ n (.ref x :: vs) (upd (upd H1 dx (.own x)) x (.ins (M.cl C) dx [])) (fun v H2 => v = .non ∧ Q (.ref x) H2) (WE W σ)) I ⟨ρ, δ, S, hS, hE, hP.bind fun ds S1 e1 ρ1 H1 vs s1 hS1 r1 hP1 => ?_⟩
  · refine PySem.W.callWith_K (h₀ := X.base) I.ok.mod.kin kp (thn hA fun us s1 ⟨vs, H1, I1, r, q⟩ => ⟨I1.kIn, ?_⟩) he hpl
    exact run_makeS hT.mks F hr hb (passAt tk σ) I1 r q
  · intro xa dx hx hd ne
    by_cases hl : ds.length + 1 = n
    · rw [if_pos hl] at hP1
      obtain ⟨s2, hS2⟩ := new_ins hS1 hT.inn hx hd ne
      have hla : (ρ1.push xa).l[S1.length]? = some xa := by
        show (ρ1.l ++ [xa])[S1.length]? = some xa
        rw [← hS1.len, List.getElem?_append_right (Nat.le_refl _)]; simp
      refine ⟨by rw [List.length_cons, ← r1.length]; exact hl, ρ1.push xa, S1 ++ [.ins C [] []], .loc S1.length :: ds, hS2, Reps.cons (by rw [Rep]; exact ⟨xa, hla, rfl⟩) (r1.step s2 ds), ?_⟩
      unfold newG at hP1
      cases ef : φ (.loc S1.length :: ds) (S1 ++ [.ins C [] []]) with
      | stuck => rw [ef] at hP1; exact hP1.elim
      | exc x' S' => rw [ef] at hP1; exact fun ρ' H' c d s' => hP1 ρ' H' c d (s2.trans s')
      | ok d S' =>
        rw [ef, R.bind_ok] at hP1
        cases d <;> try (exact hP1.elim)
        dsimp only at hP1
        intro ρ3 H3 v s3 hS3 r3
        refine ⟨rep_non_inv r3, ?_⟩
        have s13 := s2.trans s3
        cases frz with
        | false =>
          rw [if_neg Bool.false_ne_true] at hP1
          refine hP1 _ _ _ s13 hS3 ?_
          rw [Rep]
          exact ⟨xa, s3.pre hla, rfl⟩
        | true =>
          rw [if_pos rfl] at hP1
          cases q : S'[S1.length]? with
          | none => rw [q] at hP1; exact hP1.elim
          | some o =>
            rw [q] at hP1
            cases o with
            | ins C' ns xs =>
              dsimp only at hP1
              by_cases hg2 : C' = C ∧ S'.length = S1.length + 1 ∧ closed S1.length (S'.take S1.length) = true ∧ D.unds S1.length xs = true
              · rw [if_pos hg2] at hP1
                obtain ⟨rfl, h1, h2, h3⟩ := hg2
                obtain ⟨et, ez⟩ := step_take s13
                rw [hS1.len] at et
                obtain ⟨hc, dx', vs', ea, hl2, rr⟩ := hS3.at_ _ _ _ (s3.pre hla) q
                refine hP1 _ _ _ (step_cut s13) (hS3.cut et ez h2 (by omega)) ?_
                rw [Rep]
                exact ⟨hc, xa, dx', vs', rfl, out_cut et ez hS3 (s3.pre hla) (Nat.le_refl _), ea, hl2, Reps.cut et ez xs h3 rr⟩
              · rw [if_neg hg2] at hP1; exact hP1.elim
            | _ => exact hP1.elim
    · rw [if_neg hl] at hP1; exact hP1.elim
end
end Py

set_option Elab.async false
set_option linter.all false
set_option maxRecDepth 100000
set_option maxHeartbeats 4000000
/-! Part Y: zip of two lists, two tuples, a tuple and a list. -/
namespace RZ
open PySem PySem.Spec PyProof.Rows L2
theorem sep_of {z TI TO i1 i2 a b : Addr} (D : ZipApart z TI TO i1 i2 a b) : ZipSep2 z TI TO i1 i2 [i1, a] [i2, b] where
  TIz := D.TIz
  TOz := D.TOz
  TITO := D.TITO
  TIi1 := D.TIi1
  mem1 := by simp
  zf1 := by simp [D.i1z.symm, D.l1z.symm]
  Tf1 := by simp [D.TOi1, D.l1TO.symm]
  TIi2 := D.TIi2
  mem2 := by simp
  zf2 := by simp [D.i2z.symm, D.l2z.symm]
  Tf2 := by simp [D.TOi2, D.l2TO.symm]
  sep1_2 := by simp [D.i12, D.l2i1.symm]
  sep2_1 := by simp [D.i12.symm, D.l1i2.symm]
/-- a tuple and a list, in new pairs -/
def ItzM (K : PySem.W.Frag) (a b : Addr) : It :=
  ⟨fun i H => ∃ (xs ys : List V) (x y : V), SqT K H a xs ∧ SqL K H b ys ∧ xs[i]? = some x ∧ ys[i]? = some y,
    fun i H v H' => ∃ T x y o, v = .ref T ∧ H T = none ∧ Obj.dict o = none ∧ H' = upd H T (.frz o (.tup [x, y])) ∧ (∀ xs, SqT K H a xs → xs[i]? = some x) ∧ ∀ ys, SqL K H b ys → ys[i]? = some y,
    fun i H => ∃ xs ys : List V, SqT K H a xs ∧ SqL K H b ys ∧ i = min xs.length ys.length⟩
theorem turn_zipM {P : Program} {w : World} {K : PySem.W.Frag} {elts : List Expr} {kk : Nat} {tpos : Pos} {a b z TI TO i1 i2 : Addr} (D : ZipApart z TI TO i1 i2 a b) :
    Turn P w K (.Tuple elts kk tpos) (ItzM K a b) [z, TI, TO, i1, i2] z (fun i h => IsZip h z TI TO .none ∧ IsPair h TI (.ref i1) (.ref i2) ∧ (∃ x y, IsPair h TO x y) ∧ h.IsTupleIter i1 a i ∧ h.IsListIter i2 b i) where
  mem := by simp
  obj := fun i h st c hc => by
    obtain ⟨hz, hTI, ⟨x, y, hTO⟩, ⟨o1, e1, _, d1⟩, ⟨o2, e2, _, d2⟩⟩ := st
    have e' : c = z ∨ c = TI ∨ c = TO ∨ c = i1 ∨ c = i2 := by simpa using hc
    rcases e' with q | q | q | q | q
    · rw [q]; exact ⟨_, hz, fun v q => nomatch q⟩
    · rw [q]; exact ⟨_, hTI, fun v q => nomatch q⟩
    · rw [q]; exact ⟨_, hTO, fun v q => nomatch q⟩
    · rw [q]; exact ⟨o1, e1, fun v q => by rw [d1] at q; cases q⟩
    · rw [q]; exact ⟨o2, e2, fun v q => by rw [d2] at q; cases q⟩
  keep := fun i h h' st k => by
    obtain ⟨hz, hTI, ⟨x, y, hTO⟩, h1, h2⟩ := st
    exact ⟨k z (by simp) _ hz, k TI (by simp) _ hTI, ⟨x, y, k TO (by simp) _ hTO⟩, h1.at fun o q => k i1 (by simp) o q, h2.at fun o q => k i2 (by simp) o q⟩
  item := by
    intro X hP hw hK hc i pins s σ H E I hf st hg
    subst hP hw hK
    obtain ⟨hz, hTI, ⟨x0, y0, hTO⟩, h1, h2⟩ := st
    obtain ⟨xs, ys, x, y, hqx, hqy, hx, hy⟩ := hg
    obtain ⟨its, rv, p, _⟩ := I.tuple hqx
    replace p : s.heap.IsTuple a its.toArray := p
    obtain ⟨its2, rv2, p2, _⟩ := I.list hqy
    replace p2 : s.heap.IsList b its2.toArray := p2.isList
    obtain ⟨u, hu, ru⟩ := rv.get hx
    obtain ⟨u2, hu2, ru2⟩ := rv2.get hy
    have hzl : z < s.heap.objs.size := Heap.lt_size hz
    have hul : i < its.toArray.size := by have := (List.getElem?_eq_some_iff.mp hu).1; simpa using this
    have hul2 : i < its2.toArray.size := by have := (List.getElem?_eq_some_iff.mp hu2).1; simpa using this
    refine wpAny_pyNext_zipD2_item (sep_of D) (Draws.tuple (A := X.A.in1) (I.ok.hd hc) i1 a D.l1i1 its.toArray) (Draws.list (A := X.A.in1) (I.ok.hd hc) i2 b D.l2i2 its2.toArray) hz hTI hTO ⟨h1, p⟩ ⟨h2, p2⟩ hul hul2 fun v1 v2 h' tk g1 g2 z' TO' s1' s2' hT hsz hk => ?_
    have ev1 : u = v1 := Option.some.inj (hu.symm.trans (by simpa using g1))
    have ev2 : u2 = v2 := Option.some.inj (hu2.symm.trans (by simpa using g2))
    subst ev1 ev2
    refine ⟨_, rfl, wpAny_letOwnedTupleGo_zip (s := { s with heap := h', toks := tk }) z' fun h'' z'' sb => ?_⟩
    have hT2 : h''.get? s.heap.objs.size = some { cls := .type "tuple", data := .seq #[u, u2] } := (sb.2 _ (Nat.ne_of_gt hzl)).trans hT
    have new : ObjOk X.prog X.w (upd H s.heap.objs.size (.frz { cls := .type "tuple", data := .seq #[u, u2] } (.tup [x, y]))) h'' s.heap.objs.size (.frz { cls := .type "tuple", data := .seq #[u, u2] } (.tup [x, y])) :=
      ⟨hT2, by show 2 ≤ sizeLine; decide, [u, u2], .cons ru (.cons ru2 .nil), ⟨_, hT2, rfl, _, rfl⟩⟩
    have I1 : Inv X pins σ (upd H s.heap.objs.size (.frz { cls := .type "tuple", data := .seq #[u, u2] } (.tup [x, y]))) { s with heap := h'', toks := tk } :=
      I.turnedNew (ch := [z, TI, TO, i1, i2]) (fun c o hb q => (sb.2 c (fun q' => hb (by simp [q']))).trans (hk c o (fun q' => hb (by simp [q'])) (fun q' => hb (by simp [q'])) (fun q' => hb (by simp [q'])) (fun q' => hb (by simp [q'])) q)) hf (Nat.le_refl _) new
    refine ⟨.ref s.heap.objs.size, _, I1, rfl, ⟨_, x, y, _, rfl, I.hok.fresh (Nat.le_refl _), rfl, rfl, fun l hl => by rw [I.tuple_inj hl hqx]; exact hx, fun l hl => by rw [I.list_inj hl hqy]; exact hy⟩, ⟨z'', ?_, ⟨u, u2, ?_⟩, ?_, ?_⟩, fun c hcm => ?_⟩
    · exact (sb.2 _ D.TIz).trans (hk _ _ D.TIz D.TITO D.TIi1 D.TIi2 hTI)
    · exact (sb.2 _ D.TOz).trans TO'
    · exact s1'.1.at fun o q => (sb.2 _ D.i1z).trans q
    · exact s2'.1.at fun o q => (sb.2 _ D.i2z).trans q
    · have hlt : c < s.heap.objs.size := by
        have e' : c = z ∨ c = TI ∨ c = TO ∨ c = i1 ∨ c = i2 := by simpa using hcm
        rcases e' with q | q | q | q | q
        · rw [q]; exact hzl
        · rw [q]; exact Heap.lt_size hTI
        · rw [q]; exact Heap.lt_size hTO
        · rw [q]; obtain ⟨_, e1, _⟩ := h1; exact Heap.lt_size e1
        · rw [q]; obtain ⟨_, e2, _⟩ := h2; exact Heap.lt_size e2
      rw [upd_ne (Nat.ne_of_lt hlt)]
      exact (hf c hcm).1
  done := by
    intro X hP hw hK hc i pins s σ H E I hf st hg
    subst hP hw hK
    obtain ⟨hz, hTI, ⟨x0, y0, hTO⟩, h1, h2⟩ := st
    obtain ⟨xs, ys, hqx, hqy, hend⟩ := hg
    obtain ⟨its, rv, p, _⟩ := I.tuple hqx
    replace p : s.heap.IsTuple a its.toArray := p
    obtain ⟨its2, rv2, p2, _⟩ := I.list hqy
    replace p2 : s.heap.IsList b its2.toArray := p2.isList
    have l1 := rv.length
    have l2 := rv2.length
    refine wpAny_pyNext_zipD2_end (sep_of D) (Draws.tuple (A := X.A.in1) (I.ok.hd hc) i1 a D.l1i1 its.toArray) (Draws.list (A := X.A.in1) (I.ok.hd hc) i2 b D.l2i2 its2.toArray) hz hTI hTO ⟨h1, p⟩ ⟨h2, p2⟩ (by simp; omega) (by simp; omega) (by simp; omega) fun h' tk hk => ?_
    exact ⟨rfl, I.turnedL (ch := [z, TI, TO, i1, i2]) (fun c o hb q => hk c o (fun q' => hb (by simp [q'])) (fun q' => hb (by simp [q'])) (fun q' => hb (by simp [q'])) (fun q' => hb (by simp [q'])) q) hf⟩
  self := fun A i s Q E st h => wpAny_pyIter_zip st.1 h
def iZipM (K : PySem.W.Frag) (ta : TA) : TI := fun σ H R => ta σ H fun vs H1 => ∃ a b xs ys, vs = [.ref a, .ref b] ∧ SqT K H1 a xs ∧ SqL K H1 b ys ∧ R (ItzM K a b) H1
theorem pi_zipM {X : Cx} {e e2 : Expr} {ta : TA} {p pos tpos : Pos} {elts : List Expr} {kk : Nat} (hg : Gl X "zip") (hm : X.mg "zip" = none) (ha : PA X [e, e2] ta)
    (hs : starEach [e, e2] X.env = (false, eval e X.env) :: starEach [e2] X.env) (hpl : (backTo pos (starEach [e2] X.env)).any (·.1) = false) :
    PI X (.Tuple elts kk tpos) (.Call (.Name "zip" p) [e, e2] [] pos) (iZipM X.K ta) := by
  refine ⟨fun pins s σ H R I h => ?_⟩
  refine Call_ (ld_blt I hg hm PyProof.Rows.boot_zip (PyProof.Rows.callWith_type1 (thn (ha.run pos pins s σ H _ I h) fun us s1 ⟨vs, H1, I1, r1, q1⟩ => ?_) hs hpl))
  obtain ⟨a, b, xs, ys, ex, hqx, hqy, q⟩ := q1
  subst ex
  cases r1 with
  | cons r rr =>
    cases rr with
    | cons r' rr =>
      cases rr
      cases r
      cases r'
      have fresh5 : ∀ c, c ∈ [s1.heap.objs.size + 4, s1.heap.objs.size + 2, s1.heap.objs.size + 3, s1.heap.objs.size, s1.heap.objs.size + 1] → FpOk X pins H1 c := fun c hcm => by
        have e' : c = s1.heap.objs.size + 4 ∨ c = s1.heap.objs.size + 2 ∨ c = s1.heap.objs.size + 3 ∨ c = s1.heap.objs.size ∨ c = s1.heap.objs.size + 1 := by simpa using hcm
        have hle : s1.heap.objs.size ≤ c := by
          rcases e' with z | z | z | z | z
          · rw [z]; exact Nat.le_add_right _ _
          · rw [z]; exact Nat.le_add_right _ _
          · rw [z]; exact Nat.le_add_right _ _
          · rw [z]; exact Nat.le_refl _
          · rw [z]; exact Nat.le_add_right _ _
        exact I1.fpOk hle (I1.hok.fresh hle)
      obtain ⟨its, rv, p1, _⟩ := I1.tuple hqx
      replace p1 : s1.heap.IsTuple a its.toArray := p1
      obtain ⟨its2, rv2, p2, _⟩ := I1.list hqy
      replace p2 : s1.heap.IsList b its2.toArray := p2.isList
      obtain ⟨o1, ho1, _⟩ := id p1
      obtain ⟨o2, ho2, _⟩ := id p2
      refine zip_begins2 (begins_tuple a its.toArray) (begins_list b its2.toArray) p1 p2 fun h' hz hTI hTO h1 h2 hsz hk => wpAny_pyIter_zip hz ?_
      have I2 : Inv X pins σ H1 { s1 with heap := h' } := I1.kept (t' := s1.toks) hk
      exact ⟨s1.heap.objs.size + 4, [s1.heap.objs.size + 4, s1.heap.objs.size + 2, s1.heap.objs.size + 3, s1.heap.objs.size, s1.heap.objs.size + 1], _, _, H1, rfl, I2, turn_zipM (PySem.W.ktu_apart s1.heap.objs.size a b (Heap.lt_size ho1) (Heap.lt_size ho2)), ⟨hz, hTI, ⟨_, _, hTO⟩, ⟨_, h1, rfl, rfl⟩, ⟨_, h2, rfl, rfl⟩⟩, fresh5, q⟩
/-- a tuple and a list, in new pairs -/
def ItzTT (K : PySem.W.Frag) (a b : Addr) : It :=
  ⟨fun i H => ∃ (xs ys : List V) (x y : V), SqT K H a xs ∧ SqT K H b ys ∧ xs[i]? = some x ∧ ys[i]? = some y,
    fun i H v H' => ∃ T x y o, v = .ref T ∧ H T = none ∧ Obj.dict o = none ∧ H' = upd H T (.frz o (.tup [x, y])) ∧ (∀ xs, SqT K H a xs → xs[i]? = some x) ∧ ∀ ys, SqT K H b ys → ys[i]? = some y,
    fun i H => ∃ xs ys : List V, SqT K H a xs ∧ SqT K H b ys ∧ i = min xs.length ys.length⟩
theorem turn_zipTT {P : Program} {w : World} {K : PySem.W.Frag} {elts : List Expr} {kk : Nat} {tpos : Pos} {a b z TI TO i1 i2 : Addr} (D : ZipApart z TI TO i1 i2 a b) :
    Turn P w K (.Tuple elts kk tpos) (ItzTT K a b) [z, TI, TO, i1, i2] z (fun i h => IsZip h z TI TO .none ∧ IsPair h TI (.ref i1) (.ref i2) ∧ (∃ x y, IsPair h TO x y) ∧ h.IsTupleIter i1 a i ∧ h.IsTupleIter i2 b i) where
  mem := by simp
  obj := fun i h st c hc => by
    obtain ⟨hz, hTI, ⟨x, y, hTO⟩, ⟨o1, e1, _, d1⟩, ⟨o2, e2, _, d2⟩⟩ := st
    have e' : c = z ∨ c = TI ∨ c = TO ∨ c = i1 ∨ c = i2 := by simpa using hc
    rcases e' with q | q | q | q | q
    · rw [q]; exact ⟨_, hz, fun v q => nomatch q⟩
    · rw [q]; exact ⟨_, hTI, fun v q => nomatch q⟩
    · rw [q]; exact ⟨_, hTO, fun v q => nomatch q⟩
    · rw [q]; exact ⟨o1, e1, fun v q => by rw [d1] at q; cases q⟩
    · rw [q]; exact ⟨o2, e2, fun v q => by rw [d2] at q; cases q⟩
  keep := fun i h h' st k => by
    obtain ⟨hz, hTI, ⟨x, y, hTO⟩, h1, h2⟩ := st
    exact ⟨k z (by simp) _ hz, k TI (by simp) _ hTI, ⟨x, y, k TO (by simp) _ hTO⟩, h1.at fun o q => k i1 (by simp) o q, h2.at fun o q => k i2 (by simp) o q⟩
  item := by
    intro X hP hw hK hc i pins s σ H E I hf st hg
    subst hP hw hK
    obtain ⟨hz, hTI, ⟨x0, y0, hTO⟩, h1, h2⟩ := st
    obtain ⟨xs, ys, x, y, hqx, hqy, hx, hy⟩ := hg
    obtain ⟨its, rv, p, _⟩ := I.tuple hqx
    replace p : s.heap.IsTuple a its.toArray := p
    obtain ⟨its2, rv2, p2, _⟩ := I.tuple hqy
    replace p2 : s.heap.IsTuple b its2.toArray := p2
    obtain ⟨u, hu, ru⟩ := rv.get hx
    obtain ⟨u2, hu2, ru2⟩ := rv2.get hy
    have hzl : z < s.heap.objs.size := Heap.lt_size hz
    have hul : i < its.toArray.size := by have := (List.getElem?_eq_some_iff.mp hu).1; simpa using this
    have hul2 : i < its2.toArray.size := by have := (List.getElem?_eq_some_iff.mp hu2).1; simpa using this
    refine wpAny_pyNext_zipD2_item (sep_of D) (Draws.tuple (A := X.A.in1) (I.ok.hd hc) i1 a D.l1i1 its.toArray) (Draws.tuple (A := X.A.in1) (I.ok.hd hc) i2 b D.l2i2 its2.toArray) hz hTI hTO ⟨h1, p⟩ ⟨h2, p2⟩ hul hul2 fun v1 v2 h' tk g1 g2 z' TO' s1' s2' hT hsz hk => ?_
    have ev1 : u = v1 := Option.some.inj (hu.symm.trans (by simpa using g1))
    have ev2 : u2 = v2 := Option.some.inj (hu2.symm.trans (by simpa using g2))
    subst ev1 ev2
    refine ⟨_, rfl, wpAny_letOwnedTupleGo_zip (s := { s with heap := h', toks := tk }) z' fun h'' z'' sb => ?_⟩
    have hT2 : h''.get? s.heap.objs.size = some { cls := .type "tuple", data := .seq #[u, u2] } := (sb.2 _ (Nat.ne_of_gt hzl)).trans hT
    have new : ObjOk X.prog X.w (upd H s.heap.objs.size (.frz { cls := .type "tuple", data := .seq #[u, u2] } (.tup [x, y]))) h'' s.heap.objs.size (.frz { cls := .type "tuple", data := .seq #[u, u2] } (.tup [x, y])) :=
      ⟨hT2, by show 2 ≤ sizeLine; decide, [u, u2], .cons ru (.cons ru2 .nil), ⟨_, hT2, rfl, _, rfl⟩⟩
    have I1 : Inv X pins σ (upd H s.heap.objs.size (.frz { cls := .type "tuple", data := .seq #[u, u2] } (.tup [x, y]))) { s with heap := h'', toks := tk } :=
      I.turnedNew (ch := [z, TI, TO, i1, i2]) (fun c o hb q => (sb.2 c (fun q' => hb (by simp [q']))).trans (hk c o (fun q' => hb (by simp [q'])) (fun q' => hb (by simp [q'])) (fun q' => hb (by simp [q'])) (fun q' => hb (by simp [q'])) q)) hf (Nat.le_refl _) new
    refine ⟨.ref s.heap.objs.size, _, I1, rfl, ⟨_, x, y, _, rfl, I.hok.fresh (Nat.le_refl _), rfl, rfl, fun l hl => by rw [I.tuple_inj hl hqx]; exact hx, fun l hl => by rw [I.tuple_inj hl hqy]; exact hy⟩, ⟨z'', ?_, ⟨u, u2, ?_⟩, ?_, ?_⟩, fun c hcm => ?_⟩
    · exact (sb.2 _ D.TIz).trans (hk _ _ D.TIz D.TITO D.TIi1 D.TIi2 hTI)
    · exact (sb.2 _ D.TOz).trans TO'
    · exact s1'.1.at fun o q => (sb.2 _ D.i1z).trans q
    · exact s2'.1.at fun o q => (sb.2 _ D.i2z).trans q
    · have hlt : c < s.heap.objs.size := by
        have e' : c = z ∨ c = TI ∨ c = TO ∨ c = i1 ∨ c = i2 := by simpa using hcm
        rcases e' with q | q | q | q | q
        · rw [q]; exact hzl
        · rw [q]; exact Heap.lt_size hTI
        · rw [q]; exact Heap.lt_size hTO
        · rw [q]; obtain ⟨_, e1, _⟩ := h1; exact Heap.lt_size e1
        · rw [q]; obtain ⟨_, e2, _⟩ := h2; exact Heap.lt_size e2
      rw [upd_ne (Nat.ne_of_lt hlt)]
      exact (hf c hcm).1
  done := by
    intro X hP hw hK hc i pins s σ H E I hf st hg
    subst hP hw hK
    obtain ⟨hz, hTI, ⟨x0, y0, hTO⟩, h1, h2⟩ := st
    obtain ⟨xs, ys, hqx, hqy, hend⟩ := hg
    obtain ⟨its, rv, p, _⟩ := I.tuple hqx
    replace p : s.heap.IsTuple a its.toArray := p
    obtain ⟨its2, rv2, p2, _⟩ := I.tuple hqy
    replace p2 : s.heap.IsTuple b its2.toArray := p2
    have l1 := rv.length
    have l2 := rv2.length
    refine wpAny_pyNext_zipD2_end (sep_of D) (Draws.tuple (A := X.A.in1) (I.ok.hd hc) i1 a D.l1i1 its.toArray) (Draws.tuple (A := X.A.in1) (I.ok.hd hc) i2 b D.l2i2 its2.toArray) hz hTI hTO ⟨h1, p⟩ ⟨h2, p2⟩ (by simp; omega) (by simp; omega) (by simp; omega) fun h' tk hk => ?_
    exact ⟨rfl, I.turnedL (ch := [z, TI, TO, i1, i2]) (fun c o hb q => hk c o (fun q' => hb (by simp [q'])) (fun q' => hb (by simp [q'])) (fun q' => hb (by simp [q'])) (fun q' => hb (by simp [q'])) q) hf⟩
  self := fun A i s Q E st h => wpAny_pyIter_zip st.1 h
def iZipTT (K : PySem.W.Frag) (ta : TA) : TI := fun σ H R => ta σ H fun vs H1 => ∃ a b xs ys, vs = [.ref a, .ref b] ∧ SqT K H1 a xs ∧ SqT K H1 b ys ∧ R (ItzTT K a b) H1
/-- a tuple and a list, in new pairs -/
def ItzLL (K : PySem.W.Frag) (a b : Addr) : It :=
  ⟨fun i H => ∃ (xs ys : List V) (x y : V), SqL K H a xs ∧ SqL K H b ys ∧ xs[i]? = some x ∧ ys[i]? = some y,
    fun i H v H' => ∃ T x y o, v = .ref T ∧ H T = none ∧ Obj.dict o = none ∧ H' = upd H T (.frz o (.tup [x, y])) ∧ (∀ xs, SqL K H a xs → xs[i]? = some x) ∧ ∀ ys, SqL K H b ys → ys[i]? = some y,
    fun i H => ∃ xs ys : List V, SqL K H a xs ∧ SqL K H b ys ∧ i = min xs.length ys.length⟩
theorem turn_zipLL {P : Program} {w : World} {K : PySem.W.Frag} {elts : List Expr} {kk : Nat} {tpos : Pos} {a b z TI TO i1 i2 : Addr} (D : ZipApart z TI TO i1 i2 a b) :
    Turn P w K (.Tuple elts kk tpos) (ItzLL K a b) [z, TI, TO, i1, i2] z (fun i h => IsZip h z TI TO .none ∧ IsPair h TI (.ref i1) (.ref i2) ∧ (∃ x y, IsPair h TO x y) ∧ h.IsListIter i1 a i ∧ h.IsListIter i2 b i) where
  mem := by simp
  obj := fun i h st c hc => by
    obtain ⟨hz, hTI, ⟨x, y, hTO⟩, ⟨o1, e1, _, d1⟩, ⟨o2, e2, _, d2⟩⟩ := st
    have e' : c = z ∨ c = TI ∨ c = TO ∨ c = i1 ∨ c = i2 := by simpa using hc
    rcases e' with q | q | q | q | q
    · rw [q]; exact ⟨_, hz, fun v q => nomatch q⟩
    · rw [q]; exact ⟨_, hTI, fun v q => nomatch q⟩
    · rw [q]; exact ⟨_, hTO, fun v q => nomatch q⟩
    · rw [q]; exact ⟨o1, e1, fun v q => by rw [d1] at q; cases q⟩
    · rw [q]; exact ⟨o2, e2, fun v q => by rw [d2] at q; cases q⟩
  keep := fun i h h' st k => by
    obtain ⟨hz, hTI, ⟨x, y, hTO⟩, h1, h2⟩ := st
    exact ⟨k z (by simp) _ hz, k TI (by simp) _ hTI, ⟨x, y, k TO (by simp) _ hTO⟩, h1.at fun o q => k i1 (by simp) o q, h2.at fun o q => k i2 (by simp) o q⟩
  item := by
    intro X hP hw hK hc i pins s σ H E I hf st hg
    subst hP hw hK
    obtain ⟨hz, hTI, ⟨x0, y0, hTO⟩, h1, h2⟩ := st
    obtain ⟨xs, ys, x, y, hqx, hqy, hx, hy⟩ := hg
    obtain ⟨its, rv, p, _⟩ := I.list hqx
    replace p : s.heap.IsList a its.toArray := p.isList
    obtain ⟨its2, rv2, p2, _⟩ := I.list hqy
    replace p2 : s.heap.IsList b its2.toArray := p2.isList
    obtain ⟨u, hu, ru⟩ := rv.get hx
    obtain ⟨u2, hu2, ru2⟩ := rv2.get hy
    have hzl : z < s.heap.objs.size := Heap.lt_size hz
    have hul : i < its.toArray.size := by have := (List.getElem?_eq_some_iff.mp hu).1; simpa using this
    have hul2 : i < its2.toArray.size := by have := (List.getElem?_eq_some_iff.mp hu2).1; simpa using this
    refine wpAny_pyNext_zipD2_item (sep_of D) (Draws.list (A := X.A.in1) (I.ok.hd hc) i1 a D.l1i1 its.toArray) (Draws.list (A := X.A.in1) (I.ok.hd hc) i2 b D.l2i2 its2.toArray) hz hTI hTO ⟨h1, p⟩ ⟨h2, p2⟩ hul hul2 fun v1 v2 h' tk g1 g2 z' TO' s1' s2' hT hsz hk => ?_
    have ev1 : u = v1 := Option.some.inj (hu.symm.trans (by simpa using g1))
    have ev2 : u2 = v2 := Option.some.inj (hu2.symm.trans (by simpa using g2))
    subst ev1 ev2
    refine ⟨_, rfl, wpAny_letOwnedTupleGo_zip (s := { s with heap := h', toks := tk }) z' fun h'' z'' sb => ?_⟩
    have hT2 : h''.get? s.heap.objs.size = some { cls := .type "tuple", data := .seq #[u, u2] } := (sb.2 _ (Nat.ne_of_gt hzl)).trans hT
    have new : ObjOk X.prog X.w (upd H s.heap.objs.size (.frz { cls := .type "tuple", data := .seq #[u, u2] } (.tup [x, y]))) h'' s.heap.objs.size (.frz { cls := .type "tuple", data := .seq #[u, u2] } (.tup [x, y])) :=
      ⟨hT2, by show 2 ≤ sizeLine; decide, [u, u2], .cons ru (.cons ru2 .nil), ⟨_, hT2, rfl, _, rfl⟩⟩
    have I1 : Inv X pins σ (upd H s.heap.objs.size (.frz { cls := .type "tuple", data := .seq #[u, u2] } (.tup [x, y]))) { s with heap := h'', toks := tk } :=
      I.turnedNew (ch := [z, TI, TO, i1, i2]) (fun c o hb q => (sb.2 c (fun q' => hb (by simp [q']))).trans (hk c o (fun q' => hb (by simp [q'])) (fun q' => hb (by simp [q'])) (fun q' => hb (by simp [q'])) (fun q' => hb (by simp [q'])) q)) hf (Nat.le_refl _) new
    refine ⟨.ref s.heap.objs.size, _, I1, rfl, ⟨_, x, y, _, rfl, I.hok.fresh (Nat.le_refl _), rfl, rfl, fun l hl => by rw [I.list_inj hl hqx]; exact hx, fun l hl => by rw [I.list_inj hl hqy]; exact hy⟩, ⟨z'', ?_, ⟨u, u2, ?_⟩, ?_, ?_⟩, fun c hcm => ?_⟩
    · exact (sb.2 _ D.TIz).trans (hk _ _ D.TIz D.TITO D.TIi1 D.TIi2 hTI)
    · exact (sb.2 _ D.TOz).trans TO'
    · exact s1'.1.at fun o q => (sb.2 _ D.i1z).trans q
    · exact s2'.1.at fun o q => (sb.2 _ D.i2z).trans q
    · have hlt : c < s.heap.objs.size := by
        have e' : c = z ∨ c = TI ∨ c = TO ∨ c = i1 ∨ c = i2 := by simpa using hcm
        rcases e' with q | q | q | q | q
        · rw [q]; exact hzl
        · rw [q]; exact Heap.lt_size hTI
        · rw [q]; exact Heap.lt_size hTO
        · rw [q]; obtain ⟨_, e1, _⟩ := h1; exact Heap.lt_size e1
        · rw [q]; obtain ⟨_, e2, _⟩ := h2; exact Heap.lt_size e2
      rw [upd_ne (Nat.ne_of_lt hlt)]
      exact (hf c hcm).1
  done := by
    intro X hP hw hK hc i pins s σ H E I hf st hg
    subst hP hw hK
    obtain ⟨hz, hTI, ⟨x0, y0, hTO⟩, h1, h2⟩ := st
    obtain ⟨xs, ys, hqx, hqy, hend⟩ := hg
    obtain ⟨its, rv, p, _⟩ := I.list hqx
    replace p : s.heap.IsList a its.toArray := p.isList
    obtain ⟨its2, rv2, p2, _⟩ := I.list hqy
    replace p2 : s.heap.IsList b its2.toArray := p2.isList
    have l1 := rv.length
    have l2 := rv2.length
    refine wpAny_pyNext_zipD2_end (sep_of D) (Draws.list (A := X.A.in1) (I.ok.hd hc) i1 a D.l1i1 its.toArray) (Draws.list (A := X.A.in1) (I.ok.hd hc) i2 b D.l2i2 its2.toArray) hz hTI hTO ⟨h1, p⟩ ⟨h2, p2⟩ (by simp; omega) (by simp; omega) (by simp; omega) fun h' tk hk => ?_
    exact ⟨rfl, I.turnedL (ch := [z, TI, TO, i1, i2]) (fun c o hb q => hk c o (fun q' => hb (by simp [q'])) (fun q' => hb (by simp [q'])) (fun q' => hb (by simp [q'])) (fun q' => hb (by simp [q'])) q) hf⟩
  self := fun A i s Q E st h => wpAny_pyIter_zip st.1 h
def iZipLL (K : PySem.W.Frag) (ta : TA) : TI := fun σ H R => ta σ H fun vs H1 => ∃ a b xs ys, vs = [.ref a, .ref b] ∧ SqL K H1 a xs ∧ SqL K H1 b ys ∧ R (ItzLL K a b) H1
def iZipA2 (K : PySem.W.Frag) (ta : TA) : TI := fun σ H R => ta σ H fun vs H1 => ∃ a b xs ys, vs = [.ref a, .ref b] ∧ ((SqL K H1 a xs ∧ SqL K H1 b ys ∧ R (ItzLL K a b) H1) ∨ (SqT K H1 a xs ∧ SqT K H1 b ys ∧ R (ItzTT K a b) H1))
theorem pi_zipA2 {X : Cx} {e e2 : Expr} {ta : TA} {p pos tpos : Pos} {elts : List Expr} {kk : Nat} (hg : Gl X "zip") (hm : X.mg "zip" = none) (ha : PA X [e, e2] ta)
    (hs : starEach [e, e2] X.env = (false, eval e X.env) :: starEach [e2] X.env) (hpl : (backTo pos (starEach [e2] X.env)).any (·.1) = false) :
    PI X (.Tuple elts kk tpos) (.Call (.Name "zip" p) [e, e2] [] pos) (iZipA2 X.K ta) := by
  refine ⟨fun pins s σ H R I h => ?_⟩
  refine Call_ (ld_blt I hg hm PyProof.Rows.boot_zip (PyProof.Rows.callWith_type1 (thn (ha.run pos pins s σ H _ I h) fun us s1 ⟨vs, H1, I1, r1, q1⟩ => ?_) hs hpl))
  obtain ⟨a, b, xs, ys, ex, q1⟩ := q1
  subst ex
  cases r1 with
  | cons r rr =>
    cases rr with
    | cons r' rr =>
      cases rr
      cases r
      cases r'
      rcases q1 with ⟨hqx, hqy, q⟩ | ⟨hqx, hqy, q⟩
      · have fresh5 : ∀ c, c ∈ [s1.heap.objs.size + 4, s1.heap.objs.size + 2, s1.heap.objs.size + 3, s1.heap.objs.size, s1.heap.objs.size + 1] → FpOk X pins H1 c := fun c hcm => by
          have e' : c = s1.heap.objs.size + 4 ∨ c = s1.heap.objs.size + 2 ∨ c = s1.heap.objs.size + 3 ∨ c = s1.heap.objs.size ∨ c = s1.heap.objs.size + 1 := by simpa using hcm
          have hle : s1.heap.objs.size ≤ c := by
            rcases e' with z | z | z | z | z
            · rw [z]; exact Nat.le_add_right _ _
            · rw [z]; exact Nat.le_add_right _ _
            · rw [z]; exact Nat.le_add_right _ _
            · rw [z]; exact Nat.le_refl _
            · rw [z]; exact Nat.le_add_right _ _
          exact I1.fpOk hle (I1.hok.fresh hle)
        obtain ⟨its, rv, p1, _⟩ := I1.list hqx
        replace p1 : s1.heap.IsList a its.toArray := p1.isList
        obtain ⟨its2, rv2, p2, _⟩ := I1.list hqy
        replace p2 : s1.heap.IsList b its2.toArray := p2.isList
        obtain ⟨o1, ho1, _⟩ := id p1
        obtain ⟨o2, ho2, _⟩ := id p2
        refine zip_begins2 (begins_list a its.toArray) (begins_list b its2.toArray) p1 p2 fun h' hz hTI hTO h1 h2 hsz hk => wpAny_pyIter_zip hz ?_
        have I2 : Inv X pins σ H1 { s1 with heap := h' } := I1.kept (t' := s1.toks) hk
        exact ⟨s1.heap.objs.size + 4, [s1.heap.objs.size + 4, s1.heap.objs.size + 2, s1.heap.objs.size + 3, s1.heap.objs.size, s1.heap.objs.size + 1], _, _, H1, rfl, I2, turn_zipLL (PySem.W.ktu_apart s1.heap.objs.size a b (Heap.lt_size ho1) (Heap.lt_size ho2)), ⟨hz, hTI, ⟨_, _, hTO⟩, ⟨_, h1, rfl, rfl⟩, ⟨_, h2, rfl, rfl⟩⟩, fresh5, q⟩
      · have fresh5 : ∀ c, c ∈ [s1.heap.objs.size + 4, s1.heap.objs.size + 2, s1.heap.objs.size + 3, s1.heap.objs.size, s1.heap.objs.size + 1] → FpOk X pins H1 c := fun c hcm => by
          have e' : c = s1.heap.objs.size + 4 ∨ c = s1.heap.objs.size + 2 ∨ c = s1.heap.objs.size + 3 ∨ c = s1.heap.objs.size ∨ c = s1.heap.objs.size + 1 := by simpa using hcm
          have hle : s1.heap.objs.size ≤ c := by
            rcases e' with z | z | z | z | z
            · rw [z]; exact Nat.le_add_right _ _
            · rw [z]; exact Nat.le_add_right _ _
            · rw [z]; exact Nat.le_add_right _ _
            · rw [z]; exact Nat.le_refl _
            · rw [z]; exact Nat.le_add_right _ _
          exact I1.fpOk hle (I1.hok.fresh hle)
        obtain ⟨its, rv, p1, _⟩ := I1.tuple hqx
        replace p1 : s1.heap.IsTuple a its.toArray := p1
        obtain ⟨its2, rv2, p2, _⟩ := I1.tuple hqy
        replace p2 : s1.heap.IsTuple b its2.toArray := p2
        obtain ⟨o1, ho1, _⟩ := id p1
        obtain ⟨o2, ho2, _⟩ := id p2
        refine zip_begins2 (begins_tuple a its.toArray) (begins_tuple b its2.toArray) p1 p2 fun h' hz hTI hTO h1 h2 hsz hk => wpAny_pyIter_zip hz ?_
        have I2 : Inv X pins σ H1 { s1 with heap := h' } := I1.kept (t' := s1.toks) hk
        exact ⟨s1.heap.objs.size + 4, [s1.heap.objs.size + 4, s1.heap.objs.size + 2, s1.heap.objs.size + 3, s1.heap.objs.size, s1.heap.objs.size + 1], _, _, H1, rfl, I2, turn_zipTT (PySem.W.ktu_apart s1.heap.objs.size a b (Heap.lt_size ho1) (Heap.lt_size ho2)), ⟨hz, hTI, ⟨_, _, hTO⟩, ⟨_, h1, rfl, rfl⟩, ⟨_, h2, rfl, rfl⟩⟩, fresh5, q⟩
end RZ
namespace Py
open PySem PySem.Spec PyProof.Rows L2
theorem zipD_len' : ∀ (xs ys : List D), (zipD xs ys).length = min xs.length ys.length
  | [], _ => by simp [zipD]
  | _ :: _, [] => by simp [zipD]
  | x :: xs, y :: ys => by rw [zipD, List.length_cons, zipD_len' xs ys, List.length_cons, List.length_cons]; omega
theorem zipD_get' : ∀ (xs ys : List D) (i : Nat) (x y : D), xs[i]? = some x → ys[i]? = some y → (zipD xs ys)[i]? = some (.tup [x, y])
  | [], _, _, _, _, h, _ => by simp at h
  | _ :: _, [], _, _, _, _, h => by simp at h
  | a :: xs, b :: ys, 0, x, y, h1, h2 => by simp at h1 h2; subst h1 h2; simp [zipD]
  | a :: xs, b :: ys, i + 1, x, y, h1, h2 => by rw [zipD, List.getElem?_cons_succ]; exact zipD_get' xs ys i x y (by simpa using h1) (by simpa using h2)
section
variable {M : Mo} {X : Cx} {W : WX} {e e2 tg : Expr} {pos : Pos} {fs : Env → Sto → R (List D)}
theorem wk_zip {ρ : Rho} {H : Hp} {xs ys : List D} {vx vy : List V} {P : Hp → Prop} {J : L2.It} (hr : ∀ ρ' H', Go ρ H ρ' H' → P H' ∧ Reps M ρ' H' xs vx ∧ Reps M ρ' H' ys vy)
    (hgo : ∀ H' i x y, P H' → vx[i]? = some x → vy[i]? = some y → J.go i H') (hst : ∀ H', P H' → J.stop (min vx.length vy.length) H')
    (hy : ∀ H' i v H'', P H' → J.yld i H' v H'' → ∃ T x y o, v = .ref T ∧ H' T = none ∧ Obj.dict o = none ∧ H'' = upd H' T (.frz o (.tup [x, y])) ∧ vx[i]? = some x ∧ vy[i]? = some y) : WkJ M ρ H (zipD xs ys, none, []) J where
  go := fun ρ' H' S' i s hS' ok hi => by
    obtain ⟨p, r1, r2⟩ := hr ρ' H' s
    have hi : i < min xs.length ys.length := by rw [← zipD_len']; exact hi
    have l1 := r1.length
    have l2 := r2.length
    exact hgo H' i _ _ p (List.getElem?_eq_getElem (show i < vx.length by omega)) (List.getElem?_eq_getElem (show i < vy.length by omega))
  stop := fun ρ' H' S' s hS' ok => by
    obtain ⟨p, r1, r2⟩ := hr ρ' H' s
    have := hst H' p
    rw [← r1.length, ← r2.length, ← zipD_len'] at this
    exact this
  yld := fun ρ' H' S' i x H'' s hS' ok hi y => by
    obtain ⟨p, r1, r2⟩ := hr ρ' H' s
    obtain ⟨T, x', y', o, rfl, hT, ho, rfl, g1, g2⟩ := hy H' i x H'' p y
    obtain ⟨d1, e1, q1⟩ := r1.get' g1
    obtain ⟨d2, e2, q2⟩ := r2.get' g2
    exact ⟨_, zipD_get' xs ys i d1 d2 e1 e2, upd_keeps hT, (new_tupF hS' (.cons q1 (.one q2)) hT ho).2.2⟩
theorem lst_keep {ρ : Rho} {H : Hp} {xs : List D} {v : V} (r : Rep M ρ H (.lst xs) v) : ∃ a vs, v = .ref a ∧ ∀ ρ' H', Go ρ H ρ' H' → SqL M.K H' a vs ∧ Reps M ρ' H' xs vs := by
  rw [Rep] at r
  obtain ⟨a, vs, ev, l, rr⟩ := r
  exact ⟨a, vs, ev, fun ρ' H' s => ⟨(l.go s).sq, rr.go s⟩⟩
theorem tup_keep {ρ : Rho} {H : Hp} {xs : List D} {v : V} (r : Rep M ρ H (.tup xs) v) : ∃ a vs, v = .ref a ∧ ∀ ρ' H', Go ρ H ρ' H' → SqT M.K H' a vs ∧ Reps M ρ' H' xs vs := by
  obtain ⟨a, vs, ev, l, rr⟩ := rep_tup_inv r
  exact ⟨a, vs, ev, fun ρ' H' s => ⟨(l.go s).sq, rr.go s⟩⟩
theorem sI_zip {elts : List Expr} {kk : Nat} {tpos p : Pos} (hK : X.K = M.K) (hg : Gl X "zip") (hm : X.mg "zip" = none) (ha : PA X [e, e2] (rdA M W fs))
    (hs : starEach [e, e2] X.env = (false, eval e X.env) :: starEach [e2] X.env) (hpl : (backTo pos (starEach [e2] X.env)).any (·.1) = false) :
    PI X (.Tuple elts kk tpos) (.Call (.Name "zip" p) [e, e2] [] pos) (rdI M W fun δ S => (fs δ S).bind fun ds S => R.lift (zipW ds) S) := by
  refine PI.cases (RZ.pi_zipA2 hg hm ha hs hpl) (RZ.pi_zipM hg hm ha hs hpl) fun σ H Q ⟨ρ, δ, S, hS, hE, hP⟩ => ?_
  by_cases ht : ∃ xs ys S1, fs δ S = .ok [.tup xs, .lst ys] S1
  · right
    refine ⟨ρ, δ, S, hS, hE, hP.bind fun ds S1 e1 ρ1 H1 vs s1 hS1 r1 hP1 => ?_⟩
    obtain ⟨xs, ys, S2, e2⟩ := ht
    rw [e1] at e2
    cases e2
    obtain ⟨k, ek, hP1⟩ := hP1.lift
    cases ek
    rw [Reps] at r1
    obtain ⟨v, r, rfl, rv, rr⟩ := r1
    rw [Reps] at rr
    obtain ⟨v2, r2, rfl, rv2, rr2⟩ := rr
    rw [Reps] at rr2
    subst rr2
    obtain ⟨a, vx, rfl, f1⟩ := tup_keep rv
    obtain ⟨b, vy, rfl, f2⟩ := lst_keep rv2
    refine ⟨a, b, vx, vy, rfl, hK ▸ (f1 ρ1 H1 Step.refl.go).1, hK ▸ (f2 ρ1 H1 Step.refl.go).1, hP1.use Step.refl hS1 (wk_zip (P := fun H' => SqT M.K H' a vx ∧ SqL M.K H' b vy) (fun ρ' H' s => ⟨⟨(f1 ρ' H' s).1, (f2 ρ' H' s).1⟩, (f1 ρ' H' s).2, (f2 ρ' H' s).2⟩) (fun H' i x y p g1 g2 => ?_) (fun H' p => ?_) (fun H' i v H'' p y => ?_))⟩
    · exact ⟨vx, vy, x, y, hK ▸ p.1, hK ▸ p.2, g1, g2⟩
    · exact ⟨vx, vy, hK ▸ p.1, hK ▸ p.2, rfl⟩
    · obtain ⟨T, x, y', o, ev, hT, ho, eH, g1, g2⟩ := y
      exact ⟨T, x, y', o, ev, hT, ho, eH, g1 vx (hK ▸ p.1), g2 vy (hK ▸ p.2)⟩
  · left
    refine ⟨ρ, δ, S, hS, hE, hP.bind fun ds S1 e1 ρ1 H1 vs s1 hS1 r1 hP1 => ?_⟩
    obtain ⟨k, ek, hP1⟩ := hP1.lift
    unfold zipW at ek
    split at ek
    · rename_i xs ys
      cases ek
      rw [Reps] at r1
      obtain ⟨v, r, rfl, rv, rr⟩ := r1
      rw [Reps] at rr
      obtain ⟨v2, r2, rfl, rv2, rr2⟩ := rr
      rw [Reps] at rr2
      subst rr2
      obtain ⟨a, vx, rfl, f1⟩ := lst_keep rv
      obtain ⟨b, vy, rfl, f2⟩ := lst_keep rv2
      refine ⟨a, b, vx, vy, rfl, .inl ⟨hK ▸ (f1 ρ1 H1 Step.refl.go).1, hK ▸ (f2 ρ1 H1 Step.refl.go).1, hP1.use Step.refl hS1 (wk_zip (P := fun H' => SqL M.K H' a vx ∧ SqL M.K H' b vy) (fun ρ' H' s => ⟨⟨(f1 ρ' H' s).1, (f2 ρ' H' s).1⟩, (f1 ρ' H' s).2, (f2 ρ' H' s).2⟩) (fun H' i x y p g1 g2 => ?_) (fun H' p => ?_) (fun H' i v H'' p y => ?_))⟩⟩
      · exact ⟨vx, vy, x, y, hK ▸ p.1, hK ▸ p.2, g1, g2⟩
      · exact ⟨vx, vy, hK ▸ p.1, hK ▸ p.2, rfl⟩
      · obtain ⟨T, x, y', o, ev, hT, ho, eH, g1, g2⟩ := y
        exact ⟨T, x, y', o, ev, hT, ho, eH, g1 vx (hK ▸ p.1), g2 vy (hK ▸ p.2)⟩
    · rename_i xs ys
      cases ek
      rw [Reps] at r1
      obtain ⟨v, r, rfl, rv, rr⟩ := r1
      rw [Reps] at rr
      obtain ⟨v2, r2, rfl, rv2, rr2⟩ := rr
      rw [Reps] at rr2
      subst rr2
      obtain ⟨a, vx, rfl, f1⟩ := tup_keep rv
      obtain ⟨b, vy, rfl, f2⟩ := tup_keep rv2
      refine ⟨a, b, vx, vy, rfl, .inr ⟨hK ▸ (f1 ρ1 H1 Step.refl.go).1, hK ▸ (f2 ρ1 H1 Step.refl.go).1, hP1.use Step.refl hS1 (wk_zip (P := fun H' => SqT M.K H' a vx ∧ SqT M.K H' b vy) (fun ρ' H' s => ⟨⟨(f1 ρ' H' s).1, (f2 ρ' H' s).1⟩, (f1 ρ' H' s).2, (f2 ρ' H' s).2⟩) (fun H' i x y p g1 g2 => ?_) (fun H' p => ?_) (fun H' i v H'' p y => ?_))⟩⟩
      · exact ⟨vx, vy, x, y, hK ▸ p.1, hK ▸ p.2, g1, g2⟩
      · exact ⟨vx, vy, hK ▸ p.1, hK ▸ p.2, rfl⟩
      · obtain ⟨T, x, y', o, ev, hT, ho, eH, g1, g2⟩ := y
        exact ⟨T, x, y', o, ev, hT, ho, eH, g1 vx (hK ▸ p.1), g2 vy (hK ▸ p.2)⟩
    · exact absurd ⟨_, _, _, e1⟩ ht
    · cases ek
end
end Py

set_option Elab.async false
set_option linter.all false
set_option maxRecDepth 100000
set_option maxHeartbeats 4000000
/-! Part V: comprehensions of two clauses; dicts whose keys are tuples; try. -/
namespace Py
open PySem PySem.Spec PyProof.Rows L2
theorem compL_nox {f : D → Sto → R (Option D)} {w : Wk} : ∀ {ds acc : List D} {S : Sto}, (compL f w ds acc S).nox = compL f w ds acc S
  | [], acc, S => by rw [compL_nil]; by_cases h : okWk w S = true; rw [if_pos h]; rfl; rw [if_neg h]; rfl
  | d :: ds, acc, S => by
    rw [compL_cons]
    by_cases h : okWk w S = true
    · rw [if_pos h]
      cases e : f d S with
      | stuck => rfl
      | exc x S1 => rfl
      | ok o S1 =>
        rw [R.nox_ok, R.bind_ok]
        by_cases ha : acc.length < 10000
        · rw [if_pos ha]; exact compL_nox
        · rw [if_neg ha]; rfl
    · rw [if_neg h]; rfl
theorem compLs_nil {f : D → List D → Sto → R (List D)} {w : Wk} {acc : List D} {S : Sto} : compLs f w [] acc S = if okWk w S then .ok acc S else .stuck := rfl
theorem compLs_cons {f : D → List D → Sto → R (List D)} {w : Wk} {d : D} {ds acc : List D} {S : Sto} : compLs f w (d :: ds) acc S = if okWk w S then (f d acc S).nox.bind fun acc' S1 => compLs f w ds acc' S1 else .stuck := rfl
theorem bind_assocV {α β γ : Type} (r : R α) (f : α → Sto → R β) (g : β → Sto → R γ) : (r.bind f).bind g = r.bind fun a S => (f a S).bind g := by cases r <;> rfl
/-- one item of the first clause -/
def lc2F (vs vs1 : List Nat) (t t1 : Tg) (fw1 : Env → Sto → R Wk) (fc : Env → Sto → R Bool) (fe : Env → Sto → R D) (δ : Env) (d : D) (acc : List D) (S : Sto) : R (List D) := match asgT S t d (wipeE δ vs) with
  | some δ' => (fw1 δ' S).bind fun k1 S => compL (lcF vs1 t1 fc fe δ') k1 k1.1 acc S
  | none => .stuck
section
variable {M : Mo} {X : Cx} {W : WX} {fc : Env → Sto → R Bool} {fe : Env → Sto → R D} {fw fw1 : Env → Sto → R Wk}
/-- the step seen from outside -/
theorem step_out {l l4 : List Addr} {D : Addr} {z : List Addr} {H2 H4 : Hp} (s : Step ⟨l, D :: z⟩ H2 ⟨l4, D :: z⟩ H4) : Step ⟨l, z⟩ H2 ⟨l4, z⟩ H4 := by
  obtain ⟨ex, q1, q2⟩ := s.ext
  exact ⟨⟨ex, q1, fun b hb => ⟨(q2 b hb).1, fun z => (q2 b hb).2 (z.elim .inl fun z => .inr (List.mem_cons_of_mem _ z))⟩⟩, rfl, s.keep⟩
/-- a walk whose items go into a list that is being made -/
theorem lc_inner {vs : List Nat} {t : Tg} {σ σ0 : L2.St} {δ : Env} (sub : ∀ i ∈ t.slots, i ∈ vs) {ρ1 : Rho} {H1 H4 H0 : Hp} {D : Addr} (hD : H1 D = none) {l4 l0 : List Addr} {k : Wk} {J : L2.It} (hE : RepE M ⟨l4, D :: ρ1.z⟩ H4 δ σ) (r1 : WkJ M ⟨l4, D :: ρ1.z⟩ H4 k J)
    (K : List Py.D → Sto → R Py.D) {Q : VK} {S0 : Sto} {acc0 : List Py.D} {vacc0 : List V} (s0 : Step ρ1 H1 ⟨l0, ρ1.z⟩ H0) (g0 : Go ⟨l4, D :: ρ1.z⟩ H4 ⟨l0, D :: ρ1.z⟩ H0) (hS0 : RepSt M ⟨l0, D :: ρ1.z⟩ H0 S0) (hD0 : H0 D = some (.lst vacc0)) (ra0 : Reps M ⟨l0, D :: ρ1.z⟩ H0 acc0 vacc0)
    (hP : Post M W σ0 ρ1 H1 (Rep M) Q ((compL (lcF vs t fc fe δ) k k.1 acc0 S0).bind K)) {Fin : Hp → Prop}
    (hfin : ∀ l S' acc vacc H', Step ρ1 H1 ⟨l, ρ1.z⟩ H' → Go ⟨l4, D :: ρ1.z⟩ H4 ⟨l, D :: ρ1.z⟩ H' → RepSt M ⟨l, D :: ρ1.z⟩ H' S' → H' D = some (.lst vacc) → Reps M ⟨l, D :: ρ1.z⟩ H' acc vacc → Post M W σ0 ρ1 H1 (Rep M) Q (K acc S') → Fin H') :
    ∃ W1 : Nat → Nat → Hp → Prop, (∃ m, W1 0 m H0) ∧ ∀ j m H, W1 j m H →
      (J.stop j H ∧ Fin H) ∨ (J.go j H ∧ ∃ Nx : Hp → Prop, (∀ H', Nx H' → ∃ m', m' < m ∧ W1 (j + 1) m' H') ∧ ∀ x H', J.yld j H x H' → rdG M t x (wipe σ vs) H' fun σ2 H2 => wipe σ2 vs = wipe σ vs ∧ rdT M W0 fc σ2 H2 fun b H3 =>
        if b = true then rdE M W0 fe σ2 H3 fun y H4 => ∃ acc, H4 D = some (.lst acc) ∧ acc.length < sizeLine ∧ Nx (upd H4 D (.lst (acc ++ [y]))) else Nx H3) := by
  let Inv' : Nat → Hp → Prop := fun i H' => ∃ (l : List Addr) (S' : Sto) (acc : List Py.D) (vacc : List V), Step ρ1 H1 ⟨l, ρ1.z⟩ H' ∧ Go ⟨l4, D :: ρ1.z⟩ H4 ⟨l, D :: ρ1.z⟩ H' ∧ RepSt M ⟨l, D :: ρ1.z⟩ H' S' ∧ H' D = some (.lst vacc) ∧ Reps M ⟨l, D :: ρ1.z⟩ H' acc vacc ∧
    Post M W σ0 ρ1 H1 (Rep M) Q ((compL (lcF vs t fc fe δ) k (k.1.drop i) acc S').bind K)
  refine ⟨fun i m H' => m = k.1.length - i ∧ i ≤ k.1.length ∧ Inv' i H', ⟨k.1.length, by simp, Nat.zero_le _, l0, S0, acc0, vacc0, s0, g0, hS0, hD0, ra0, ?_⟩, ?_⟩
  · rw [List.drop_zero]; exact hP
  · rintro i m H2 ⟨rfl, hi, l, S2, acc, vacc, s2, g2, hS2, hD2, ra, hP2⟩
    by_cases hl : i < k.1.length
    · right
      rw [List.drop_eq_getElem_cons hl, compL_cons] at hP2
      by_cases ok : okWk k S2 = true
      · rw [if_pos ok] at hP2
        refine ⟨r1.go ⟨l, D :: ρ1.z⟩ H2 S2 i g2 hS2 ok hl, Inv' (i + 1), fun H' q => ⟨k.1.length - (i + 1), by omega, rfl, hl, q⟩, fun x H3 y => ?_⟩
        obtain ⟨d, ed, kp, rd⟩ := r1.yld ⟨l, D :: ρ1.z⟩ H2 S2 i x H3 g2 hS2 ok hl y
        have ed' : k.1[i] = d := by
          rw [List.getElem?_eq_getElem hl] at ed
          exact Option.some.inj ed
        rw [ed'] at hP2
        obtain ⟨hS3, s3⟩ := hS2.ext kp
        have g3 := g2.trans s3.go
        cases e5 : asgT S2 t d (wipeE δ vs) with
        | none =>
          rw [show lcF vs t fc fe δ d S2 = .stuck by unfold lcF; rw [e5]] at hP2
          exact hP2.elim
        | some δ5 =>
          rw [show lcF vs t fc fe δ d S2 = ((fc δ5 S2).bind fun b S => if b then (fe δ5 S).bind fun y S => .ok (some y) S else .ok none S) by unfold lcF; rw [e5]] at hP2
          refine ⟨⟨l, D :: ρ1.z⟩, wipeE δ vs, S2, d, δ5, hS3, (hE.wipe vs).go g3, rd, e5, fun σ5 hE5 o5 => ⟨wipe_off o5 sub, ?_⟩⟩
          refine ⟨⟨l, D :: ρ1.z⟩, δ5, S2, hS3, hE5, ?_⟩
          cases ec : fc δ5 S2 with
          | stuck => rw [ec] at hP2; exact hP2.elim
          | exc x6 S6 => rw [ec] at hP2; exact hP2.elim
          | ok b S6 =>
            rw [ec, R.bind_ok] at hP2
            intro ρ6 H6 b' s6 hS6 eb
            have eb' : b' = b := eb
            subst eb'
            obtain ⟨l6, z6⟩ := ρ6
            have ez : z6 = D :: ρ1.z := s6.z
            subst ez
            have dl : D ∉ l := (hS2.zs D (List.mem_cons_self ..)).1
            have hD3 : H3 D = some (.lst vacc) := kp D _ hD2
            have hD6 : H6 D = some (.lst vacc) := s6.keep D _ hD3 dl
            cases b' with
            | false =>
              rw [if_neg Bool.false_ne_true] at hP2 ⊢
              rw [R.nox_ok, R.bind_ok] at hP2
              by_cases ha : acc.length < 10000
              · rw [if_pos ha] at hP2
                exact ⟨l6, S6, acc, vacc, s2.trans (step_out (s3.trans s6)), g3.trans s6.go, hS6, hD6, (ra.step s3).step s6, hP2⟩
              · rw [if_neg ha] at hP2; exact hP2.elim
            | true =>
              rw [if_pos rfl] at hP2 ⊢
              refine ⟨⟨l6, D :: ρ1.z⟩, δ5, S6, hS6, hE5.step s6, ?_⟩
              cases ee : fe δ5 S6 with
              | stuck => rw [ee] at hP2; exact hP2.elim
              | exc x7 S7 => rw [ee] at hP2; exact hP2.elim
              | ok yv S7 =>
                rw [ee, R.bind_ok, R.nox_ok, R.bind_ok] at hP2
                by_cases ha : acc.length < 10000
                · rw [if_pos ha] at hP2
                  intro ρ7 H7 v7 s7 hS7 r7
                  obtain ⟨l7, z7⟩ := ρ7
                  have ez : z7 = D :: ρ1.z := s7.z
                  subst ez
                  have dl6 : D ∉ l6 := (hS6.zs D (List.mem_cons_self ..)).1
                  have hD7 : H7 D = some (.lst vacc) := s7.keep D _ hD6 dl6
                  have ra7 := ((ra.step s3).step s6).step s7
                  have s27 := (s3.trans s6).trans s7
                  refine ⟨vacc, hD7, lt_line (by rw [← ra.length]; exact ha), ?_⟩
                  obtain ⟨hS8, g8⟩ := hS7.grow (p := D) (u := .lst (vacc ++ [v7])) (List.mem_cons_self ..)
                  have s18 : Step ρ1 H1 ⟨l7, ρ1.z⟩ (upd H7 D (.lst (vacc ++ [v7]))) := by
                    have q := s2.trans (step_out s27)
                    exact ⟨q.ext, rfl, fun a o e n => by rw [upd_ne (ne_of_none e hD)]; exact q.keep a o e n⟩
                  exact ⟨l7, S7, acc ++ [yv], vacc ++ [v7], s18, ((g3.trans s6.go).trans s7.go).trans g8, hS8, upd_same, (ra7.append (Reps.one r7)).go g8, hP2⟩
                · rw [if_neg ha] at hP2; exact hP2.elim
      · rw [if_neg ok] at hP2; exact hP2.elim
    · left
      have e : i = k.1.length := by omega
      subst e
      rw [List.drop_length, compL_nil] at hP2
      by_cases ok : okWk k S2 = true
      · rw [if_pos ok, R.bind_ok] at hP2
        exact ⟨r1.stop ⟨l, D :: ρ1.z⟩ H2 S2 g2 hS2 ok, hfin l S2 acc vacc H2 s2 g2 hS2 hD2 ra hP2⟩
      · rw [if_neg ok] at hP2; exact hP2.elim
/-- the reading of a comprehension of two clauses, by its meaning -/
theorem lc2_of {own : Bool} {vs vs1 : List Nat} {t t1 : Tg} {σ : L2.St} {H : Hp} {Q : VK} (sub : ∀ i ∈ t.slots, i ∈ vs) (sub1 : ∀ i ∈ t1.slots, i ∈ vs1)
    (h : rdE M W (fun δ S => (fw δ S).bind fun k S => (compLs (lc2F vs vs1 t t1 fw1 fc fe δ) k k.1 [] S).bind fun ds S => newL own ds S) σ H Q) :
    tLc2 (rdI M W fw) (rdG M t) (rdT M W0 fun _ S => .ok true S) (rdI M W0 fw1) (rdG M t1) (rdT M W0 fc) (rdE M W0 fe) vs vs1 σ H Q := by
  obtain ⟨ρ, δ, S, hS, hE, hP⟩ := h
  refine ⟨ρ, δ, S, hS, hE, hP.bind fun k S1 e1 ρ1 H1 J s1 hS1 r1 hP1 => fun D hD => ?_⟩
  have hE1 := hE.step s1
  have nm := hS1.fresh hD
  have nz : D ∉ ρ1.z := fun z => nm (.inr z)
  let F := lc2F vs vs1 t t1 fw1 fc fe δ
  let Inv' : Nat → Hp → Prop := fun i H' => ∃ (l : List Addr) (S' : Sto) (acc : List Py.D) (vacc : List V), Step ρ1 H1 ⟨l, ρ1.z⟩ H' ∧ RepSt M ⟨l, D :: ρ1.z⟩ H' S' ∧ H' D = some (.lst vacc) ∧ Reps M ⟨l, D :: ρ1.z⟩ H' acc vacc ∧
    Post M W σ ρ1 H1 (Rep M) Q ((compLs F k (k.1.drop i) acc S').bind fun ds S => newL own ds S)
  refine ⟨fun i m H' => m = k.1.length - i ∧ i ≤ k.1.length ∧ Inv' i H', ⟨k.1.length, by simp, Nat.zero_le _, ρ1.l, S1, [], [], ?_, (hS1.more hD).1, upd_same, Reps.nil, ?_⟩, ?_⟩
  · exact ⟨⟨[], by simp, by simp⟩, rfl, fun a o e _ => upd_keeps hD a o e⟩
  · rw [List.drop_zero]
    exact hP1
  · rintro i m H2 ⟨rfl, hi, l, S2, acc, vacc, s2, hS2, hD2, ra, hP2⟩
    have g2 := go_of_step s2 hD nm
    have back : ∀ {H3 : Hp} {S3 : Sto} {l3 : List Addr}, RepSt M ⟨l3, D :: ρ1.z⟩ H3 S3 → RepSt M ⟨l3, ρ1.z⟩ H3 S3 := fun {_ _ l3} h => RepSt.less (ρ := ⟨l3, D :: ρ1.z⟩) (ρ' := ⟨l3, ρ1.z⟩) rfl (fun a q => List.mem_cons_of_mem _ q) h
    by_cases hl : i < k.1.length
    · right
      rw [List.drop_eq_getElem_cons hl, compLs_cons] at hP2
      by_cases ok : okWk k S2 = true
      · rw [if_pos ok] at hP2
        refine ⟨r1.go ⟨l, D :: ρ1.z⟩ H2 S2 i g2 hS2 ok hl, Inv' (i + 1), fun H' q => ⟨k.1.length - (i + 1), by omega, rfl, hl, q⟩, fun x H3 y => ?_⟩
        obtain ⟨d, ed, kp, rd⟩ := r1.yld ⟨l, D :: ρ1.z⟩ H2 S2 i x H3 g2 hS2 ok hl y
        have ed' : k.1[i] = d := by
          rw [List.getElem?_eq_getElem hl] at ed
          exact Option.some.inj ed
        rw [ed'] at hP2
        obtain ⟨hS3, s3⟩ := hS2.ext kp
        have g3 := g2.trans s3.go
        cases e5 : asgT S2 t d (wipeE δ vs) with
        | none =>
          rw [show F d acc S2 = .stuck by show lc2F vs vs1 t t1 fw1 fc fe δ d acc S2 = _; unfold lc2F; rw [e5]] at hP2
          exact hP2.elim
        | some δ5 =>
          rw [show F d acc S2 = ((fw1 δ5 S2).bind fun k1 S => compL (lcF vs1 t1 fc fe δ5) k1 k1.1 acc S) by show lc2F vs vs1 t t1 fw1 fc fe δ d acc S2 = _; unfold lc2F; rw [e5]] at hP2
          refine ⟨⟨l, D :: ρ1.z⟩, wipeE δ vs, S2, d, δ5, hS3, (hE1.wipe vs).go g3, rd, e5, fun σ5 hE5 o5 => ⟨wipe_off o5 sub, ?_⟩⟩
          refine ⟨⟨l, D :: ρ1.z⟩, δ5, S2, hS3, hE5, ?_⟩
          intro ρ6 H6 b' s6 hS6 eb
          have eb' : b' = true := eb
          subst eb'
          rw [if_pos rfl]
          obtain ⟨l6, z6⟩ := ρ6
          have ez : z6 = D :: ρ1.z := s6.z
          subst ez
          have dl : D ∉ l := (hS2.zs D (List.mem_cons_self ..)).1
          have hD3 : H3 D = some (.lst vacc) := kp D _ hD2
          have hD6 : H6 D = some (.lst vacc) := s6.keep D _ hD3 dl
          refine ⟨⟨l6, D :: ρ1.z⟩, δ5, S2, hS6, hE5.step s6, ?_⟩
          cases ew : fw1 δ5 S2 with
          | stuck => rw [ew] at hP2; exact hP2.elim
          | exc x7 S7 => rw [ew] at hP2; exact hP2.elim
          | ok k1 S7 =>
            rw [ew, R.bind_ok, compL_nox, bind_assocV] at hP2
            intro ρ7 H7 J1 s7 hS7 r7
            obtain ⟨l7, z7⟩ := ρ7
            have ez : z7 = D :: ρ1.z := s7.z
            subst ez
            have dl6 : D ∉ l6 := (hS6.zs D (List.mem_cons_self ..)).1
            have hD7 : H7 D = some (.lst vacc) := s7.keep D _ hD6 dl6
            refine lc_inner (W := W) (Q := Q) (σ0 := σ) sub1 hD ((hE5.step s6).step s7) r7 (fun acc' S1 => (compLs F k (k.1.drop (i + 1)) acc' S1).bind fun ds S => newL own ds S) (s2.trans (step_out ((s3.trans s6).trans s7))) Step.refl.go hS7 hD7 (((ra.step s3).step s6).step s7) hP2 fun l' S' acc' vacc' H' q1 q2 q3 q4 q5 q6 => ?_
            exact ⟨l', S', acc', vacc', q1, q3, q4, q5, q6⟩
      · rw [if_neg ok] at hP2; exact hP2.elim
    · left
      have e : i = k.1.length := by omega
      subst e
      rw [List.drop_length, compLs_nil] at hP2
      by_cases ok : okWk k S2 = true
      · rw [if_pos ok, R.bind_ok] at hP2
        refine ⟨r1.stop ⟨l, D :: ρ1.z⟩ H2 S2 g2 hS2 ok, ?_⟩
        unfold newL at hP2
        by_cases hz : acc.length ≤ 10000
        · rw [if_pos hz] at hP2
          have dl : D ∉ l := (hS2.zs D (List.mem_cons_self ..)).1
          cases own with
          | false =>
            rw [if_neg Bool.false_ne_true] at hP2
            refine hP2.use s2 (back hS2) ?_
            rw [Rep]
            refine ⟨D, vacc, rfl, ⟨fun z => z.elim dl nz, hD2⟩, Reps.less (ρ := ⟨l, D :: ρ1.z⟩) (ρ' := ⟨l, ρ1.z⟩) (fun n a q => q) (fun a q => q.elim .inl fun z => .inr (List.mem_cons_of_mem _ z)) acc ra⟩
          | true =>
            rw [if_pos rfl] at hP2
            have s9 : Step ρ1 H1 ⟨l ++ [D], ρ1.z⟩ H2 := by
              obtain ⟨ex, q1, q2⟩ := s2.ext
              refine ⟨⟨ex ++ [D], by show l ++ [D] = _; rw [show l = ρ1.l ++ ex from q1, List.append_assoc], fun b hb => ?_⟩, rfl, s2.keep⟩
              rcases List.mem_append.mp hb with q | q
              · exact q2 b q
              · rw [show b = D by simpa using q]; exact ⟨hD, nm⟩
            refine hP2.use s9 (hS2.adopt nz ⟨vacc, hD2, ra⟩) ?_
            rw [Rep]
            have hl2 : l.length = S2.length := hS2.len
            exact ⟨D, by show (l ++ [D])[S2.length]? = some D; rw [← hl2, List.getElem?_append_right (Nat.le_refl _)]; simp, rfl⟩
        · rw [if_neg hz] at hP2; exact hP2.elim
      · rw [if_neg ok] at hP2; exact hP2.elim
variable {elt tg iter tg1 iter1 : Expr} {ifs1 : List Expr} {pos : Pos}
theorem sE_lc2 {own : Bool} {scope : Scope} {ow : List (Str × Nat)} {vs1 : List Nat} {t t1 : Tg} (hc : X.calm = true) (hN : X.N.Nodup) (hi : PI X tg iter (rdI M W fw)) (ok : BlkOk X.N X.env.scope scope ow) (hv : ∀ i ∈ vs1, i ∈ ow.map (·.2)) (sub : ∀ i ∈ t.slots, i ∈ ow.map (·.2)) (sub1 : ∀ i ∈ t1.slots, i ∈ vs1)
    (hg : ∀ (s : Shared) (H : Hp) (C : Addr) (cl : List (Str × Addr)) (fp : List Addr), PG (X.blk s H scope (compEnvC scope cl C X.env) fp) tg (rdG M t))
    (hi1 : ∀ (s : Shared) (H : Hp) (C : Addr) (cl : List (Str × Addr)) (fp : List Addr), PI (X.blk s H scope (compEnvC scope cl C X.env) fp) tg1 iter1 (rdI M W0 fw1))
    (hg1 : ∀ (s : Shared) (H : Hp) (C : Addr) (cl : List (Str × Addr)) (fp : List Addr), PG (X.blk s H scope (compEnvC scope cl C X.env) fp) tg1 (rdG M t1))
    (ht1 : ∀ (s : Shared) (H : Hp) (C : Addr) (cl : List (Str × Addr)) (fp : List Addr), PTs (X.blk s H scope (compEnvC scope cl C X.env) fp) ifs1 (rdT M W0 fc))
    (he : ∀ (s : Shared) (H : Hp) (C : Addr) (cl : List (Str × Addr)) (fp : List Addr), PE (X.blk s H scope (compEnvC scope cl C X.env) fp) elt (rdE M W0 fe)) (hs : ∀ x, foldedSetIterable iter X.env x = pure x) (hs1 : ∀ env x, foldedSetIterable iter1 env x = pure x) :
    PE X (.ListComp elt [⟨tg, iter, [], 0⟩, ⟨tg1, iter1, ifs1, 0⟩] scope pos) (rdE M W fun δ S => (fw δ S).bind fun k S => (compLs (lc2F (ow.map (·.2)) vs1 t t1 fw1 fc fe δ) k k.1 [] S).bind fun ds S => newL own ds S) :=
  PE.weak (pe_lc2 hc hN hi ok hv hg (fun _ _ _ _ _ => sTs_nil) hi1 hg1 ht1 he hs hs1) fun σ H Q h => lc2_of sub sub1 h
theorem sS_lc2 {own : Bool} {scope : Scope} {ow : List (Str × Nat)} {vs1 : List Nat} {t t1 : Tg} {i : Nat} {y : Str} {py spos : Pos} (hc : X.calm = true) (hN : X.N.Nodup) (hy : X.N[i]? = some y) (hyl : X.env.scope.names.lookup y = some .local)
    (hsw : swapsWith (.ListComp elt [⟨tg, iter, [], 0⟩, ⟨tg1, iter1, ifs1, 0⟩] scope pos) (some (.Name y py)) spos.line X.env = pure true) (hi : PI X tg iter (rdI M W fw)) (ok : BlkOk X.N X.env.scope scope ow) (hv : ∀ i ∈ vs1, i ∈ ow.map (·.2)) (sub : ∀ i ∈ t.slots, i ∈ ow.map (·.2)) (sub1 : ∀ i ∈ t1.slots, i ∈ vs1)
    (hg : ∀ (s : Shared) (H : Hp) (C : Addr) (cl : List (Str × Addr)) (fp : List Addr), PG (X.blk s H scope (compEnvC scope cl C X.env) fp) tg (rdG M t))
    (hi1 : ∀ (s : Shared) (H : Hp) (C : Addr) (cl : List (Str × Addr)) (fp : List Addr), PI (X.blk s H scope (compEnvC scope cl C X.env) fp) tg1 iter1 (rdI M W0 fw1))
    (hg1 : ∀ (s : Shared) (H : Hp) (C : Addr) (cl : List (Str × Addr)) (fp : List Addr), PG (X.blk s H scope (compEnvC scope cl C X.env) fp) tg1 (rdG M t1))
    (ht1 : ∀ (s : Shared) (H : Hp) (C : Addr) (cl : List (Str × Addr)) (fp : List Addr), PTs (X.blk s H scope (compEnvC scope cl C X.env) fp) ifs1 (rdT M W0 fc))
    (he : ∀ (s : Shared) (H : Hp) (C : Addr) (cl : List (Str × Addr)) (fp : List Addr), PE (X.blk s H scope (compEnvC scope cl C X.env) fp) elt (rdE M W0 fe)) (hs : ∀ x, foldedSetIterable iter X.env x = pure x) (hs1 : ∀ env x, foldedSetIterable iter1 env x = pure x) :
    PS X (.Assign [.Name y py] (.ListComp elt [⟨tg, iter, [], 0⟩, ⟨tg1, iter1, ifs1, 0⟩] scope pos) spos)
      (rdS M W fun δ S => Out.of δ ((fw δ S).bind fun k S => (compLs (lc2F (ow.map (·.2)) vs1 t t1 fw1 fc fe δ) k k.1 [] S).bind fun ds S => newL own ds S) fun d S => asgO (.nm i) d δ S) :=
  PS.weak (ps_setLc2 hc hN hy hyl hsw hi ok hv hg (fun _ _ _ _ _ => sTs_nil) hi1 hg1 ht1 he hs hs1) fun D σ H ⟨ρ, δ, S, hS, hE, hP⟩ => by
    refine lc2_of (M := M) (W := W) (fc := fc) (fe := fe) (fw := fw) (fw1 := fw1) (own := own) sub sub1 ⟨ρ, δ, S, hS, hE, hP.of hE fun d S1 e1 ρ1 H1 x s1 hS1 r1 hP1 => ?_⟩
    obtain ⟨ρ', δ1, S', d', δ', a1, a2, a3, a4, a5⟩ := asg_of hS1 (hE.step s1) r1 hP1
    rw [asgT] at a4
    by_cases hl : i < δ1.length
    · rw [if_pos hl] at a4
      cases a4
      refine a5 _ (a2.set a3) ⟨by simp, fun j hj => ?_⟩
      rw [List.getElem?_set_ne (fun z => hj (by rw [Tg.slots, ← z]; simp))]
    · rw [if_neg hl] at a4; cases a4
end
/-! ### dicts -/
section
variable {M : Mo} {X : Cx} {W : WX} {ρ : Rho} {H : Hp} {S : Sto}
theorem reps_keys : ∀ {ds : List D} {vs : List V} {k : List Key}, Reps M ρ H ds vs → keysD ds = some k → vs = k.map kV
  | [], _, k, h, e => by
    rw [Reps] at h; subst h
    rw [keysD] at e; cases e; rfl
  | d :: ds, _, k, h, e => by
    rw [Reps] at h
    obtain ⟨v, r, rfl, h1, h2⟩ := h
    rw [keysD] at e
    cases e1 : keyOf d with
    | none => rw [e1] at e; cases e
    | some k1 =>
      cases e2 : keysD ds with
      | none => rw [e1, e2] at e; cases e
      | some ks =>
        rw [e1, e2] at e
        cases e
        rw [List.map_cons, ← reps_keys h2 e2]
        congr 1
        cases d with
        | int i => cases e1; exact rep_int_inv h1
        | str s => cases e1; exact rep_str_inv h1
        | _ => cases e1
theorem dval_rep : ∀ {ks : List (List Key)} {ds : List D} {vs : List V} (k : List Key), ks.length = vs.length → Reps M ρ H ds vs →
    (match dval ks ds k with | some d => ∃ v, valV (ks.zip vs) k = some v ∧ Rep M ρ H d v | none => valV (ks.zip vs) k = none)
  | [], ds, vs, k, hl, r => by
    have : vs = [] := List.length_eq_zero_iff.mp hl.symm
    subst this
    have : ds = [] := List.length_eq_zero_iff.mp (by rw [r.length]; rfl)
    subst this
    rfl
  | k' :: ks, [], vs, k, hl, r => by
    rw [Reps] at r; subst r; simp at hl
  | k' :: ks, d :: ds, vs, k, hl, r => by
    rw [Reps] at r
    obtain ⟨v, vr, rfl, h1, h2⟩ := r
    rw [dval]
    by_cases hk : k' = k
    · rw [if_pos hk]
      refine ⟨v, ?_, h1⟩
      unfold valV
      rw [List.zip_cons_cons, List.find?_cons, decide_eq_true hk]; rfl
    · rw [if_neg hk]
      have := dval_rep k (ks := ks) (ds := ds) (vs := vr) (by simpa using hl) h2
      have e : valV ((k' :: ks).zip (v :: vr)) k = valV (ks.zip vr) k := by
        unfold valV
        rw [List.zip_cons_cons, List.find?_cons, decide_eq_false hk]
      rw [e]; exact this
theorem dict_read {x : D} {v : V} {p : List (List Key) × List D} (hS : RepSt M ρ H S) (r : Rep M ρ H x v) (e : dictAt S x = some p) : ∃ n a vs, x = .loc n ∧ v = .ref a ∧ ρ.l[n]? = some a ∧ H a = some (.dT (p.1.zip vs)) ∧ p.1.length = vs.length ∧ Reps M ρ H p.2 vs := by
  cases x with
  | loc n =>
    rw [Rep] at r
    obtain ⟨a, e1, ev⟩ := r
    unfold dictAt at e
    dsimp only at e
    split at e
    · rename_i ks ds e2
      cases e
      obtain ⟨vs, h1, h2, h3⟩ := hS.at_ n a _ e1 e2
      exact ⟨n, a, vs, rfl, ev, e1, h1, h2, h3⟩
    · cases e
  | _ => cases e
variable {o value : Expr} {es : List Expr} {kk : Nat} {pos p1 p2 : Pos} {fo fv : Env → Sto → R D} {fs : Env → Sto → R (List D)}
theorem sE_dict : PE X (.Dict [] [] pos) (rdE M W fun _ S => .ok (.loc S.length) (S ++ [.dT [] []])) :=
  PE.weak pe_dnewT fun σ H Q ⟨ρ, δ, S, hS, hE, hP⟩ => fun p hp => by
    have s : Step ρ H (ρ.push p) (upd H p (.dT [])) := ⟨⟨[p], rfl, fun b hb => by
      have e : b = p := by simpa using hb
      subst e; exact ⟨hp, hS.fresh hp⟩⟩, rfl, fun a u e _ => upd_keeps hp a u e⟩
    obtain ⟨h1, _⟩ := hS.push (o := .dT [] []) (upd_keeps (o := .dT []) hp) hp ⟨[], upd_same, rfl, Reps.nil⟩
    refine hP.use s h1 ?_
    rw [Rep]
    exact ⟨p, by show (ρ.l ++ [p])[S.length]? = some p; rw [← hS.len, List.getElem?_append_right (Nat.le_refl _)]; simp, rfl⟩
theorem nosl_tup : NoSl (.Tuple es kk p1) := fun _ _ => rfl
/-- a key that is made for it alone -/
theorem key_new {ds : List D} {vs : List V} {k : List Key} {a p : Addr} {kvs : List (List Key × V)} (hS : RepSt M ρ H S) (r : Reps M ρ H ds vs) (e : keysD ds = some k) (ha : H a = some (.dT kvs)) (hp : H p = none) :
    DGet (upd H p (.tup vs)) a (.ref p) (valV kvs k) ∧ Step ρ H ρ (upd H p (.tup vs)) ∧ RepSt M ρ (upd H p (.tup vs)) S := by
  obtain ⟨s, h1⟩ := new_tup hS r hp
  refine ⟨DGet.t (by rw [upd_ne (ne_of_none ha hp)]; exact ha) (by rw [upd_same, reps_keys r e]), s, h1⟩
theorem keysG_eq {ds : List D} {k : List Key} (h : keysG ds = some k) : ds.length ≤ 100 ∧ keysD ds = some k := by
  unfold keysG at h
  by_cases q : ds.length ≤ 100
  · rw [if_pos q] at h; exact ⟨q, h⟩
  · rw [if_neg q] at h; cases h
theorem sE_dget (hu : X.A.units + 65 < cLine) (ho : PE X o (rdE M W fo)) (ha : PA X es (rdA M W fs)) : PE X (.Subscript o (.Tuple es kk p1) pos) (rdE M W fun δ S => (fo δ S).bind fun x S => (fs δ S).bind fun ds S => R.lift (dgetD S x ds) S) :=
  PE.weak (pe_dget (by omega) ho (pe_tup ha) nosl_tup) fun σ H Q ⟨ρ, δ, S, hS, hE, hP⟩ => ⟨ρ, δ, S, hS, hE, hP.bind fun x S1 e1 ρ1 H1 v s1 hS1 r1 hP1 =>
    ⟨ρ1, δ, S1, hS1, hE.step s1, hP1.bind fun ds S2 e2 ρ2 H2 vs s2 hS2 r2 hP2 => by
      obtain ⟨d, ed, hP3⟩ := hP2.lift
      unfold dgetD at ed
      cases ep : dictAt S2 x with
      | none => rw [ep] at ed; cases ed
      | some p =>
        rw [ep, Option.bind_some] at ed
        cases ek : keysG ds with
        | none => rw [ek] at ed; cases ed
        | some k =>
          rw [ek, Option.bind_some] at ed
          obtain ⟨hlen, ek⟩ := keysG_eq ek
          obtain ⟨n, a, ws, rfl, rfl, hn, hH, hl, hr⟩ := dict_read hS2 (r1.step s2 x) ep
          have hd := dval_rep k hl hr
          rw [ed] at hd
          obtain ⟨w, hw, rw_⟩ := hd
          refine ⟨le_line (by rw [← r2.length]; omega), fun q hq => ?_⟩
          obtain ⟨g, s3, hS3⟩ := key_new hS2 r2 ek hH hq
          rw [hw] at g
          exact ⟨a, w, rfl, g, hP3.use s3 hS3 (rw_.step s3 d)⟩⟩⟩
def dinF (neg : Bool) (fs : Env → Sto → R (List D)) (fo : Env → Sto → R D) : Env → Sto → R D := fun δ S => (fs δ S).bind fun ds S => if (keysG ds).isSome then (fo δ S).bind fun x S => R.lift ((dinD S x ds).map fun b => .bl (if neg then !b else b)) S else .stuck
/-- what is common to in and not in -/
theorem din_core {neg : Bool} {σ : L2.St} {H : Hp} {Q : VK} (h : rdE M W (dinF neg fs fo) σ H Q) : (tTup (rdA M W fs)) σ H fun y H1 => (rdE M W fo) σ H1 fun x H2 => ∃ a r, x = .ref a ∧ DGet H2 a y r ∧ Q (.bl (if neg then !r.isSome else r.isSome)) H2 := by
  obtain ⟨ρ, δ, S, hS, hE, hP⟩ := h
  refine ⟨ρ, δ, S, hS, hE, hP.bind fun ds S1 e1 ρ1 H1 vs s1 hS1 r1 hP1 => ?_⟩
  have hx : ∃ k, keysG ds = some k := by
    cases ek : keysG ds with
    | some k => exact ⟨k, rfl⟩
    | none => rw [ek, if_neg (by simp)] at hP1; exact hP1.elim
  obtain ⟨k, ek⟩ := hx
  rw [ek, if_pos (show (some k).isSome = true from rfl)] at hP1
  obtain ⟨hlen, ek2⟩ := keysG_eq ek
  refine ⟨le_line (by rw [← r1.length]; omega), fun q hq => ?_⟩
  obtain ⟨s2, hS2⟩ := new_tup hS1 r1 hq
  refine ⟨ρ1, δ, S1, hS2, (hE.step s1).step s2, (Post.step hP1 s2).bind fun x S3 e3 ρ3 H3 v s3 hS3 r3 hP3 => ?_⟩
  obtain ⟨d, ed, hP4⟩ := hP3.lift
  obtain ⟨b, eb, rfl⟩ := Option.map_eq_some_iff.mp ed
  unfold dinD at eb
  cases ep : dictAt S3 x with
  | none => rw [ep] at eb; cases eb
  | some p =>
    rw [ep, Option.bind_some, ek] at eb
    cases eb
    obtain ⟨n, a, ws, rfl, rfl, hn, hH, hl, hr⟩ := dict_read hS3 r3 ep
    have hd := dval_rep k hl hr
    have hq3 : H3 q = some (.tup vs) := s3.keep q _ upd_same (fun z => (hS1.fresh hq) (.inl z))
    have g : DGet H3 a (.ref q) (valV (p.1.zip ws) k) := DGet.t hH (by rw [hq3, reps_keys r1 ek2])
    refine ⟨a, _, rfl, g, ?_⟩
    have es : (valV (p.1.zip ws) k).isSome = (dval p.1 p.2 k).isSome := by
      cases e : dval p.1 p.2 k with
      | none => rw [e] at hd; rw [hd]; rfl
      | some y => rw [e] at hd; obtain ⟨w, hw, _⟩ := hd; rw [hw]; rfl
    rw [es]
    exact hP4.use Step.refl hS3 rep_bl
theorem sE_din {neg : Bool} (hu : X.A.units + 65 < cLine) (ha : PA X es (rdA M W fs)) (ho : PE X o (rdE M W fo)) (h1 : behindInMarks (if neg then .NotIn else .In) o = false) : PE X (.Compare (.Tuple es kk p1) [if neg then .NotIn else .In] [o] pos) (rdE M W (dinF neg fs fo)) := by
  cases neg with
  | true => exact PE.weak (pe_cmp (pc_dnotin (by omega) (pe_tup ha) ho) h1) fun σ H Q h => din_core h
  | false => exact PE.weak (pe_cmp (pc_din (by omega) (pe_tup ha) ho) h1) fun σ H Q h => din_core h
theorem sT_din {neg : Bool} (hu : X.A.units + 65 < cLine) (ha : PA X es (rdA M W fs)) (ho : PE X o (rdE M W fo)) (h1 : behindInMarks (if neg then .NotIn else .In) o = false) : PT X (.Compare (.Tuple es kk p1) [if neg then .NotIn else .In] [o] pos) (rdT M W (tst (dinF neg fs fo))) := by
  cases neg with
  | true => exact PT.weak (pt_cmp (pc_dnotin (by omega) (pe_tup ha) ho) h1) fun σ H Q h => din_core (rd_bl h)
  | false => exact PT.weak (pt_cmp (pc_din (by omega) (pe_tup ha) ho) h1) fun σ H Q h => din_core (rd_bl h)
def dputO (fo : Env → Sto → R D) (fs : Env → Sto → R (List D)) (fv : Env → Sto → R D) : Env → Sto → Out := fun δ S => Out.of δ (fv δ S) fun v S => Out.of δ (fo δ S) fun x S => Out.of δ (fs δ S) fun ds S => (match dputD S x ds v with
    | some S' => .nxt δ S'
    | none => .stuck)
theorem putK_new : ∀ {ks : List (List Key)} {ds : List D} {vs : List V} {k : List Key} {v : V}, ks.length = vs.length → Reps M ρ H ds vs → (dval ks ds k).isSome = false → putK (ks.zip vs) k v = (ks ++ [k]).zip (vs ++ [v]) := fun {ks ds vs k v} hl r hn => by
  have hd := dval_rep k hl r
  cases e : dval ks ds k with
  | some d => rw [e] at hn; cases hn
  | none =>
    rw [e] at hd
    unfold putK
    rw [valV_any, hd, if_neg (by simp), List.zip_append hl]
    rfl
theorem sS_dput (hu : X.A.units + 65 < cLine) (ho : PE X o (rdE M W fo)) (ha : PA X es (rdA M W fs)) (hv : PE X value (rdE M W fv)) (hs : swapsWith value (some (.Subscript o (.Tuple es kk p1) p2)) pos.line X.env = pure false) :
    PS X (.Assign [.Subscript o (.Tuple es kk p1) p2] value pos) (rdS M W (dputO fo fs fv)) :=
  PS.weak (ps_dput (by omega) ho (pe_tup ha) hv hs) fun D σ H ⟨ρ, δ, S, hS, hE, hP⟩ => ⟨ρ, δ, S, hS, hE, hP.of hE fun v S1 e1 ρ1 H1 y s1 hS1 r1 hP1 =>
    ⟨ρ1, δ, S1, hS1, hE.step s1, hP1.of (hE.step s1) fun x S2 e2 ρ2 H2 u s2 hS2 r2 hP2 => ⟨ρ2, δ, S2, hS2, (hE.step s1).step s2, hP2.of ((hE.step s1).step s2) fun ds S3 e3 ρ3 H3 vs s3 hS3 r3 hP3 => by
      cases ed : dputD S3 x ds v with
      | none => rw [ed] at hP3; exact hP3.elim
      | some S4 =>
        rw [ed] at hP3
        dsimp only at hP3
        cases x with
        | loc n =>
          unfold dputD at ed
          dsimp only at ed
          cases ep : dictAt S3 (.loc n) with
          | none => rw [ep] at ed; cases ed
          | some p =>
            rw [ep, Option.bind_some] at ed
            cases ek : keysG ds with
            | none => rw [ek] at ed; cases ed
            | some k =>
              rw [ek, Option.bind_some] at ed
              obtain ⟨hlen, ek2⟩ := keysG_eq ek
              by_cases hc : p.1.length < 10000 ∧ (dval p.1 p.2 k).isSome = false
              · rw [if_pos hc] at ed
                cases ed
                obtain ⟨n', a, ws, en, rfl, hn, hH, hl, hr⟩ := dict_read hS3 (r2.step s3 (.loc n)) ep
                cases en
                refine ⟨le_line (by rw [← r3.length]; omega), fun q hq => ?_⟩
                obtain ⟨s4, hS4⟩ := new_tup hS3 r3 hq
                have hH4 : (upd H3 q (.tup vs)) a = some (.dT (p.1.zip ws)) := by rw [upd_ne (ne_of_none hH hq)]; exact hH
                have pz : (p.1.zip ws).length = p.1.length := by rw [List.length_zip, hl]; exact Nat.min_self _
                have g : DPut (upd H3 q (.tup vs)) a (.ref q) y (upd (upd H3 q (.tup vs)) a (.dT (putK (p.1.zip ws) k y))) := DPut.t hH4 (by rw [upd_same, reps_keys r3 ek2]) (by rw [pz]; exact lt_line hc.1)
                rw [putK_new hl hr hc.2] at g
                refine ⟨a, _, rfl, g, ?_⟩
                have st : Step ρ3 (upd H3 q (.tup vs)) ρ3 (upd (upd H3 q (.tup vs)) a (.dT ((p.1 ++ [k]).zip (ws ++ [y])))) := ⟨⟨[], by simp, by simp⟩, rfl, fun b w e q => by
                  rw [upd_ne (fun z => q (by rw [z]; exact List.mem_of_getElem? hn))]; exact e⟩
                obtain ⟨hS5, s5⟩ := hS4.put (o := .dT (p.1 ++ [k]) (p.2 ++ [v])) hn (u := .dT ((p.1 ++ [k]).zip (ws ++ [y]))) ⟨ws ++ [y], upd_same, by simp [hl], ((hr.step s4).append (Reps.one (((r1.step s2).step s3).step s4))).step st⟩
                exact hP3 _ _ _ (s4.trans s5) hS5 (((((hE.step s1).step s2).step s3).step s4).step s5)
              · rw [if_neg hc] at ed; cases ed
        | _ => cases ed⟩⟩⟩
end
end Py

set_option Elab.async false
set_option linter.all false
set_option maxRecDepth 100000
set_option maxHeartbeats 4000000
/-! Part Ea: super().__init__(text) at the head of an own exception's __init__; the promise of such an __init__. -/
namespace SupX
open PySem PySem.Spec PyProof.Rows L2
/-- what the written part says of an own exception class with an __init__ of its own; cc: the cell of its class, cda: the code -/
structure SupC (prog : Program) (K : PySem.W.Frag) (mg : Str → Option Value) (C fI cc cda : Addr) (slf : Str) (fd : FuncData) : Prop where
  oex : OexC K C
  fobj : ∃ oc od osl, K.lookup fI = some ⟨oc, od, .func fd, osl⟩
  par : ∃ ar : Arg, (fd.params.posonlyargs ++ fd.params.args).head? = some ar ∧ ar.arg = slf
  code : ∃ ccl cdd vs ccs file tf, K.lookup cda = some ⟨ccl, cdd, .fields vs, ccs⟩ ∧ vs[2]? = some (.str file tf) ∧ ((prog.main.file : Str) == file) = true
  cell : ∃ cl cld csl, K.lookup cc = some ⟨cl, cld, .cell (some (.ref C)), csl⟩
  sub : PySem.W.mroIn K C (.ref C) = some true
  sup : mg "super" = none
  top : (prog.main.scope.names.lookup ("super" : Str)).isSome = false
  ini : PySem.W.ks_superIn K C C "__init__" = some (some (.builtin "ValueError.__init__"))
  third : PySem.W.nsIn K cStatics "thirdparty.any" = some none
  ve : PySem.W.subIn K (.ref C) (.type "ValueError") = some true
theorem call_form {env : PySem.Env} {o : Expr} {m : Str} {j : Nat} {name : Str} {p2 p3 p4 : Pos} (hline : (p2.endLine == p4.line) = true) : ∃ pl, eval (.Call (.Attribute o name p2) [.Constant (.str m) j p3] [] p4) env = (do
      let ov ← attributeBase o name env (eval o env)
      standAt p2.atName
      let (f, first) ← holding [ov] (getMethod ov name pl)
      callWith p4 f first (backTo p4 (starEach [.Constant (.str m) j p3] env)) []) := by
  refine ⟨(do return (← importBound o env).getD true), ?_⟩
  show (do
      let ov ← attributeBase o name env (eval o env)
      standAt p2.atName
      methodCall o name p2 p4 env ov 1 (backTo p4 (starEach [.Constant (.str m) j p3] env)) []) = _
  have hf : methodCallForm 1 (backTo p4 (starEach [.Constant (.str m) j p3] env)) [] = true := by rfl
  simp only [methodCall, calleeOf, methodCallPos, hf, hline, if_true, pure_bind, Bool.not_true, Bool.false_or]
theorem boot_super : bootBuiltins "super" = some (.type "super") := by decide +kernel
section
variable {X : Cx} {σ : L2.St} {H : Hp} {s : Shared}
/-- the statement super().__init__('..') -/
theorem super_stmt {qual : Str} {scope : Scope} {L fI cc cda C a : Addr} {slf m : Str} {fd : FuncData} {body : List Stmt} {j : Nat} {p0 p1 p2 p3 p4 p5 : Pos} {Q : Flow → Shared → Prop} {E : Value → Shared → Prop}
    (henv : X.env = PySem.W.ksEnv qual scope L fI (.ref cda) cc) (T : SupC X.prog X.K X.mg C fI cc cda slf fd) (hk : scope.kind = .function) (hline : (p2.endLine == p4.line) = true)
    (hks : scope.names.lookup ("super" : Str) = some .globalImplicit) (hkc : scope.names.lookup ("__class__" : Str) = some .free) (hka : scope.names.lookup slf = some .local)
    (I : Inv X [] σ H s) (hN : X.N[0]? = some slf) (hσ : σ[0]? = some (some (V.ref a))) (ha : H a = some (exo a C none)) (h : ∀ s', Inv X [] σ H s' → Q .next s') :
    _root_.PySem.wpAt (model X.prog X.w) X.A (.func body X.env) (exec (.Expr (.Call (.Attribute (.Call (.Name "super" p0) [] [] p1) "__init__" p2) [.Constant (.str m) j p3] [] p4) p5) X.env) Q E s := by
  obtain ⟨nm, q, N, bs, bm, sn, sub, ab, col, dd, k0, k1, k2, k3, k5, hC, hbm⟩ := T.oex.cls
  obtain ⟨oc, od, osl, hf⟩ := T.fobj
  obtain ⟨ar, hp, har⟩ := T.par
  obtain ⟨ccl, cdd, vs, ccs, file, tf, hcode, hvs, hfile⟩ := T.code
  obtain ⟨cl, cld, csl, hcell⟩ := T.cell
  have KX := I.kIn
  have hcls : PySem.W.clsIn X.K C = some { name := nm, bases := bs, mro := .ref C :: bm, ns := N, qualname := q, hasDict := true, slotNames := sn, subclasses := sub, abstract := ab, collection := col, hasDel := false } := by unfold PySem.W.clsIn; rw [hC] <;> rfl
  obtain ⟨t1, ho⟩ := exo_at I.hok ha
  obtain ⟨hh, g, d, t, os⟩ := s
  have IA : PySem.W.InstAt hh a ({ cls := .ref C, dict := none, data := .fields #[.ref t1, .none, .none, .none, .bool false, .none] } : Obj) C none := ⟨ho, rfl, rfl, trivial⟩
  have kindE : X.env.scope = scope := by rw [henv]
  have vis : Vis X.env.scope slf := by
    rw [kindE]; exact .inl hka
  have hint : interactive (PySem.W.ksEnv qual scope L fI (.ref cda) cc) = false := by
    unfold interactive
    show (scope.kind == _ && _) = false
    rw [hk]; rfl
  obtain ⟨mL, hns, hlk⟩ := I.loc
  obtain ⟨u, ru, lk⟩ := hlk 0 slf (.ref a) hN hσ vis
  obtain rfl : u = Value.ref a := ru
  have hv : mL slf = some (.ref a) := by
    rcases lk with ⟨_, e⟩ | ⟨kk, c, _, _⟩
    · exact e
    · exfalso
      have e1 : X.env.kindOf slf = some .local := by
        show X.env.scope.names.lookup slf = _
        rw [kindE]; exact hka
      rcases kk with kk | kk <;> (rw [e1] at kk; cases kk)
  rw [henv]
  obtain ⟨pl, hform⟩ := call_form (env := PySem.W.ksEnv qual scope L fI (.ref cda) cc) (o := .Call (.Name "super" p0) [] [] p1) (m := m) (j := j) (name := "__init__") (p2 := p2) (p3 := p3) (p4 := p4) hline
  refine PySem.ks_wpAt_Expr_any (PySem.ks_wpAt_MethodCall (pl := pl) ?_ hform) hint
  refine PySem.ks_wpAt_super_base (env := PySem.W.ksEnv qual scope L fI (.ref cda) cc) hks hkc (by decide) rfl (KX _ _ hf) rfl hp rfl (KX _ _ hcode) rfl hvs hfile T.top ?_
  obtain ⟨mb, hb1, hb2⟩ := I.mod.blt
  have eg : (PySem.W.ksEnv qual scope L fI (.ref cda) cc).globals = mainGlobals := by rw [← henv]; exact I.ok.glob
  have eb : (PySem.W.ksEnv qual scope L fI (.ref cda) cc).builtins = builtinsNs := by rw [← henv]; exact I.ok.blt
  refine PySem.W.ks_loadName_global hk hks (Calls.loadGlobal_builtin (by rw [eg]; exact I.mod.glob.keeps I.bk) T.sup (by rw [eb]; exact hb1.keeps I.bk) ((hb2 _ (by decide)).trans boot_super) ⟨rfl, ?_⟩)
  refine wpAny_loadName_free hk hkc rfl ⟨_, KX _ _ hcell, rfl⟩ ?_
  rw [har]
  refine wpAny_loadName_local hk hka (by rw [henv] at hns; exact hns) hv ?_
  refine PySem.ks_wpAny_isType_cls (KX _ _ hC) rfl ⟨rfl, ?_⟩
  refine PySem.ks_wpAny_call_super (KX _ _ hC) rfl ho rfl (fun c e => by cases e) (PySem.W.looks_mroIn KX T.sub) (fun h1 e1 kk1 => ?_)
  have I1 : Inv X [] σ H ⟨h1, g, d, t, os⟩ := I.kept (t' := t) kk1
  have KX1 := I1.kIn
  have IA1 : PySem.W.InstAt h1 a ({ cls := .ref C, dict := none, data := .fields #[.ref t1, .none, .none, .none, .bool false, .none] } : Obj) C none := ⟨kk1 _ _ ho, rfl, rfl, trivial⟩
  have hI : PySem.W.Looks (model X.prog X.w) h1 (isInstance (.ref a) (.type "ValueError")) true := IA1.type.andThen (PySem.W.looks_subIn KX1 T.ve)
  have hini := T.ini
  unfold PySem.W.ks_superIn at hini
  rw [hcls] at hini
  refine PySem.W.kxs_getMethod PySem.W.kxs_ValueError e1 (PySem.W.looks_opaque KX1 T.third) (l₀ := .ref C :: bm) (fun A Q E s k q => wpAny_bind ((PySem.W.looks_clsIn KX1 hcls) A _ E s k (wpAny_pure q))) rfl KX1 hini hI (PySem.W.ks_ne KX1 IA1 hcls) (by decide) ?_
  have kk2 : ∀ b o, h1.get? b = some o → (h1.push (PySem.W.kxs_mw "ValueError.__init__" a)).get? b = some o := fun b o e => Heap.get?_push_of_some _ e
  have I2 : Inv X [] σ H ⟨h1.push (PySem.W.kxs_mw "ValueError.__init__" a), g, d, t + 1, os⟩ := I1.kept (t' := t + 1) kk2
  have hu : (h1.push (PySem.W.kxs_mw "ValueError.__init__" a)).get? h1.objs.size = some (PySem.W.kxs_mw "ValueError.__init__" a) := Heap.get?_push_at rfl rfl
  refine PySem.W.kxs_callWith (i := "ValueError.__init__") (x := a) (by rfl) (Calls.evalArgs_plain ?_)
  show wpAny _ _ (spliced ((false, eval (.Constant (.str m) j p3) (PySem.W.ksEnv qual scope L fI (.ref cda) cc)) :: backTo p4 (starEach [] (PySem.W.ksEnv qual scope L fI (.ref cda) cc)))) _ _ _
  refine Calls.spliced_cons (Calls.Constant_str (Calls.spliced_nil ⟨hu, ?_⟩))
  have I3 := I2.tok (t + 1 + 1)
  have he3 := kk2 _ _ (kk1 _ _ ho)
  refine wpAny_call (codeAny_of_tree ?_)
  show wpAny _ X.A.in1 (callAny (.ref h1.objs.size) ⟨_, []⟩) _ _ _
  simp only [callAny]
  refine wpAny_bind (wpAny_load hu ?_)
  simp only [PySem.W.kxs_mw, show (Value.type "method-wrapper" == Value.type "method" || Value.type "method-wrapper" == Value.type "builtin_function_or_method" || Value.type "method-wrapper" == Value.type "method-wrapper") = true by decide, if_true]
  refine PySem.W.KFB.if_so (by decide) ?_
  refine wpAny_bind (PySem.W.check_bound_init F.excBase_ValueError.toExcCallFacts (I3.kIn _ _ hC) he3 rfl ?_)
  refine wpAny_bind (wpAny_pure (wpAny_pure ?_))
  refine ⟨plainId_quiet F.excBase_ValueError.init.plain _, codeAny_builtin F.excBase_ValueError.initEntry ?_⟩
  refine PySem.W.exc_init_tree (cls := .ref C) (t0 := t1) (dv := none) (c2 := .none) (c3 := .none) (b4 := .bool false) he3 (by show 1 ≤ sizeLine; rw [sizeLine_eq]; omega) (fun h' k hx _ => ?_)
  have J := I3.write (t' := t + 1 + 1) (x := a) (e := a) (o := exo a C none) (by rw [ha]; exact True.intro) (.inl rfl) k ⟨_, hx⟩ (exo_ok hx)
  have eu : upd H a (exo a C none) = H := by
    funext b
    by_cases hb : b = a
    · rw [hb, upd_same, ha]
    · rw [upd_ne hb]
  rw [eu] at J
  exact h _ J
end

/-- fields in the order in which the dict has them: the last one first -/
def spSup (C : Addr) (fs : List Str) : Sp := fun vs H Q _ => ∃ (a : Addr) (ys : List V), vs = .ref a :: ys ∧ ys.length = fs.length ∧ H a = some (exo a C none) ∧
  ∀ dx H', H dx = none → dx ≠ a → H' a = some (exo a C (some dx)) → H' dx = some (exd dx (fs.zip ys).reverse) → (∀ b, b ≠ a → b ≠ dx → H' b = H b) → Q .non H'
def isAsg (slf f p : Str) : Stmt → Bool
  | .Assign [.Attribute (.Name x _) g _] (.Name y _) _ => decide (x = slf) && decide (g = f) && decide (y = p)
  | _ => false
def isSup : Stmt → Bool
  | .Expr (.Call (.Attribute (.Call (.Name x _) [] [] _) y p2) [.Constant (.str _) _ _] [] p4) _ => decide (x = ("super" : Str)) && decide (y = ("__init__" : Str)) && (p2.endLine == p4.line)
  | _ => false
theorem asg_ps {X : Cx} {slf f p : Str} {st : Stmt} {i j : Nat} (h : isAsg slf f p st = true) (h0 : X.N[i]? = some slf) (h1 : X.N[j]? = some p) (v0 : Vis X.env.scope slf) (v1 : Vis X.env.scope p)
    (d0 : (slf == ("__debug__" : Str)) = false) (c0 : (slf == ("__classdict__" : Str)) = false) (d1 : (p == ("__debug__" : Str)) = false) (c1 : (p == ("__classdict__" : Str)) = false) : PS X st (tOst X.K f (tVar i) (tVar j)) := by
  unfold isAsg at h
  split at h
  · simp only [Bool.and_eq_true, decide_eq_true_eq] at h
    obtain ⟨⟨rfl, rfl⟩, rfl⟩ := h
    exact ps_ost (pe_var h0 v0 d0 c0) (pe_var h1 v1 d1 c1)
  · cases h
theorem len_two {α : Type} : ∀ {l : List α}, l.length = 2 → ∃ a b, l = [a, b]
  | [a, b], _ => ⟨a, b, rfl⟩
section
variable {CX : CXT} {P : Program} {w : World} {K : PySem.W.Frag} {mg : Str → Option Value} {base : Heap} {name qual slf : Str} {params : Arguments} {body : List Stmt} {scope : Scope} {dV kV doc pm ct : Value} {an : Option Addr} {C fI cc cda : Addr} {N ps : List Str}
theorem fn_sup (T : SupC P K mg C fI cc cda slf (PySem.W.ksFn name qual params body scope dV kV doc pm an (.ref cda) ct cc)) (hcd : PySem.W.codeIn K (.ref cda) qual = true) (S : NdefX.NScope N ps ["__class__"] scope)
    (hks : scope.names.lookup ("super" : Str) = some .globalImplicit) {fs : List Str} (hps : ps = slf :: fs) (hf : fs.length = 1 ∨ fs.length = 2) (hno : ∀ f ∈ fs, PySem.W.findIn K (.ref C) f = some none)
    (hbad : ∀ x ∈ ps, (x == ("__debug__" : Str)) = false ∧ (x == ("__classdict__" : Str)) = false)
    {s0 : Stmt} {rest : List Stmt} (hbody : body = s0 :: rest) (h0 : isSup s0 = true) (hlen : rest.length = fs.length) (hr : ∀ (i : Nat) (st : Stmt) (f : Str), rest[i]? = some st → fs[i]? = some f → isAsg slf f f st = true) :
    FnOk P w K mg base CX 1 fI (PySem.W.ksFn name qual params body scope dV kV doc pm an (.ref cda) ct cc) ps (spSup C fs) := by
  have len : ∀ vs H Q E, spSup C fs vs H Q E → vs.length = ps.length := fun vs H Q E ⟨a, ys, e, h, _⟩ => by rw [e, hps, List.length_cons, List.length_cons, h]
  refine ⟨len, fun A outer s H args us vs Q E hrm e0 hb r hsp => ?_⟩
  obtain ⟨oc, od, osl, lk⟩ := T.fobj
  obtain ⟨cl, cld, csl, hcell⟩ := T.cell
  have hl := len _ _ _ _ hsp
  have KX : K.In s.heap := e0.mod.kin.keeps fun b o e => (e0.bs b o e).1
  have lim : s.heap.NoLimit := e0.mod.nolimit.keeps fun b o e => (e0.bs b o e).1
  let F : NdefX.NF := ⟨name, qual, params, body, scope, [("__class__", cc)], cda⟩
  have CA : NdefX.CellsAt F.cl ["__class__"] [none] s.heap H := by
    have one : ∀ y c, F.cl.lookup y = some c → y = ("__class__" : Str) ∧ c = cc := fun y c e => by
      replace e : List.lookup y [(("__class__" : Str), cc)] = some c := e
      rw [List.lookup_cons] at e
      cases hy : y == ("__class__" : Str) with
      | true => rw [hy] at e; cases e; exact ⟨by simpa using hy, rfl⟩
      | false => rw [hy] at e; cases e
    refine ⟨rfl, fun y c e => ?_, fun x y c e1 e2 => ?_, fun i y e => ?_⟩
    · obtain ⟨_, rfl⟩ := one y c e
      exact ⟨(e0.bs _ _ (e0.mod.kin _ _ hcell)).2, some (.ref C), _, KX _ _ hcell, rfl⟩
    · rw [(one x c e1).1, (one y c e2).1]
    · cases i with
      | zero => cases e; exact ⟨cc, by simp [F], fun v z => by cases z⟩
      | succ i => cases e
  refine codeAny_call_function hrm.depth (KX _ _ lk) rfl S.co S.gen rfl (PySem.W.codeRec_of KX hcd) (hb _ _ _ _ ?_)
  refine wpAny_newFunctionEnv S.nocell (fun ⟨n, _⟩ hy => S.par n (List.of_mem_zip hy).1) (fun h₁ hns hsb => ⟨lim.fresh _ hsb, PySem.ks_codeAny_funcAt ?_⟩) S.kind
  have kp : ∀ b o, s.heap.get? b = some o → h₁.get? b = some o := fun b o e => hsb.extBut b o (Nat.ne_of_lt (Heap.lt_size e)) (Heap.get?_push_of_some _ e)
  have I : Inv (NdefX.ncx CX P w K mg base N F fI A outer s H E) [] (NdefX.startF N vs [none]) H { s with heap := h₁, toks := s.toks + (ps.zip us).length } := NdefX.inv_startN S hrm.hd e0 hl r CA hns kp
  obtain ⟨a, ys, rfl, hy, ha, hq⟩ := hsp
  have hNl : ps.length + 1 ≤ N.length := by
    have q := congrArg List.length S.pre
    rw [List.length_take, List.length_append, List.length_singleton] at q
    omega
  have hNi : ∀ i x, ps[i]? = some x → N[i]? = some x := fun i x e => by
    have hi : i < ps.length := (List.getElem?_eq_some_iff.mp e).1
    have q : (N.take (ps.length + [("__class__" : Str)].length))[i]? = (ps ++ [("__class__" : Str)])[i]? := by rw [S.pre]
    rw [List.getElem?_take_of_lt (by simp; omega), List.getElem?_append_left hi, e] at q
    exact q
  have hσ : ∀ i v, (V.ref a :: ys)[i]? = some v → (NdefX.startF N (V.ref a :: ys) [none])[i]? = some (some v) := fun i v e => by
    have hi : i < (V.ref a :: ys).length := (List.getElem?_eq_some_iff.mp e).1
    unfold NdefX.startF
    rw [List.getElem?_append_left (by rw [List.length_map]; exact hi), List.getElem?_map, e]; rfl
  have hka : scope.names.lookup slf = some .local := S.par slf (by rw [hps]; exact List.mem_cons_self ..)
  have hkc : scope.names.lookup ("__class__" : Str) = some .free := S.frk _ (List.mem_cons_self ..)
  have vis : ∀ x ∈ ps, Vis (NdefX.ncx CX P w K mg base N F fI A outer s H E).env.scope x := fun x hx => .inl (S.par x hx)
  have hp0 : ps[0]? = some slf := by rw [hps]; rfl
  have hpf : ∀ i f, fs[i]? = some f → ps[i + 1]? = some f := fun i f e => by rw [hps]; simpa using e
  have fin : ∀ {σ' : L2.St} {H' : Hp} {v : V} {u : Value} {s' : Shared}, Inv (NdefX.ncx CX P w K mg base N F fI A outer s H E) [] σ' H' s' → L2.RelV v u → Q v H' → CE outer P w H s Q u s' :=
    fun {σ' H' v u s'} J rv q => ⟨v, H', J.os, J.bare, J.base, J.hok, rv, q⟩
  have b0 := hbad slf (by rw [hps]; exact List.mem_cons_self ..)
  have asg : ∀ i st f, rest[i]? = some st → fs[i]? = some f → PS (NdefX.ncx CX P w K mg base N F fI A outer s H E) st (tOst K f (tVar 0) (tVar (i + 1))) := fun i st f e1 e2 => by
    have hm : f ∈ ps := by rw [hps]; exact List.mem_cons_of_mem _ (List.mem_of_getElem? e2)
    have b1 := hbad f hm
    exact asg_ps (X := NdefX.ncx CX P w K mg base N F fI A outer s H E) (hr i st f e1 e2) (hNi 0 slf hp0) (hNi (i + 1) f (hpf i f e2)) (vis slf (by rw [hps]; exact List.mem_cons_self ..)) (vis f hm) b0.1 b0.2 b1.1 b1.2
  have hrest : ∃ t, PSs (NdefX.ncx CX P w K mg base N F fI A outer s H E) rest t ∧ t { nx := fun _ H' => Q .non H', rt := Q } (NdefX.startF N (V.ref a :: ys) [none]) H := by
    rcases hf with hf | hf
    · obtain ⟨f1, rfl⟩ := List.length_eq_one_iff.mp hf
      obtain ⟨y1, rfl⟩ := List.length_eq_one_iff.mp hy
      obtain ⟨st1, rfl⟩ := List.length_eq_one_iff.mp (hlen.trans hf)
      refine ⟨_, pss_cons (asg 0 st1 f1 rfl rfl) pss_nil, y1, hσ 1 y1 rfl, .ref a, hσ 0 (.ref a) rfl, a, C, rfl, T.oex, hno f1 (List.mem_cons_self ..), .inl ⟨ha, fun dx hn hne => ?_⟩⟩
      refine hq dx _ hn hne upd_same (by rw [upd_ne hne, upd_same]; rfl) fun b h1 h2 => ?_
      rw [upd_ne h1, upd_ne h2]
    · obtain ⟨f1, f2, rfl⟩ := len_two hf
      obtain ⟨y1, y2, rfl⟩ := len_two hy
      obtain ⟨st1, st2, rfl⟩ := len_two (hlen.trans hf)
      refine ⟨_, pss_cons (asg 0 st1 f1 rfl rfl) (pss_cons (asg 1 st2 f2 rfl rfl) pss_nil), y1, hσ 1 y1 rfl, .ref a, hσ 0 (.ref a) rfl, a, C, rfl, T.oex, hno f1 (List.mem_cons_self ..), .inl ⟨ha, fun dx hn hne => ?_⟩⟩
      refine ⟨y2, hσ 2 y2 rfl, .ref a, hσ 0 (.ref a) rfl, a, C, rfl, T.oex, hno f2 (List.mem_cons_of_mem _ (List.mem_cons_self ..)), .inr ⟨dx, _, upd_same, by rw [upd_ne hne, upd_same], by simp, ?_⟩⟩
      refine hq dx _ hn hne (by rw [upd_ne (Ne.symm hne), upd_same]) (by rw [upd_same]; rfl) fun b h1 h2 => ?_
      rw [upd_ne h2, upd_ne h1, upd_ne h2]
  obtain ⟨t, ht, hD⟩ := hrest
  subst hbody
  unfold isSup at h0
  split at h0
  · simp only [Bool.and_eq_true, decide_eq_true_eq] at h0
    obtain ⟨⟨rfl, rfl⟩, hline⟩ := h0
    refine PySem.ks_wpAt_execs_cons (super_stmt (X := NdefX.ncx CX P w K mg base N F fI A outer s H E) (qual := qual) (scope := scope) (L := s.heap.objs.size) (fI := fI) (cc := cc) (cda := cda) (C := C) (a := a) (slf := slf) rfl T S.kind hline hks hkc hka I (hNi 0 slf hp0) (hσ 0 (.ref a) rfl) ha (fun s' J => ?_))
    refine wpAt_of_wpAny (wpAny_mono (ht.run [] s' _ H _ J hD) (fun fl s'' hs => ?_) fun e s'' hs => hs)
    cases fl with
    | ret u =>
      obtain ⟨v, σ', H', J', rv, q⟩ := hs
      exact fin J' rv q
    | next =>
      obtain ⟨σ', H', J', q⟩ := hs
      exact fin (v := V.non) (u := Value.none) J' rfl q
    | brk =>
      obtain ⟨_, _, _, q⟩ := hs
      exact False.elim q
    | cont =>
      obtain ⟨_, _, _, q⟩ := hs
      exact False.elim q
  · cases h0
end
end SupX

set_option Elab.async false
set_option linter.all false
set_option maxRecDepth 100000
set_option maxHeartbeats 4000000
/-! Part Eb: making, catching and asking own exceptions. -/
namespace SupX
open PySem PySem.Spec PyProof.Rows L2
section
variable {X : Cx} {C : Addr} {bmB : List Value} {B newId initId : String}
/-- X(), a class without an __init__ of its own -/
theorem pmk_own0 {x : Str} {p pos : Pos} (F : ExcBaseFacts B newId initId bmB) (q : PySem.W.excIn X.K C bmB newId = true) (gC : X.mg x = some (.ref C)) (kC : PySem.W.keepIn X.K (.ref C) = true) (r : Raises X (.ref C)) (hg : Gl X x)
    (hdb : (x == ("__debug__" : Str)) = false := by decide) : PMk X (.Call (.Name x p) [] [] pos) (fun _ H Q => Q (.ref C) none H) := by
  intro pins s σ H Q I h
  refine wpAny_Call_Name_kw (ld_glob I hg gC ?_ hdb)
  refine PySem.W.callWith_K0 I.kIn kC ?_
  show wpAny _ _ (call (.ref C) []) _ _ _
  obtain ⟨bm, N, nm, qn, bs, hdct, sn, sub, ab, col, dd, k0, k1, k2, k3, k5, mN, hC, hN, hni, T⟩ := exc_obj I.kIn q
  refine wpAny_call_exc_subT F T hC hN hni (fun h' e hm => ?_) (Nat.zero_le _)
  exact mk_of I hm r h (I.hok.gone hm.new)
end
/-! ### isinstance of a caught exception, with or without fields -/
section
open PySem.W
variable {prog : Program} {w : World} {A : Around} {E : Value → Shared → Prop} {s : Shared} {K : Frag} {x D : Addr} {ox : Obj} {od : Option Obj}
theorem findObj_dataD {C : Addr} {name : Str} {a g : Value} (hc : (clsIn K C).isSome = true) (ha : findIn K (.ref C) name = some (some a)) (hg : specialIn K a "__get__" = some (some g)) (ht : takesIn K a = some true) : findObj K C od name = some (.bind g a) := by
  obtain ⟨cd, hc⟩ := Option.isSome_iff_exists.mp hc
  unfold findObj
  rw [hc, Option.bind_some, ha, Option.bind_some]
  simp [hg, ht]
theorem kin_classD {Q : Option Value → Shared → Prop} (hga : findIn K (.ref D) "__getattribute__" = some (some (.builtin "BaseException.__getattribute__"))) (hgt : findIn K (.ref D) "__getattr__" = some none) (hsub : subIn K (.ref D) (.type "BaseException") = some true)
    (hdct : hasDictIn K D = true) (ha : findIn K (.ref D) "__class__" = some (some (.builtin "object.__class__")))
    (hn : specialIn K (.builtin "object.__class__") "__get__" = some (some (.builtin "getset_descriptor.__get__"))) (htk : takesIn K (.builtin "object.__class__") = some true) (hm : mroIn K D (.type "object") = some true)
    (X : K.In s.heap) (I : InstAt s.heap x ox D od) (h : Q (some (.ref D)) { s with toks := s.toks + 1 }) : wpAny (model prog w) A (getAttr? (.ref x) "__class__") Q E s := by
  have hf : findObj K D od "__class__" = some (.bind (.builtin "getset_descriptor.__get__") (.builtin "object.__class__")) := findObj_dataD (by obtain ⟨cd, hc, _⟩ := any_some hdct; rw [hc]; rfl) ha hn htk
  obtain ⟨hp, g, d, t, os⟩ := s
  have L0 := I.type (M := model prog w)
  have L1 := looks_findIn (M := model prog w) X hga
  have L2 := looks_findIn (M := model prog w) X hgt
  have L3 := looks_find (M := model prog w) X I hf
  have sub : Looks (model prog w) hp (isInstance (.ref x) (.type "BaseException")) true := L0.andThen (looks_subIn X hsub)
  have hx0 : (false && onTheHeap (Value.builtin "BaseException.__getattribute__")) = false := rfl
  have hx2 : (Value.builtin "BaseException.__getattribute__" == Value.builtin "object.__getattribute__") = false := by decide +kernel
  have hx1 : (onTheHeap (Value.ref D) && Value.builtin "BaseException.__getattribute__" == Value.builtin "object.__getattribute__") = false := by rw [hx2]; rfl
  unfold getAttr? getAttrBy? getAttrBy
  refine wpAny_bind (wpAny_mkText (wpAny_bind (wpAny_attempt (wpAny_holding (wpAny_bind (L0.at (wpAny_bind (L1.at ?_))))))))
  show wpAny _ _ (if (onTheHeap (Value.ref D) && Value.builtin "BaseException.__getattribute__" == Value.builtin "object.__getattribute__") = true then _ else _) _ _ _
  rw [hx1, if_neg Bool.false_ne_true]
  unfold getAttrByItsOwn hookBefore
  refine wpAny_bind ?_
  rw [if_pos (show onTheHeap (Value.ref D) = true from rfl)]
  refine L2.at ?_
  refine wpAny_bind (wpAny_attempt (wpAny_holding ?_))
  unfold callGetattribute
  rw [hx0, if_neg Bool.false_ne_true]
  unfold boundAndCalled
  rw [PySem.F.excAttr_ValueError.ga.bind (.ref x)]
  refine wpAny_bind (wpAny_pure ?_)
  show wpAny _ _ (call (.builtin "BaseException.__getattribute__") [.ref x, .str "__class__" t]) _ _ _
  refine wpAny_call (codeAny_call_builtin PySem.F.excAttr_ValueError.ga.plain PySem.F.entry_bexc_ga ?_)
  refine @check_slot (model prog w) _ _ ⟨hp, g, d, t + 1, os⟩ "BaseException.__getattribute__" "BaseException" "__getattribute__" (.ref x) [.str "__class__" t] [] _ (by decide +kernel) (by decide +kernel) sub (PySem.F.args_bexc_ga (.ref x) (.str "__class__" t)) ?_
  unfold Builtin.«object.__getattribute__»
  refine wpAny_bind (wpAny_of_eq (a := ((Value.ref x : Value), [Value.str "__class__" t])) (by first | rfl | (simp only [slotArgs]; rfl)) ?_)
  refine wpAny_bind (wpAny_pure (wpAny_bind (L0.at (wpAny_bind (L3.at ?_)))))
  show wpAny _ _ (holding [Value.builtin "object.__class__"] (call (.builtin "getset_descriptor.__get__") [.builtin "object.__class__", .ref x, .ref D]) >>= ret) _ _ _
  refine wpAny_bind (wpAny_holding (wpAny_call (class_get (s := ⟨hp, g, d, t + 1, os⟩) (ox := ox) (od := od) X I hm ?_)))
  refine wpAny_pure ?_
  show wpAny _ _ (handedOut (.ref D)) _ _ _
  rw [handedOut_of (v := .ref D) rfl]
  first
    | exact wpAny_pure (wpAny_pure h)
    | exact wpAny_pure h
    | exact wpAny_pure (wpAny_bind (wpAny_pure (wpAny_pure h)))
theorem kitx_excD (hga : findIn K (.ref D) "__getattribute__" = some (some (.builtin "BaseException.__getattribute__"))) (hgt : findIn K (.ref D) "__getattr__" = some none) (hsub : subIn K (.ref D) (.type "BaseException") = some true) (hdct : hasDictIn K D = true) (ha : findIn K (.ref D) "__class__" = some (some (.builtin "object.__class__")))
    (hn : specialIn K (.builtin "object.__class__") "__get__" = some (some (.builtin "getset_descriptor.__get__"))) (htk : takesIn K (.builtin "object.__class__") = some true) (hm : mroIn K D (.type "object") = some true) :
    KitX K (.ref x) (.ref D) (fun h => InstAt h x ox D od) where
  ty := fun _ _ _ I => I.type
  it := fun _ _ X _ => by
    obtain ⟨cdD, hcD, _⟩ := any_some hdct
    unfold clsIn at hcD
    split at hcD
    · rename_i c' d' cd' sl' ho
      intro A' Q' E' s' k q
      unfold isType loadHead
      exact wpAny_bind (wpAny_loadPart (k _ _ (X _ _ ho)) (wpAny_pure q))
    · cases hcD
  ne := fun h tp dd its n sl X htp => by
    obtain ⟨cdD, hcD, _⟩ := any_some hdct
    refine Bool.eq_false_iff.mpr fun q => ?_
    have e : D = tp := Value.ref.inj (beq_iff_eq.mp q)
    subst e
    unfold clsIn at hcD
    split at hcD
    · rename_i c' d' cd' sl' ho
      have z := (X _ _ ho).symm.trans htp
      cases z
    · cases hcD
  ca := fun X I k => kin_classD hga hgt hsub hdct ha hn htk hm X I k
end
/-- isinstance(e, c), e the exception that the suite holds -/
theorem call_isD {X : Cx} {a D dd : Addr} {oe : Obj} {pn : List (Addr × Obj)} (C : ExcC X.K D) (hz : Zc (.ref D) (some dd) oe) (hf : ∃ vs, oe.data = .fields vs) :
    CallR (X.suite a ((a, oe) :: pn)) (.builtin "isinstance") (fun xs H Q => ∃ (c : V) (cv : Value) (b : Bool) (fs : List (Str × V)), xs = [.ref a, c] ∧ (∀ u, RelV c u → u = cv) ∧ PySem.W.kitOne X.K (.ref D) cv = some b ∧ H dd = some (.xd fs) ∧ Q (.bl b) H) := by
  intro pins s σ H xs us Q I r h
  obtain ⟨c, cv, b, fs, rfl, hcv, e, hd, q⟩ := h
  cases r with
  | cons rx rr =>
    cases rr with
    | cons rt rr =>
      cases rr
      cases rx
      have ec := hcv _ rt
      subst ec
      obtain ⟨hget, _⟩ := I.pin (a, oe) (List.mem_append.mpr (.inl List.mem_cons_self))
      obtain ⟨vs, hv⟩ := hf
      have hx : ObjOk X.prog X.w H s.heap dd (.xd fs) := I.hok dd _ hd
      obtain ⟨mA, ⟨od, es, ep, ho, _⟩, _⟩ := hx
      have J : PySem.W.InstAt s.heap a oe D (some od) := by
        obtain ⟨oc, odd, oda, osl⟩ := oe
        obtain ⟨h1, h2⟩ := hz
        dsimp only at h1 h2 hv
        subst h1 h2 hv
        exact ⟨hget, rfl, rfl, ho⟩
      exact PySem.W.kia_one (kitx_excD C.hg C.hk C.hs C.hd C.ha C.hn C.ht C.hm) I.kIn J e (fun z => nomatch z) fun tk => ⟨.bl b, H, I.kept (t' := tk) fun _ _ z => z, rfl, q⟩
/-! ### several clauses «except x as n» -/
def wAsM (K : PySem.W.Frag) (i : Nat) (Wout : WX) (D : Ends) : List (Value × (Addr → Value → Option Addr → TS)) → WX
  | [] => Wout
  | (c, ts) :: r => fun cls d σ H => ∃ b, PySem.W.exmOne K cls c = some b ∧
      (b = true → ∀ a, H a = none → ts a cls d { nx := fun σ' H' => D.nx (σ'.set i none) H', rt := D.rt, bk := fun σ' H' => D.bk (σ'.set i none) H', ct := fun σ' H' => D.ct (σ'.set i none) H' } (σ.set i (some (.ref a))) H) ∧
      (b = false → wAsM K i Wout D r cls d σ H)
inductive HdsA (X : Cx) (n : Str) : List ExceptHandler → List (Value × (Addr → Value → Option Addr → TS)) → Prop
  | nil : HdsA X n [] []
  | cons {x : Str} {c : Value} {ts : Addr → Value → Option Addr → TS} {b₀ : Stmt} {suite : List Stmt} {np pos' : Pos} {hds : List ExceptHandler} {l : List (Value × (Addr → Value → Option Addr → TS))} (hc : Names X x c)
      (hsu : ∀ (a : Addr) (oe : Obj) (cls : Value) (d : Option Addr) (pn : List (Addr × Obj)), Zc cls d oe → (∃ vs, oe.data = .fields vs) → PSs (X.suite a ((a, oe) :: pn)) (b₀ :: suite) (ts a cls d)) (r : HdsA X n hds l) :
      HdsA X n (.ExceptHandler (some (.Name x np)) (some n) (b₀ :: suite) pos' :: hds) ((c, ts) :: l)
section
variable {X : Cx} {n : Str} {i : Nat} {body : List Stmt} {h₀ : ExceptHandler} {hds : List ExceptHandler} {l : List (Value × (Addr → Value → Option Addr → TS))} {pos : Pos} {tb : WX → TS} {Wout : WX}
theorem ps_try_asm (hs : X.stack = X.env :: X.outer) (hf : X.env.frame = some X.env.locals) (hN : X.N.Nodup) (hi : X.N[i]? = some n) (hln : X.env.kindOf n = some .local) (tk : Takes X Wout)
    (hb : ∀ (W : WX) (pn : List (Addr × Obj)) (xe : Value → Shared → Prop), Takes (X.tr pn xe) W → PassesOwn (model X.prog X.w) X.A X.env xe → PSs (X.tr pn xe) body (tb W))
    (hh : HdsA X n (h₀ :: hds) l) : PS X (.Try body (h₀ :: hds) [] [] pos) (fun D σ H => tb (wAsM X.K i Wout D l) D σ H) := by
  refine ⟨fun pins s σ H D I h => ?_⟩
  have ok := I.ok
  have hfr : X.A.frames = some (X.env :: X.outer) := by rw [ok.frames, hs]
  have hloc : Loc X.env.scope n := .inl hln
  refine wpAny_Try_except ?_
  refine wpAny_mono ((hb (wAsM X.K i Wout D l) (X.pn ++ pins) (fun e s₁ => wpAny (model X.prog X.w) X.A (noteFrame e X.env) (fun _ s₂ => wpAny (model X.prog X.w) X.A (setFlight e none) (fun _ s₃ =>
    wpAny (model X.prog X.w) X.A (handleBy e X.env (h₀ :: hds)) (SP X pins D) X.xe s₃) X.xe s₂) X.xe s₁) (fun u s' xx => ?_) PassesOwn.looking).run [] s σ H D (I.toTry _) h) (fun f s1 hsp => ?_) (fun e s1 he => he)
  · -- the catch
    obtain ⟨a, B, sI, pins', σ', H', cls, d, rfl, J', nb, up, sky, na, os, ag, w⟩ := xx
    have J : Inv X pins σ' H' sI := J'.ofTry ok
    have sky' : Sky B (X.env :: X.outer) a (Zc cls d) X.env.locals s'.heap := by rw [← hs]; exact sky
    show wpAny (model X.prog X.w) X.A (noteFrame (.ref a) X.env) _ _ _
    refine Sky.land Zc.steady hfr hf sky' fun h3 fl3 up3 => ?_
    have J3 : Inv X pins σ' H' { s' with heap := h3 } := J.landed nb fl3.1 (up.trans up3) os ag
    obtain ⟨oe3, vs3, he3, hz3, hd3⟩ := fl3.there
    have notFr : ∀ {h : Heap} {o : Obj} {vs : Array Value}, h.FunFrames B (X.env :: X.outer) → h.get? a = some o → o.data = .fields vs → a ∉ frs (X.env :: X.outer) := fun {h o vs} ff e dd hm => by
      obtain ⟨_, o', e', hnf⟩ := ff.mem hm
      rw [e] at e'; cases e'
      exact hnf _ dd
    have nfr := notFr fl3.2.2.1 he3 hd3
    have nL : a ≠ X.env.locals := fun z => nfr (List.mem_filterMap.mpr ⟨X.env, List.mem_cons_self, by rw [hf, z]⟩)
    have nF : a ∉ X.fs := fun hm => by
      obtain ⟨e, he, q⟩ := List.mem_filterMap.mp hm
      exact nfr (List.mem_filterMap.mpr ⟨e, List.mem_cons_of_mem _ he, q⟩)
    have S3 := J3.suite he3 hd3 na nL nF
    have go : ∀ {hds' : List ExceptHandler} {l' : List (Value × (Addr → Value → Option Addr → TS))}, HdsA X n hds' l' → wAsM X.K i Wout D l' cls d σ' H' →
        wpAny (model X.prog X.w) X.A (handleBy (.ref a) X.env hds') (SP X pins D) X.xe { s' with heap := h3 } := by
      intro hds' l' hk
      induction hk with
      | nil =>
        intro w
        refine wpAny_handleBy_nil ?_
        obtain ⟨k1, k2, k3, oe, vs, T, oT, ts', he, hz, hd, h1, hr⟩ := id fl3
        unfold PySem.passOn
        refine wpAny_bind (wpAny_field he hd h1 ?_)
        rw [if_neg (show ¬ ((Value.ref T == Value.none) = true) from by simp)]
        have fin : wpAny (model X.prog X.w) X.A (setFlight (.ref a) X.env.frame) (fun _ s4 => wpAny (model X.prog X.w) X.A (throw (.ref a) : Sem Flow) (SP X pins D) X.xe s4) X.xe { s' with heap := h3 } := by
          rw [hf]
          refine HandSPX.setFlight_upZ fl3 fun h4 hh4 up4 => wpAny_throw (tk _ _ ?_)
          exact ⟨a, B, sI, pins, σ', H', cls, d, rfl, J, nb, (up.trans up3).trans up4, .inr (.inr (by rw [hs]; exact hh4)), na, os, ag, w⟩
        first
          | exact wpAny_bind (wpAny_pure (wpAny_bind fin))
          | exact wpAny_bind fin
      | @cons x c ts b₀ suite np pos' hds2 l2 hc hsu r ih =>
        intro w
        obtain ⟨b, hb1, hyes, hno⟩ := w
        refine wpAny_handleBy_cons (codeAny_handlers_test ?_) (by intro q; cases q)
        have LT : PySem.W.Looks (model X.prog X.w) h3 (typeOf (.ref a)) cls := fun A Q E s k q => wpAny_typeOf_ref (k _ _ he3) (by rw [hz3.1]; exact q)
        have LM := PySem.W.exm_one (M := model X.prog X.w) (J3.kIn) LT hb1
        have test : ∀ {Q : Value → Shared → Prop} {E : Value → Shared → Prop}, Q c { s' with heap := h3 } → wpAny (model X.prog X.w) (X.A.mark (some (.ref a))) (eval (.Name x np) X.env) Q E { s' with heap := h3 } := fun {Q E} q => by
          obtain ⟨hg, hdbg, hm | ⟨hm, hv, hnn⟩⟩ := hc
          · exact ld_glob (X := X.suite a ((a, oe3) :: (X.pn ++ pins))) S3 hg hm q hdbg
          · exact ld_blt (X := X.suite a ((a, oe3) :: (X.pn ++ pins))) S3 hg hm hv q hnn hdbg
        refine test (LM.here ?_)
        cases b with
        | true =>
          refine codeAny_handlers_suite_as ?_
          refine HandSPX.lands_againZ fl3 fun h4 fl4 up4 => ?_
          have J4 : Inv X pins σ' H' { s' with heap := h4 } := J.landed nb fl4.1 ((up.trans up3).trans up4) os ag
          obtain ⟨oe4, vs4, he4, hz4, hd4⟩ := fl4.there
          have S4 := J4.suite he4 hd4 na nL nF
          refine store_ok (X := X.suite a ((a, oe4) :: (X.pn ++ pins))) (v := .ref a) S4 hN hi hloc rfl (fun s5 S5 => ?_) (.inr hln)
          refine wpAny_mono ((hsu a oe4 cls d (X.pn ++ pins) hz4 ⟨_, hd4⟩).run [] s5 _ H' _ S5 (hyes rfl a na)) (fun f s6 hsp => ?_) (fun _ _ z => False.elim z)
          have end_ : ∀ {σ6 : L2.St} {H6 : Hp} {Q : Shared → Prop}, Inv (X.suite a ((a, oe4) :: (X.pn ++ pins))) [] σ6 H6 s6 → (∀ s7, Inv X pins (σ6.set i none) H6 s7 → Q s7) →
              wpAny (model X.prog X.w) X.A (do bindName X.env n .none; unbindBehindTheSuite X.env n pos') (fun _ s7 => Q s7) X.xe s6 := fun {σ6 H6 Q} S6 hq => gone_ok (S6.unsuite ok) hN hi hln hq
          cases f with
          | next =>
            obtain ⟨σ6, H6, S6, q6⟩ := hsp
            exact end_ S6 fun s7 J7 => ⟨_, _, J7, q6⟩
          | brk =>
            obtain ⟨σ6, H6, S6, q6⟩ := hsp
            exact end_ S6 fun s7 J7 => ⟨_, _, J7, q6⟩
          | cont =>
            obtain ⟨σ6, H6, S6, q6⟩ := hsp
            exact end_ S6 fun s7 J7 => ⟨_, _, J7, q6⟩
          | ret u =>
            obtain ⟨v6, σ6, H6, S6, r6, q6⟩ := hsp
            exact end_ S6 fun s7 J7 => ⟨_, _, _, J7, r6, q6⟩
        | false =>
          show wpAny _ X.A (handleBy (.ref a) X.env hds2) _ _ _
          exact ih (hno rfl)
    exact go hh w
  · cases f with
    | next =>
      obtain ⟨σ', H', J', q⟩ := hsp
      exact wpAny_execs_nil ⟨σ', H', J'.ofTry ok, q⟩
    | brk =>
      obtain ⟨σ', H', J', q⟩ := hsp
      exact ⟨σ', H', J'.ofTry ok, q⟩
    | cont =>
      obtain ⟨σ', H', J', q⟩ := hsp
      exact ⟨σ', H', J'.ofTry ok, q⟩
    | ret u =>
      obtain ⟨v, σ', H', J', r, q⟩ := hsp
      exact ⟨v, σ', H', J'.ofTry ok, r, q⟩
end
end SupX

set_option Elab.async false
set_option linter.all false
set_option maxRecDepth 100000
set_option maxHeartbeats 4000000
/-! Part Ec: raising and catching in the small syntax. -/
namespace Py
open PySem PySem.Spec PyProof.Rows L2 SupX
/-- what is known of an own error class -/
structure XAt (M : Mo) (mg : Str → Option Value) (P : Program) (w : World) (base : Heap) (fl : List Str) (C : Str) (ns : List Str) : Prop where
  gl : mg C = some (.ref (M.cl C))
  kp : PySem.W.keepIn M.K (.ref (M.cl C)) = true
  sb : PySem.W.subIn M.K (.ref (M.cl C)) (.type "BaseException") = some true
  ty : PySem.W.typeIn M.K (.ref (M.cl C)) = some (.type "type")
  mkx : (ns = [] ∧ PySem.W.excIn M.K (M.cl C) [.type "ValueError", .type "Exception", .type "BaseException", .type "object"] "ValueError.__new__" = true) ∨
    (1 ≤ ns.length ∧ ns.length ≤ 2 ∧ ∃ (fI : Addr) (fd : FuncData) (ps : List Str), OexC M.K (M.cl C) ∧ PySem.W.findIn M.K (.ref (M.cl C)) "__init__" = some (some (.ref fI)) ∧ PySem.W.typeIn M.K (.ref fI) = some (.type "function") ∧
      Binds M.K fd ps [] ∧ FnOk P w M.K mg base (L2.CX P w) 1 fI fd ps (spSup (M.cl C) ns))
  ec : ExcC M.K (M.cl C)
  xf : XfC M.K (M.cl C)
  nf : ∀ f ∈ fl, PySem.W.findIn M.K (.ref (M.cl C)) f = some none
/-- a class that except clauses or isinstance name -/
structure XcAt (M : Mo) (mg : Str → Option Value) (xs : List Str) (C : Str) : Prop where
  gl : mg C = some (.ref (M.cl C))
  ex : ∀ c ∈ xs, PySem.W.exmOne M.K (.ref (M.cl c)) (.ref (M.cl C)) = some (subX c C)
  ki : ∀ c ∈ xs, PySem.W.kitOne M.K (.ref (M.cl c)) (.ref (M.cl C)) = some (subX c C)
section
variable {M : Mo} {X : Cx} {W : WX} {fl : List Str} {C : Str} {ns : List Str}
theorem sS_rai0 {p pos pos' : Pos} (hK : X.K = M.K) (A : XAt M X.mg X.prog X.w X.base fl C []) (hc : X.calm = true) (tk : Takes X W) (hg : Gl X C) (hdb : (C == ("__debug__" : Str)) = false) :
    PS X (.Raise (some (.Call (.Name C p) [] [] pos)) none pos') (rdS M W fun δ S => .exc ⟨C, [], []⟩ δ S) := by
  have q : PySem.W.excIn X.K (M.cl C) [.type "ValueError", .type "Exception", .type "BaseException", .type "object"] "ValueError.__new__" = true := by
    rcases A.mkx with ⟨_, h⟩ | ⟨h, _⟩
    · rw [hK]; exact h
    · simp at h
  exact PS.weak (ps_raise hc tk (pmk_own0 F.excBase_ValueError q A.gl (by rw [hK]; exact A.kp) (raises_own (by rw [hK]; exact A.sb) (by rw [hK]; exact A.ty)) hg hdb)) fun D σ H ⟨ρ, δ, S, hS, hE, hP⟩ =>
    hP ρ H σ _ _ Step.refl hS hE ⟨rfl, .inl ⟨rfl, rfl⟩⟩
theorem zip_rev {α β : Type} : ∀ {as : List α} {bs : List β}, as.length = bs.length → as.reverse.zip bs.reverse = (as.zip bs).reverse
  | [], [], _ => rfl
  | a :: as, b :: bs, h => by
    have h' : as.length = bs.length := by simpa using h
    rw [List.reverse_cons, List.reverse_cons, List.zip_append (by simpa using h'), zip_rev h', List.zip_cons_cons, List.zip_cons_cons, List.reverse_cons]; rfl
theorem sS_raiI {e : Expr} {es : List Expr} {fs : Env → Sto → R (List D)} {p pos pos' : Pos} (hK : X.K = M.K) (A : XAt M X.mg X.prog X.w X.base fl C ns) (h1 : 1 ≤ ns.length) (hc : X.calm = true) (tk : Takes X W) (hr : Room 2 X.A) (hg : Gl X C) (hdb : (C == ("__debug__" : Str)) = false)
    (ha : PA X (e :: es) (rdA M W fs)) (he : starEach (e :: es) X.env = (false, eval e X.env) :: starEach es X.env) (hpl : (backTo pos (starEach es X.env)).any (·.1) = false) :
    PS X (.Raise (some (.Call (.Name C p) (e :: es) [] pos)) none pos') (rdS M W fun δ S => Out.of δ (fs δ S) fun ds S => if ds.length = ns.length then .exc ⟨C, ns.reverse, ds.reverse⟩ δ S else .stuck) := by
  rcases A.mkx with ⟨h, _⟩ | ⟨_, h2, fI, fd, ps, T, iC, tI, hb, Fo⟩
  · rw [h] at h1; simp at h1
  have Fo' : FnOk X.prog X.w X.K X.mg X.base (L2.CX X.prog X.w) 1 fI fd ps (spSup (M.cl C) ns) := by rw [hK]; exact Fo
  refine PS.weak (ps_raise hc tk (pmk_oex (ds := []) (dvs := []) (by rw [hK]; exact T) (by rw [hK]; exact iC) (by rw [hK]; exact tI) Fo' hr (by rw [hK]; exact hb) .nil (fun pins σ H s e s' I c => passes_call tk (fun _ _ _ _ z => z.elim) pins σ H s e s' I c) hg A.gl ha hdb he hpl)) fun D σ H ⟨ρ, δ, S, hS, hE, hP⟩ =>
    ⟨ρ, δ, S, hS, hE, hP.of hE fun ds S1 e1 ρ1 H1 vs s1 hS1 r1 hP1 => ?_⟩
  by_cases hl : ds.length = ns.length
  · rw [if_pos hl] at hP1
    have hlv := r1.length
    refine ⟨by omega, fun a ha => ⟨a, vs, by rw [List.append_nil], by omega, upd_same, fun dx H' hn hne e1 e2 e3 => ⟨rfl, dx, _, e1, e2, ?_, ?_⟩⟩⟩
    · rw [upd_ne hne] at hn; exact hn
    · rw [upd_ne hne] at hn
      have hH : upd (del H' a) dx (.xd (ns.zip vs).reverse) = upd H1 dx (.xd (ns.zip vs).reverse) := by
        funext b
        by_cases hb : b = dx
        · rw [hb, upd_same, upd_same]
        · rw [upd_ne hb, upd_ne hb]
          by_cases hba : b = a
          · rw [hba, del_same, ha]
          · rw [del_ne hba, e3 b hba hb, upd_ne hba]
      rw [hH]
      obtain ⟨hS2, s2⟩ := hS1.ext (upd_keeps (o := .xd (ns.zip vs).reverse) hn)
      refine hP1 ρ1 _ σ _ _ s2 hS2 ((hE.step s1).step s2) ⟨rfl, .inr ⟨dx, vs.reverse, rfl, ?_, by simp; omega, (r1.step s2 ds).reverse⟩⟩
      rw [upd_same, zip_rev (by omega)]
  · rw [if_neg hl] at hP1; exact hP1.elim
end
def conOk (d : D) (c : Const) : Bool := match d, c with
  | .non, .none => true
  | .bl a, .bool b => a == b
  | .int a, .int b => decide (a = b)
  | .str a, .str b => decide (a = b)
  | _, _ => false
theorem con_tC {M : Mo} {X : Cx} {d : D} {c : Const} {kk : Nat} {pos : Pos} (h : conOk d c = true) : ∃ v, PE X (.Constant c kk pos) (tC v) ∧ ∀ ρ H, Rep M ρ H d v := by
  unfold conOk at h
  split at h
  · exact ⟨_, pe_non, fun _ _ => rep_non⟩
  · rw [beq_iff_eq] at h; subst h; exact ⟨_, pe_bl, fun _ _ => rep_bl⟩
  · have := of_decide_eq_true h; subst this; exact ⟨_, pe_int, fun _ _ => rep_int⟩
  · have := of_decide_eq_true h; subst this; exact ⟨_, pe_str, fun _ _ => rep_str⟩
  · cases h
/-! ### except suites -/
structure XA (M : Mo) (ρ : Rho) (H : Hp) (S : Sto) (i : Nat) (a : Addr) (cls : Value) (d : Option Addr) (xs : List Str) (e : Ex) (σ : L2.St) : Prop where
  st : RepSt M ρ H S
  rx : RepX M ρ H e cls d
  kn : xs.contains e.c = true
  at_ : σ[i]? = some (some (.ref a))
def rdHL (M : Mo) (i : Nat) (a : Addr) (cls : Value) (d : Option Addr) (xs : List Str) (l : HL) : TE := fun σ H Q => ∃ ρ S e, XA M ρ H S i a cls d xs e σ ∧ ∃ dv, evHL e l = some dv ∧ ∀ v, Rep M ρ H dv v → Q v H
def rdHLs (M : Mo) (i : Nat) (a : Addr) (cls : Value) (d : Option Addr) (xs : List Str) (ls : List HL) : TA := fun σ H Q => ∃ ρ S e, XA M ρ H S i a cls d xs e σ ∧ ∃ ds, evHLs e ls = some ds ∧ ∀ vs, Reps M ρ H ds vs → Q vs H
def rdHT (M : Mo) (i : Nat) (a : Addr) (cls : Value) (d : Option Addr) (xs : List Str) (t : HT) : TE := fun σ H Q => ∃ ρ S e, XA M ρ H S i a cls d xs e σ ∧ ∃ dv, evHT e t = some dv ∧ ∀ H' v, Step ρ H ρ H' → RepSt M ρ H' S → Rep M ρ H' dv v → Q v H'
def notStar : Expr → Bool
  | .Starred _ _ => false
  | _ => true
/-- what is asked of the text -/
def cHL (fl : List Str) (n : Str) : HL → Expr → Bool
  | .con d, e => (match e with
    | .Constant c _ _ => conOk d c
    | _ => false)
  | .fld x, e => (match e with
    | .Attribute (.Name y _) f _ => decide (y = n) && decide (f = x) && fl.contains f
    | _ => false)
def cHLs (fl : List Str) (n : Str) : List HL → List Expr → Bool
  | [], [] => true
  | l :: ls, e :: es => notStar e && cHL fl n l e && cHLs fl n ls es
  | _, _ => false
def cHT (xc : List Str) (fl : List Str) (n : Str) (sc : Scope) : HT → Expr → Bool
  | .lf l, e => cHL fl n l e
  | .lst ls, e => (match e with
    | .List es _ => cHLs fl n ls es
    | _ => false)
  | .tup ls, e => (match e with
    | .Tuple es _ _ => cHLs fl n ls es
    | _ => false)
  | .isi C t u, e => (match e with
    | .IfExp (.Call (.Name f _) [.Name y _, .Name c _] [] _) x z _ => decide (f = ("isinstance" : Str)) && decide (y = n) && decide (c = C) && xc.contains C && (sc.names.lookup f == some .globalImplicit) && (sc.names.lookup c == some .globalImplicit) && !(c == ("__debug__" : Str)) && cHT xc fl n sc t x && cHT xc fl n sc u z
    | _ => false)
section
variable {M : Mo} {X : Cx} {W : WX} {a : Addr} {oe : Obj} {cls : Value} {d : Option Addr} {pn : List (Addr × Obj)} {i : Nat} {n : Str} {xs fl xc : List Str}
theorem hl_ok (hK : X.K = M.K) (hX : ∀ c, xs.contains c = true → ∃ ns, XAt M X.mg X.prog X.w X.base fl c ns) (hz : Zc cls d oe) (hf : ∃ vs, oe.data = .fields vs) (hN : X.N[i]? = some n) (hv : Vis X.env.scope n) (hd : (n == ("__debug__" : Str)) = false) (hcd : (n == ("__classdict__" : Str)) = false) :
    ∀ (l : HL) {e : Expr}, cHL fl n l e = true → PE (X.suite a ((a, oe) :: pn)) e (rdHL M i a cls d xs l) := by
  intro l e h
  cases l with
  | con c =>
    dsimp only [cHL] at h
    split at h
    · obtain ⟨v, p, r⟩ := con_tC (M := M) (X := X.suite a ((a, oe) :: pn)) h
      exact PE.weak p fun σ H Q ⟨ρ, S, x, A, dv, e1, q⟩ => by
        cases e1
        exact q _ (r ρ H)
    · cases h
  | fld f =>
    dsimp only [cHL] at h
    split at h
    · rename_i y py f' pf
      simp only [Bool.and_eq_true, decide_eq_true_eq] at h
      obtain ⟨⟨rfl, rfl⟩, h3⟩ := h
      refine ⟨fun pins s σ H Q I ⟨ρ, S, x, A, dv, e1, q⟩ => ?_⟩
      obtain ⟨ns, XX⟩ := hX _ A.kn
      obtain ⟨hc, hh⟩ := A.rx
      refine (pe_xf (X := X) (C := M.cl x.c) (by rw [hK]; exact XX.xf) (by rw [hK]; exact XX.nf _ (List.contains_iff_mem.mp h3)) hz hf (pe_var (X := X.suite a ((a, oe) :: pn)) hN hv hd hcd)).run pins s σ H Q I ⟨.ref a, A.at_, rfl, hc, ?_⟩
      rcases hh with ⟨hn, _⟩ | ⟨dd, vs, hdd, hH, hl, r⟩
      · replace e1 : lookD _ x.ns x.ds = some dv := e1
        rw [hn] at e1
        cases e1
      · obtain ⟨v, lk, rv⟩ := look_zip r e1
        exact ⟨dd, _, v, hdd, hH, lk, q v rv⟩
    · cases h
theorem hls_ok (hK : X.K = M.K) (hX : ∀ c, xs.contains c = true → ∃ ns, XAt M X.mg X.prog X.w X.base fl c ns) (hz : Zc cls d oe) (hf : ∃ vs, oe.data = .fields vs) (hN : X.N[i]? = some n) (hv : Vis X.env.scope n) (hd : (n == ("__debug__" : Str)) = false) (hcd : (n == ("__classdict__" : Str)) = false) :
    ∀ (ls : List HL) {es : List Expr}, cHLs fl n ls es = true → PA (X.suite a ((a, oe) :: pn)) es (rdHLs M i a cls d xs ls)
  | [], [], _ => PA.weak pa_nil fun σ H Q ⟨ρ, S, x, A, ds, e1, q⟩ => by
      replace e1 : some [] = some ds := e1
      cases e1
      exact q _ Reps.nil
  | [], _ :: _, h => by cases h
  | _ :: _, [], h => by cases h
  | l :: ls, e :: es, h => by
    simp only [cHLs, Bool.and_eq_true] at h
    obtain ⟨⟨h1, h2⟩, h3⟩ := h
    have hs : starEach (e :: es) (X.suite a ((a, oe) :: pn)).env = (false, eval e (X.suite a ((a, oe) :: pn)).env) :: starEach es (X.suite a ((a, oe) :: pn)).env := by
      cases e <;> first | rfl | cases h1
    refine PA.weak (pa_cons (hl_ok hK hX hz hf hN hv hd hcd l h2) (hls_ok hK hX hz hf hN hv hd hcd ls h3) hs) fun σ H Q ⟨ρ, S, x, A, ds, e1, q⟩ => ?_
    replace e1 : ((evHL x l).bind fun d => (evHLs x ls).bind fun ds => some (d :: ds)) = some ds := e1
    obtain ⟨d1, e2, e1⟩ := Option.bind_eq_some_iff.mp e1
    obtain ⟨d2, e3, e1⟩ := Option.bind_eq_some_iff.mp e1
    cases e1
    exact ⟨ρ, S, x, A, d1, e2, fun v rv => ⟨ρ, S, x, A, d2, e3, fun vs rvs => q _ (Reps.cons rv rvs)⟩⟩
/-- isinstance(error, C) -/
theorem isx_ok {C : Str} {p p1 p2 pos : Pos} (hK : X.K = M.K) (hX : ∀ c, xs.contains c = true → ∃ ns, XAt M X.mg X.prog X.w X.base fl c ns) (hC : XcAt M X.mg xs C) (hz : Zc cls d oe) (hf : ∃ vs, oe.data = .fields vs) (hN : X.N[i]? = some n) (hv : Vis X.env.scope n) (hd : (n == ("__debug__" : Str)) = false) (hcd : (n == ("__classdict__" : Str)) = false)
    (hb : Blt X "isinstance") (hg : Gl X C) (hdb : (C == ("__debug__" : Str)) = false) :
    PE (X.suite a ((a, oe) :: pn)) (.Call (.Name "isinstance" p) [.Name n p1, .Name C p2] [] pos) (fun σ H Q => ∃ ρ S e, XA M ρ H S i a cls d xs e σ ∧ Q (.bl (subX e.c C)) H) := by
  have ha : PA (X.suite a ((a, oe) :: pn)) [.Name n p1, .Name C p2] (tCons (tVar i) (tCons (tC (.ref (M.cl C))) tNil)) :=
    pa_cons (pe_var (X := X.suite a ((a, oe) :: pn)) hN hv hd hcd) (pa_cons (pe_glob (X := X.suite a ((a, oe) :: pn)) (v := .ref (M.cl C)) hg hC.gl rfl hdb) pa_nil)
  refine ⟨fun pins s σ H Q I ⟨ρ, S, x, A, q⟩ => ?_⟩
  obtain ⟨ns, XX⟩ := hX _ A.kn
  obtain ⟨hc, hh⟩ := A.rx
  have hm : x.c ∈ xs := List.contains_iff_mem.mp A.kn
  have hk := hC.ki _ hm
  have cv : ∀ u, RelV (.ref (M.cl C)) u → u = Value.ref (M.cl C) := fun u r => r
  rcases hh with ⟨_, hdn⟩ | ⟨dd, vs, hdd, hH, hl, r⟩
  · subst hdn
    refine (pe_callB (call_isE (by rw [hK]; exact XX.ec) (by rw [← hc]; exact hz) hf) (X := X.suite a ((a, oe) :: pn)) hb.gl hb.mg boot_isinstance ha (by decide) (by decide) rfl rfl).run pins s σ H Q I ?_
    exact ⟨.ref a, A.at_, .ref (M.cl C), _, _, rfl, cv, by rw [hK]; exact hk, q⟩
  · subst hdd
    refine (pe_callB (call_isD (by rw [hK]; exact XX.ec) (by rw [← hc]; exact hz) hf) (X := X.suite a ((a, oe) :: pn)) hb.gl hb.mg boot_isinstance ha (by decide) (by decide) rfl rfl).run pins s σ H Q I ?_
    exact ⟨.ref a, A.at_, .ref (M.cl C), _, _, _, rfl, cv, by rw [hK]; exact hk, hH, q⟩
theorem ht_ok (hK : X.K = M.K) (hX : ∀ c, xs.contains c = true → ∃ ns, XAt M X.mg X.prog X.w X.base fl c ns) (hC : ∀ C, xc.contains C = true → XcAt M X.mg xs C) (hz : Zc cls d oe) (hf : ∃ vs, oe.data = .fields vs) (hN : X.N[i]? = some n) (hv : Vis X.env.scope n) (hd : (n == ("__debug__" : Str)) = false) (hcd : (n == ("__classdict__" : Str)) = false)
    (hb : X.mg "isinstance" = none) {sc : Scope} (hsc : X.env.scope = sc) :
    ∀ (t : HT) {e : Expr}, cHT xc fl n sc t e = true → PE (X.suite a ((a, oe) :: pn)) e (rdHT M i a cls d xs t)
  | .lf l, e, h => PE.weak (hl_ok hK hX hz hf hN hv hd hcd l (by simpa only [cHT] using h)) fun σ H Q ⟨ρ, S, x, A, dv, e1, q⟩ => ⟨ρ, S, x, A, dv, e1, fun v r => q H v Step.refl A.st r⟩
  | .lst ls, e, h => by
    simp only [cHT] at h
    split at h
    · refine PE.weak (pe_lst (hls_ok hK hX hz hf hN hv hd hcd ls h)) fun σ H Q ⟨ρ, S, x, A, dv, e1, q⟩ => ?_
      replace e1 : ((evHLs x ls).bind fun ds => if ds.length ≤ 1000 then some (D.lst ds) else none) = some dv := e1
      obtain ⟨ds, e2, e1⟩ := Option.bind_eq_some_iff.mp e1
      by_cases hl : ds.length ≤ 1000
      · rw [if_pos hl] at e1
        cases e1
        refine ⟨ρ, S, x, A, ds, e2, fun vs rs => ⟨le_line (by rw [← rs.length]; omega), fun p hp => ?_⟩⟩
        obtain ⟨s2, hS2, r2⟩ := new_lst A.st rs hp
        exact q _ _ s2 hS2 r2
      · rw [if_neg hl] at e1; cases e1
    · cases h
  | .tup ls, e, h => by
    simp only [cHT] at h
    split at h
    · refine PE.weak (RT.pe_tupF (hls_ok hK hX hz hf hN hv hd hcd ls h)) fun σ H Q ⟨ρ, S, x, A, dv, e1, q⟩ => ?_
      replace e1 : ((evHLs x ls).bind fun ds => if ds.length ≤ 1000 then some (D.tup ds) else none) = some dv := e1
      obtain ⟨ds, e2, e1⟩ := Option.bind_eq_some_iff.mp e1
      by_cases hl : ds.length ≤ 1000
      · rw [if_pos hl] at e1
        cases e1
        refine ⟨ρ, S, x, A, ds, e2, fun vs rs => ⟨le_line (by rw [← rs.length]; omega), fun p o hp ho => ?_⟩⟩
        obtain ⟨s2, hS2, r2⟩ := new_tupF A.st rs hp ho
        exact q _ _ s2 hS2 r2
      · rw [if_neg hl] at e1; cases e1
    · cases h
  | .isi C t u, e, h => by
    simp only [cHT] at h
    split at h
    · rename_i f pf y py c pc pcall ex ez pi
      simp only [Bool.and_eq_true, decide_eq_true_eq, beq_iff_eq, Bool.not_eq_true'] at h
      obtain ⟨⟨⟨⟨⟨⟨⟨⟨h1, h2⟩, h3⟩, h4⟩, h5⟩, h6⟩, h7⟩, h8⟩, h9⟩ := h
      have gl : ∀ {x : Str}, sc.names.lookup x = some .globalImplicit → Gl X x := fun e => by
        show X.env.scope.names.lookup _ = _
        rw [hsc]; exact e
      rw [h1] at h5
      rw [h3] at h6 h7
      have p0 := isx_ok (pn := pn) (a := a) (p := pf) (p1 := py) (p2 := pc) (pos := pcall) hK hX (hC _ h4) hz hf hN hv hd hcd ⟨gl h5, hb⟩ (gl h6) h7
      rw [h1, h2, h3]
      have pt : PT (X.suite a ((a, oe) :: pn)) (.Call (.Name "isinstance" pf) [.Name n py, .Name C pc] [] pcall) (fun σ H Q => ∃ ρ S e, XA M ρ H S i a cls d xs e σ ∧ Q (subX e.c C) H) :=
        PT.weak (pt_val p0 (fun _ => rfl)) fun σ H Q ⟨ρ, S, x, A, q⟩ => ⟨ρ, S, x, A, _, rfl, q⟩
      refine PE.weak (pe_ifExp pt (ht_ok hK hX hC hz hf hN hv hd hcd hb hsc t h8) (ht_ok hK hX hC hz hf hN hv hd hcd hb hsc u h9)) fun σ H Q ⟨ρ, S, x, A, dv, e1, q⟩ => ⟨ρ, S, x, A, ?_⟩
      replace e1 : (if subX x.c C then evHT x t else evHT x u) = some dv := e1
      cases hs : subX x.c C with
      | true =>
        rw [hs, if_pos rfl] at e1
        first
          | exact ⟨ρ, S, x, A, dv, e1, q⟩
          | (rw [if_pos rfl]; exact ⟨ρ, S, x, A, dv, e1, q⟩)
      | false =>
        rw [hs, if_neg Bool.false_ne_true] at e1
        first
          | exact ⟨ρ, S, x, A, dv, e1, q⟩
          | (rw [if_neg Bool.false_ne_true]; exact ⟨ρ, S, x, A, dv, e1, q⟩)
    · cases h
end
end Py

set_option Elab.async false
set_option linter.all false
set_option maxRecDepth 100000
set_option maxHeartbeats 4000000
/-! Part Ee: methods, properties, == and len of own classes, defs as values. -/
namespace Py
open PySem PySem.Spec PyProof.Rows L2
theorem cx_none {P : Program} {w : World} {o : List PySem.Env} {H : Hp} {s s' : Shared} {e : Value} (h : L2.CX P w o H s (fun _ _ _ => False) e s') : False := by
  unfold L2.CX at h
  grind
/-- what is known of a method (a getter) -/
def FnAt (X : Cx) (M : Mo) (k : Nat) (f : Addr) (φ : List D → Sto → R D) (n : Nat) : Prop := ∃ fd ps, ps.length = n ∧ Binds X.K fd ps [] ∧ FnOk X.prog X.w X.K X.mg X.base (L2.CX X.prog X.w) k f fd ps (spD M φ n)
def EqAll (M : Mo) (C : Str) : Prop := ∀ t : DT, t.In M → PySem.W.notFirst M.K (M.cl C) (dtV M t) = true
section
variable {M : Mo} {ρ : Rho} {H : Hp} {S : Sto}
theorem nox_post {W : WX} {σ σ' : L2.St} {α β : Type} {RA : Rho → Hp → α → β → Prop} {Q : β → Hp → Prop} {r : R α} (W' : WX) (h : Post M W σ ρ H RA Q r.nox) : Post M W' σ' ρ H RA Q r := by
  cases r with
  | ok a S => exact h
  | exc e S => exact h.elim
  | stuck => exact h.elim
theorem nox_bind {W : WX} {σ σ' : L2.St} {α β γ ε : Type} {RA : Rho → Hp → α → β → Prop} {RB : Rho → Hp → γ → ε → Prop} {Q : ε → Hp → Prop} {Q1 : β → Hp → Prop} {r : R α} {k : α → Sto → R γ} (W' : WX) (h : Post M W σ ρ H RB Q (r.nox.bind k))
    (f : ∀ a S1, ∀ ρ1 H1 x, Step ρ H ρ1 H1 → RepSt M ρ1 H1 S1 → RA ρ1 H1 a x → Post M W σ ρ1 H1 RB Q (k a S1) → Q1 x H1) : Post M W' σ' ρ H RA Q1 r :=
  nox_post W' (h.bind fun a S1 _ => f a S1)
/-- an instance of C -/
theorem ins_of {C : Str} {d : D} {v : V} {ns : List Str} (hS : RepSt M ρ H S) (r : Rep M ρ H d v) (e : insN S C d = some ns) : C ∈ M.cs ∧ ∃ a dx vs, v = .ref a ∧ H a = some (.ins (M.cl C) dx (ns.zip vs)) ∧ ns.length = vs.length := by
  cases d with
  | obj C' ns' ds =>
    simp only [insN] at e
    split at e
    · rename_i hc
      subst hc
      cases e
      rw [Rep] at r
      obtain ⟨hc, a, dx, vs, rfl, _, ea, hl, _⟩ := r
      exact ⟨hc, a, dx, vs, rfl, ea, hl⟩
    · cases e
  | loc n =>
    simp only [insN] at e
    rw [Rep] at r
    obtain ⟨a, e1, rfl⟩ := r
    split at e
    · rename_i C' ns' ds q
      split at e
      · rename_i hc
        subst hc
        cases e
        obtain ⟨hc, dx, vs, ea, hl, _⟩ := hS.at_ n a _ e1 q
        exact ⟨hc, a, dx, vs, rfl, ea, hl⟩
      · cases e
    · cases e
  | _ => simp [insN] at e
theorem zip_none {m : Str} : ∀ {ns : List Str} {vs : List V}, ns.contains m = false → (ns.zip vs).lookup m = none
  | [], _, _ => rfl
  | n :: ns, [], _ => rfl
  | n :: ns, v :: vs, h => by
    rw [List.contains_cons, Bool.or_eq_false_iff] at h
    rw [List.zip_cons_cons, List.lookup_cons, h.1]
    exact zip_none h.2
end
section
variable {M : Mo} {X : Cx} {W : WX} {a b e o : Expr} {es : List Expr} {pos p apos : Pos} {fa fb fo : Env → Sto → R D} {fs : Env → Sto → R (List D)} {C m : Str} {f : Addr} {φ : List D → Sto → R D} {n k : Nat}
theorem noP {X' : Cx} (h1 : X'.stack = X.stack) (h2 : X'.prog = X.prog) (h3 : X'.w = X.w) : Passes (L2.CX X.prog X.w) X' (fun _ _ _ => False) := fun pins σ H s e s' I c => (cx_none c).elim
/-! ### properties -/
theorem sE_prop {g p' : Addr} {x : Str} (hK : X.K = M.K) (kt : KitOk M) (hp : PropOf X.K (M.cl C) x p' g) (F : FnAt X M k g φ 1) (hr : Room (k + 1) X.A) (ho : PE X o (rdE M W fo)) (hab : attributeBase o x X.env (eval o X.env) = eval o X.env) (hc : C ∈ M.cs) :
    PE X (.Attribute o x pos) (rdE M W fun δ S => (fo δ S).bind fun d S => if (insN S C d).isSome then (φ [d] S).nox else .stuck) := by
  obtain ⟨fd, ps, hn, hb, F⟩ := F
  refine PE.weak (pe_prop (dvs := []) (E := fun _ _ _ => False) ho (by rw [hK]; exact (kt.ins C hc).cl) hp F hr hb .nil (noP rfl rfl rfl) hab) fun σ H Q ⟨ρ, δ, S, hS, hE, hP⟩ => ⟨ρ, δ, S, hS, hE, hP.bind fun d S1 e1 ρ1 H1 v s1 hS1 r1 hP1 => ?_⟩
  by_cases hi : (insN S1 C d).isSome = true
  · rw [if_pos hi] at hP1
    obtain ⟨ns, en⟩ := Option.isSome_iff_exists.mp hi
    obtain ⟨_, a, dx, vs, rfl, ea, hl⟩ := ins_of hS1 r1 en
    exact ⟨a, dx, _, rfl, ea, rfl, ρ1, S1, [d], hS1, Reps.one r1, nox_post _ hP1⟩
  · rw [if_neg hi] at hP1; exact hP1.elim
/-! ### methods -/
def tMethS (C : Addr) (m : Str) (sp : Sp) (E : L2.St → XK) (ta : TE) (t : TA) : TE := fun σ H Q => ta σ H fun x H1 => ∃ a dx fs, x = .ref a ∧ H1 a = some (.ins C dx fs) ∧ fs.lookup m = none ∧
  t σ H1 fun vs H2 => sp (x :: vs) H2 Q (E σ)
theorem eval_meth {env : PySem.Env} (hbase : attributeBase o m env (eval o env) = eval o env) (hfew : ((backTo pos (starEach es env)).all (fun x => !x.1) && (backToKw pos (keywordEach [] env)).all (fun x => x.1.isSome)
      && decide (es.length + ([] : List Keyword).length + (if ([] : List Keyword).isEmpty then 0 else 1) < 30)) = true) (hline : (apos.endLine == pos.line) = true) :
    eval (.Call (.Attribute o m apos) es [] pos) env = (do
      let ov ← eval o env
      standAt apos.atName
      let (f, first) ← holding [ov] (getMethod ov m (plainOf o env))
      callWith pos f first (backTo pos (starEach es env)) (backToKw pos (keywordEach [] env))) := by
  show (do
    let ov ← attributeBase o m env (eval o env)
    standAt apos.atName
    methodCall o m apos pos env ov (es.length + ([] : List Keyword).length) (backTo pos (starEach es env)) (backToKw pos (keywordEach [] env))) = _
  rw [hbase]
  simp only [mcall_line (o := o) (m := m) (env := env) (show methodCallForm (es.length + ([] : List Keyword).length) (backTo pos (starEach es env)) (backToKw pos (keywordEach [] env)) = true from hfew) hline]
theorem pe_methS {pl : Sem Bool} {CX : CXT} {fd : FuncData} {ps : List Str} {sp : Sp} {E : L2.St → XK} {ta : TE} {t : TA} {C : Addr} (he : PE X o ta) (c : Cls X.K C) (hm : Meth X.K C m f) (F : FnOk X.prog X.w X.K X.mg X.base CX k f fd ps sp) (hr : Room k X.A) (hb : Binds X.K fd ps []) (hx : ∀ σ, PassesAt CX X σ (E σ)) (ha : PA X (e :: es) t)
    (hst : starEach (e :: es) X.env = (false, eval e X.env) :: starEach es X.env) (hpl : (backTo pos (starEach es X.env)).any (·.1) = false)
    (ht : eval (.Call (.Attribute o m apos) (e :: es) [] pos) X.env = (do
      let ov ← eval o X.env
      standAt apos.atName
      let (f, first) ← holding [ov] (getMethod ov m pl)
      callWith pos f first (backTo pos (starEach (e :: es) X.env)) (backToKw pos (keywordEach [] X.env)))) :
    PE X (.Call (.Attribute o m apos) (e :: es) [] pos) (tMethS C m sp E ta t) := by
  refine ⟨fun pins s σ H Q I h => ?_⟩
  refine PySem.W.methodCall_KW (pl := pl) (thn (he.run pins s σ H _ I h) fun u s1 ⟨x, H1, I1, rx, a, dx, fs, ex, ea, l, q⟩ => ?_) ht
  subst ex
  obtain rfl : u = Value.ref a := rx
  refine getmeth_ok I1 ea c hm l ?_
  refine PySem.W.callWith_K (first := [.ref a]) (h₀ := X.base) I.ok.mod.kin hm.kp (thn (ha.run pos pins s1 σ H1 _ I1 q) fun us s2 ⟨vs, H2, I2, r, q2⟩ => ⟨I2.kIn, ?_⟩) hst hpl
  exact run_fnS (us := .ref a :: us) (vs := .ref a :: vs) F hr hb (hx σ) I2 (.cons rfl r) q2
theorem pe_methS0 {pl : Sem Bool} {CX : CXT} {fd : FuncData} {ps : List Str} {sp : Sp} {E : L2.St → XK} {ta : TE} {C : Addr} (he : PE X o ta) (c : Cls X.K C) (hm : Meth X.K C m f) (F : FnOk X.prog X.w X.K X.mg X.base CX k f fd ps sp) (hr : Room k X.A) (hb : Binds X.K fd ps []) (hx : ∀ σ, PassesAt CX X σ (E σ))
    (ht : eval (.Call (.Attribute o m apos) [] [] pos) X.env = (do
      let ov ← eval o X.env
      standAt apos.atName
      let (f, first) ← holding [ov] (getMethod ov m pl)
      callWith pos f first (backTo pos (starEach [] X.env)) (backToKw pos (keywordEach [] X.env)))) :
    PE X (.Call (.Attribute o m apos) [] [] pos) (tMethS C m sp E ta tNil) := by
  refine ⟨fun pins s σ H Q I h => ?_⟩
  refine PySem.W.methodCall_KW (pl := pl) (thn (he.run pins s σ H _ I h) fun u s1 ⟨x, H1, I1, rx, a, dx, fs, ex, ea, l, q⟩ => ?_) ht
  subst ex
  obtain rfl : u = Value.ref a := rx
  refine getmeth_ok I1 ea c hm l ?_
  exact PySem.W.callWith_K0 (first := [.ref a]) I1.kIn hm.kp (run_fnS (us := [.ref a]) (vs := [.ref a]) F hr hb (hx σ) I1 (.cons rfl .nil) q)
def methG (C m : Str) (φ : List D → Sto → R D) (n : Nat) (fo : Env → Sto → R D) (fs : Env → Sto → R (List D)) : Env → Sto → R D := fun δ S => (fo δ S).bind fun x S => match insN S C x with
    | some ns => if ns.contains m then .stuck else (fs δ S).bind fun ds S => if ds.length + 1 = n then φ (x :: ds) S else .stuck
    | none => .stuck
theorem meth_rd {σ : L2.St} {H : Hp} {Q : VK} {t : TA} (ht : ∀ σ H Q, rdA M W fs σ H Q → t σ H Q) (h : rdE M W (methG C m φ n fo fs) σ H Q) : tMethS (M.cl C) m (spD M φ n) (WE W) (rdE M W fo) t σ H Q := by
  obtain ⟨ρ, δ, S, hS, hE, hP⟩ := h
  refine ⟨ρ, δ, S, hS, hE, hP.bind fun d S1 e1 ρ1 H1 v s1 hS1 r1 hP1 => ?_⟩
  cases en : insN S1 C d with
  | none => rw [en] at hP1; exact hP1.elim
  | some ns =>
    rw [en] at hP1
    dsimp only at hP1
    by_cases hc : ns.contains m = true
    · rw [if_pos hc] at hP1; exact hP1.elim
    · rw [if_neg hc] at hP1
      obtain ⟨_, a, dx, vs, rfl, ea, hl⟩ := ins_of hS1 r1 en
      refine ⟨a, dx, _, rfl, ea, zip_none (by simpa using hc), ht _ _ _ ⟨ρ1, δ, S1, hS1, hE.step s1, hP1.bind fun ds S2 e2 ρ2 H2 vs2 s2 hS2 r2 hP2 => ?_⟩⟩
      by_cases hl2 : ds.length + 1 = n
      · rw [if_pos hl2] at hP2
        exact ⟨by rw [List.length_cons, ← r2.length]; exact hl2, ρ2, S2, d :: ds, hS2, Reps.cons (r1.step s2 d) r2, post_call hP2⟩
      · rw [if_neg hl2] at hP2; exact hP2.elim
theorem sE_meth (hK : X.K = M.K) (kt : KitOk M) (hc : C ∈ M.cs) (hm : Meth X.K (M.cl C) m f) (F : FnAt X M k f φ n) (hr : Room k X.A) (tk : Takes X W) (ho : PE X o (rdE M W fo)) (ha : PA X es (rdA M W fs)) (hbase : attributeBase o m X.env (eval o X.env) = eval o X.env)
    (hfew : ((backTo pos (starEach es X.env)).all (fun x => !x.1) && (backToKw pos (keywordEach [] X.env)).all (fun x => x.1.isSome)
      && decide (es.length + ([] : List Keyword).length + (if ([] : List Keyword).isEmpty then 0 else 1) < 30)) = true) (hline : (apos.endLine == pos.line) = true)
    (hnil : es = [] → ∀ σ H Q, rdA M W fs σ H Q → tNil σ H Q) (hst : ∀ e r, es = e :: r → starEach (e :: r) X.env = (false, eval e X.env) :: starEach r X.env ∧ (backTo pos (starEach r X.env)).any (·.1) = false) :
    PE X (.Call (.Attribute o m apos) es [] pos) (rdE M W (methG C m φ n fo fs)) := by
  obtain ⟨fd, ps, hn, hb, F⟩ := F
  have cl : Cls X.K (M.cl C) := by rw [hK]; exact (kt.ins C hc).cl
  cases es with
  | nil => exact PE.weak (pe_methS0 ho cl hm F hr hb (fun σ => passAt tk σ) (eval_meth hbase hfew hline)) fun σ H Q h => meth_rd (hnil rfl) h
  | cons e es =>
    obtain ⟨h1, h2⟩ := hst e es rfl
    exact PE.weak (pe_methS ho cl hm F hr hb (fun σ => passAt tk σ) ha h1 h2 (eval_meth hbase hfew hline)) fun σ H Q h => meth_rd (fun _ _ _ h => h) h
/-! ### == of own classes -/
def rOeq (M : Mo) (C : Str) (φ : List D → Sto → R D) : R2 := fun x y H Q => ∃ ρ S d1 d2, RepSt M ρ H S ∧ Rep M ρ H d1 x ∧ Rep M ρ H d2 y ∧ (insN S C d1).isSome = true ∧ (dTy S d2).isSome = true ∧ Post M (fun _ _ _ _ => False) [] ρ H (Rep M) (fun v H' => (∃ b, v = .bl b) ∧ Q v H') (φ [d1, d2] S)
theorem op_oeq {p' : Addr} (hK : X.K = M.K) (kt : KitOk M) (hm : Meth X.K (M.cl C) "__eq__" f) (F : FnAt X M k f φ 2) (hr : Room k X.A) (hn : EqAll M C) : OpR X (compareOp .Eq) (rOeq M C φ) := by
  intro pins s σ H x y v u Q I rx ry ⟨ρ, S, d1, d2, hS, r1, r2, h1, h2, hP⟩
  obtain ⟨fd, ps, hl, hb, F⟩ := F
  obtain ⟨ns, en⟩ := Option.isSome_iff_exists.mp h1
  obtain ⟨hc, a, dx, vs, rfl, ea, _⟩ := ins_of hS r1 en
  obtain ⟨t, et⟩ := Option.isSome_iff_exists.mp h2
  obtain ⟨ty, hin⟩ := rep_ty kt hS r2 et
  obtain ⟨P, Z, p, _⟩ := kit_of I ry (hK ▸ ty)
  cases rx
  obtain ⟨mA, J, _⟩ := ins_get I.hok ea
  obtain ⟨od, J, _⟩ := J.look
  obtain ⟨mF, hF⟩ := I.fr
  show wpAny (model X.prog X.w) X.A (richCompare .Eq (.ref a) u) (EP X pins σ Q) X.xe s
  refine PySem.W.cmp_K (op := .Eq) (tb := dtV M t) hr.units0 hF I.ok.mod.kin J (Z.ty _ _ I.kIn p) (by rw [hK]; exact hn t hin) hm.at_ hm.fn ?_
  refine wpAny_mono (run_fn (us := [.ref a, u]) (vs := [.ref a, y]) (Q := fun v H' => (∃ b, v = .bl b) ∧ Q v H') (dvs := []) (E := fun _ _ _ => False) F hr hb .nil (noP rfl rfl rfl) I (.cons rfl (.cons ry .nil)) ⟨rfl, ρ, S, [d1, d2], hS, Reps.cons r1 (Reps.one r2), hP⟩) (fun w s' z => ?_) fun _ _ x => x
  obtain ⟨v', H', I', rv, ⟨b, rfl⟩, q⟩ := z
  cases rv
  exact ⟨.bl b, H', I', rfl, q⟩
def oeqG (C : Str) (φ : List D → Sto → R D) (fa fb : Env → Sto → R D) : Env → Sto → R D := fun δ S => (fa δ S).bind fun x S => (fb δ S).bind fun y S => if ((insN S C x).isSome && (dTy S y).isSome) = true then (φ [x, y] S).nox.bind blR else .stuck
theorem oeq_of {σ : L2.St} {H : Hp} {Q : VK} (h : rdE M W (oeqG C φ fa fb) σ H Q) : tOp (rOeq M C φ) (rdE M W fa) (rdE M W fb) σ H Q := by
  obtain ⟨ρ, δ, S, hS, hE, hP⟩ := h
  refine ⟨ρ, δ, S, hS, hE, hP.bind fun d1 S1 e1 ρ1 H1 x s1 hS1 r1 hP1 => ⟨ρ1, δ, S1, hS1, hE.step s1, hP1.bind fun d2 S2 e2 ρ2 H2 y s2 hS2 r2 hP2 => ?_⟩⟩
  by_cases hi : ((insN S2 C d1).isSome && (dTy S2 d2).isSome) = true
  · rw [if_pos hi] at hP2
    rw [Bool.and_eq_true] at hi
    refine ⟨ρ2, S2, d1, d2, hS2, r1.step s2 d1, r2, hi.1, hi.2, nox_bind _ hP2 fun d S3 ρ3 H3 v s3 hS3 r3 hP3 => ?_⟩
    cases d with
    | bl b => exact ⟨⟨b, rep_bl_inv r3⟩, hP3.use Step.refl hS3 r3⟩
    | _ => exact hP3.elim
  · rw [if_neg hi] at hP2; exact hP2.elim
theorem sE_oeq (hK : X.K = M.K) (kt : KitOk M) (hm : Meth X.K (M.cl C) "__eq__" f) (F : FnAt X M k f φ 2) (hr : Room k X.A) (hn : EqAll M C) (ha : PE X a (rdE M W fa)) (hb : PE X b (rdE M W fb)) (hbm : behindInMarks .Eq b = false) :
    PE X (.Compare a [.Eq] [b] pos) (rdE M W (oeqG C φ fa fb)) ∧ PT X (.Compare a [.Eq] [b] pos) (rdT M W (tst (oeqG C φ fa fb))) :=
  ⟨PE.weak (pe_cmpR (op_oeq (p' := f) hK kt hm F hr hn) ha hb hbm) fun σ H Q h => oeq_of h, PT.weak (pt_cmpR (op_oeq (p' := f) hK kt hm F hr hn) ha hb hbm) fun σ H Q h => oeq_of (rd_bl h)⟩
/-! ### len of own classes -/
def rOlen (M : Mo) (C : Str) (φ : List D → Sto → R D) : List V → Hp → VK → Prop := fun xs H Q => ∃ x ρ S d, xs = [x] ∧ RepSt M ρ H S ∧ Rep M ρ H d x ∧ (insN S C d).isSome = true ∧ Post M (fun _ _ _ _ => False) [] ρ H (Rep M) (fun v H' => (∃ n : Int, v = .int n ∧ 0 ≤ n ∧ n ≤ 10000) ∧ Q v H') (φ [d] S)
theorem call_olen (hm : Meth X.K (M.cl C) "__len__" f) (F : FnAt X M k f φ 1) (hr : Room (k + 1) X.A) : CallR X (.builtin "len") (rOlen M C φ) := by
  intro pins s σ H xs us Q I r h
  obtain ⟨x, ρ, S, d, rfl, hS, r1, h1, hP⟩ := h
  obtain ⟨fd, ps, hl, hb, F⟩ := F
  obtain ⟨ns, en⟩ := Option.isSome_iff_exists.mp h1
  obtain ⟨hc, a, dx, vs, rfl, ea, _⟩ := ins_of hS r1 en
  obtain ⟨u, rfl, ru⟩ := vals1 r
  cases ru
  obtain ⟨mA, J, _⟩ := ins_get I.hok ea
  obtain ⟨od, J, _⟩ := J.look
  obtain ⟨mF, hF⟩ := I.fr
  refine PySem.W.len_K hF I.ok.mod.kin J hm.at_ hm.fn ?_
  have hlen : ([Value.ref a] : List Value).length = ps.length := by rw [hl]; rfl
  have b := hb s [.ref a] I.kIn hlen
  refine wpAny_call (codeAny_mono (F.run X.A.in1 X.stack s H ⟨[.ref a], []⟩ [.ref a] [.ref a] (fun v H' => (∃ n : Int, v = .int n ∧ 0 ≤ n ∧ n ≤ 10000) ∧ Q v H') (fun _ _ _ => False) hr.in1 I.env0.in1 b (.cons rfl .nil) ⟨rfl, ρ, S, [d], hS, Reps.one r1, hP⟩) fun r s' hq => ?_)
  cases r with
  | error e => exact (cx_none hq).elim
  | ok fl =>
    cases fl with
    | ret u =>
      obtain ⟨v, H', I', rv, ⟨n, rfl, h0, h2⟩, q⟩ := I.after hq
      obtain ⟨t, rfl⟩ := rv
      exact ⟨⟨h0, by omega⟩, .int n, H', I'.tok _, ⟨_, rfl⟩, q⟩
    | next => exact False.elim hq
    | brk => exact False.elim hq
    | cont => exact False.elim hq
theorem sE_olen (hb : Blt X "len") (hm : Meth X.K (M.cl C) "__len__" f) (F : FnAt X M k f φ 1) (hr : Room (k + 1) X.A) (ha : PE X a (rdE M W fa)) (na : starEach [a] X.env = (false, eval a X.env) :: starEach [] X.env) :
    PE X (.Call (.Name "len" p) [a] [] pos) (rdE M W fun δ S => (fa δ S).bind fun d S => if (insN S C d).isSome then (φ [d] S).nox.bind lenR else .stuck) := by
  refine PE.weak (pe_callB (call_olen hm F hr) hb.gl hb.mg boot_len (pa_cons ha pa_nil na) (by decide) (by decide) na rfl) fun σ H Q ⟨ρ, δ, S, hS, hE, hP⟩ => ⟨ρ, δ, S, hS, hE, hP.bind fun d S1 e1 ρ1 H1 v s1 hS1 r1 hP1 => ?_⟩
  by_cases hi : (insN S1 C d).isSome = true
  · rw [if_pos hi] at hP1
    refine ⟨v, ρ1, S1, d, rfl, hS1, r1, hi, nox_bind _ hP1 fun d S3 ρ3 H3 v s3 hS3 r3 hP3 => ?_⟩
    cases d with
    | int n =>
      simp only [lenR] at hP3
      by_cases hn : 0 ≤ n ∧ n ≤ 10000
      · rw [if_pos hn] at hP3
        exact ⟨⟨n, rep_int_inv r3, hn⟩, hP3.use Step.refl hS3 r3⟩
      · rw [if_neg hn] at hP3; exact hP3.elim
    | _ => exact hP3.elim
  · rw [if_neg hi] at hP1; exact hP1.elim
/-! ### defs as values -/
theorem sE_fnv {x : Str} {g : Nat} (hg : Gl X x) (hm : X.mg x = some (.ref (M.fn g))) (hdb : (x == ("__debug__" : Str)) = false) : PE X (.Name x pos) (rdE M W fun _ S => .ok (.fn g) S) :=
  sE_c (pe_glob hg hm (show RelV (.ref (M.fn g)) (.ref (M.fn g)) from rfl) hdb) fun _ _ => by rw [Rep]
def notAttr : Expr → Bool
  | .Subscript _ _ _ => true
  | _ => false
theorem eval_calv {c : Expr} (h : notAttr c = true) {env : PySem.Env} : eval (.Call c (e :: es) [] pos) env = (eval c env >>= fun f => callWith pos f [] (backTo pos (starEach (e :: es) env)) (backToKw pos (keywordEach [] env))) := by
  cases c <;> first | rfl | cases h
def calvG (Φ : Nat → List D → Sto → R D) (fl : List Nat) (n : Nat) (fo : Env → Sto → R D) (fs : Env → Sto → R (List D)) : Env → Sto → R D := fun δ S => (fo δ S).bind fun d S => match d with
    | .fn g => if fl.contains g then (fs δ S).bind fun ds S => if ds.length = n then Φ g ds S else .stuck else .stuck
    | _ => .stuck
theorem sE_calv {Φ : Nat → List D → Sto → R D} {fl : List Nat} {c : Expr} (hF : ∀ g ∈ fl, PySem.W.keepIn X.K (.ref (M.fn g)) = true ∧ FnAt X M k (M.fn g) (Φ g) n) (hr : Room k X.A) (tk : Takes X W) (hn : notAttr c = true) (ho : PE X c (rdE M W fo)) (ha : PA X (e :: es) (rdA M W fs))
    (he : starEach (e :: es) X.env = (false, eval e X.env) :: starEach es X.env) (hpl : (backTo pos (starEach es X.env)).any (·.1) = false) :
    PE X (.Call c (e :: es) [] pos) (rdE M W (calvG Φ fl n fo fs)) := by
  refine ⟨fun pins s σ H Q I ⟨ρ, δ, S, hS, hE, hP⟩ => ?_⟩
  rw [eval_calv hn]
  refine wpAny_bind ?_
  refine thn (ho.run pins s σ H (fun v H1 => ∃ g, g ∈ fl ∧ v = .ref (M.fn g) ∧ rdA M W fs σ H1 fun vs H2 => spD M (Φ g) n vs H2 Q (WE W σ)) I ⟨ρ, δ, S, hS, hE, hP.bind fun d S1 e1 ρ1 H1 v s1 hS1 r1 hP1 => ?_⟩) fun u s1 ⟨v, H1, I1, r1, g, hg, ev, q1⟩ => ?_
  · cases d with
    | fn g =>
      dsimp only at hP1
      by_cases hc : fl.contains g = true
      · rw [if_pos hc] at hP1
        refine ⟨g, List.contains_iff_mem.mp hc, by rw [Rep] at r1; exact r1, ρ1, δ, S1, hS1, hE.step s1, hP1.bind fun ds S2 e2 ρ2 H2 vs2 s2 hS2 r2 hP2 => ?_⟩
        by_cases hl : ds.length = n
        · rw [if_pos hl] at hP2
          exact ⟨reps_len r2 hl, ρ2, S2, ds, hS2, r2, post_call hP2⟩
        · rw [if_neg hl] at hP2; exact hP2.elim
      · rw [if_neg hc] at hP1; exact hP1.elim
    | _ => exact hP1.elim
  · subst ev
    obtain rfl : u = Value.ref (M.fn g) := r1
    obtain ⟨kp, fd, ps, hl, hb, F⟩ := hF g hg
    refine PySem.W.callWith_K (h₀ := X.base) I1.ok.mod.kin kp (thn (ha.run pos pins s1 σ H1 _ I1 q1) fun us s2 ⟨vs, H2, I2, r, q⟩ => ⟨I2.kIn, ?_⟩) he hpl
    exact run_fnS F hr hb (passAt tk σ) I2 r q
end
end Py

set_option Elab.async false
set_option linter.all false
set_option maxRecDepth 100000
set_option maxHeartbeats 4000000
/-! Part Ef: t[::-1] of a tuple. -/
namespace HT
open PySem PySem.Spec PyProof.Rows PySem.Calls
section
variable {prog : Program} {w : World} {A : Around} {E : Value → Shared → Prop} {s : Shared}
theorem adjust_neg (n : Nat) : Builtin.Slice.sliceAdjust none none (-1) (n : Int) = ((n : Int) - 1, -1) := by
  unfold Builtin.Slice.sliceAdjust
  simp
theorem places_neg (n : Nat) : Builtin.Slice.slicePlaces ((n : Int) - 1) (-1) (-1) = n := by
  unfold Builtin.Slice.slicePlaces
  have h1 : ¬ ((-1 : Int) > 0) := by omega
  simp only [h1, if_false, show (- -1 : Int) = 1 by decide, Int.ediv_one]
  split <;> omega
theorem sliceApplied_neg {sl : Addr} {vl vu vs : Value} {n : Nat} {Q : Int × Int × Nat → Shared → Prop} (hs : s.heap.IsSliceOf sl vl vu vs) (pl : IsPart vl none) (pu : IsPart vu none) (ps : IsPart vs (some (-1)))
    (h : Q ((n : Int) - 1, -1, n) s) : wpAny (model prog w) A (Builtin.Slice.sliceApplied (.ref sl) (pure (n : Int))) Q E s := by
  obtain ⟨os, hos, hcs, hds⟩ := id hs
  unfold Builtin.Slice.sliceApplied Builtin.Slice.sliceFields
  refine wpAny_bind (wpAny_bind (wpAny_field hos hds (x := vl) rfl (wpAny_bind (wpAny_field hos hds (x := vu) rfl (wpAny_bind (wpAny_field hos hds (x := vs) rfl (wpAny_pure ?_)))))))
  refine wpAny_bind (slicePart_ ps ?_)
  show wpAny _ _ (if ((-1 : Int) == 0) = true then _ else _) _ _ s
  rw [if_neg (by decide)]
  refine wpAny_bind (slicePart_ pl (wpAny_bind (slicePart_ pu (wpAny_bind (wpAny_pure ?_)))))
  show wpAny _ _ (match Builtin.Slice.sliceAdjust none none (-1) (n : Int) with | (lo, hi) => pure (lo, (-1 : Int), Builtin.Slice.slicePlaces lo hi (-1))) _ _ s
  rw [adjust_neg n]
  show wpAny _ _ (pure ((n : Int) - 1, (-1 : Int), Builtin.Slice.slicePlaces ((n : Int) - 1) (-1) (-1))) _ _ s
  rw [places_neg]
  exact wpAny_pure h
theorem pick_neg (xs : Array Value) : ((List.range xs.size).filterMap fun (m : Nat) => xs[(((xs.size : Int) - 1) + (m : Int) * -1).toNat]?).toArray = xs.toList.reverse.toArray := by
  have e : (fun m : Nat => xs[(((xs.size : Int) - 1) + (m : Int) * -1).toNat]?) = (xs[·]?) ∘ fun m => xs.size - 1 - m := by
    funext m
    show xs[_]? = xs[_]?
    rw [show (((xs.size : Int) - 1) + (m : Int) * -1).toNat = xs.size - 1 - m by omega]
  have h := PySem.W.krv_all xs
  rw [e, ← List.filterMap_map, PySem.W.krv_range, List.filterMap_reverse, h]
theorem getItem_tuple_rev {t sl : Addr} {items : Array Value} {vl vu vs : Value} {Q : Value → Shared → Prop} (ht : IsTup s.heap t items) (hs : s.heap.IsSliceOf sl vl vu vs) (pl : IsPart vl none) (pu : IsPart vu none) (ps : IsPart vs (some (-1)))
    (h : Q (.ref s.heap.objs.size) { s with heap := s.heap.push { cls := .type "tuple", data := .seq items.toList.reverse.toArray } })
    (hsz : items.size ≤ sizeLine) : wpAny (model prog w) A (getItem (.ref t) (.ref sl)) Q E s := by
  have htake : sizeOk (.seq items.toList.reverse.toArray) := by
    show items.toList.reverse.toArray.size ≤ sizeLine
    rw [List.size_toArray, List.length_reverse, Array.length_toList]
    exact hsz
  obtain ⟨os, hos, hcs, hds⟩ := id hs
  have hTs : s.TypeIs (.ref sl) "slice" := ⟨os, hos, hcs⟩
  unfold getItem
  try with_reducible refine wpAny_holding ?_
  first | refine wpAny_bind (wpAny_pure ?_) | skip
  refine wpAny_bind (wpAny_sequenceKey ht.typeIs (by decide) ?_)
  refine wpAny_bind (wpAny_callSpecial?_slot (name := Str.ofString "__getitem__") ht.typeIs PyProof.Rows.slot_tuple_getitem
    (wpAny_call_entry PyProof.Rows.slot_tuple_getitem ht.typeIs entry_tuple_getitem ?_ (args_tuple_getitem _ _)))
  show wpAny _ _ (Builtin.Tuple.tupleItemsOf (.ref t) >>= _) _ _ s
  refine wpAny_bind (tupleItemsOf_ ht ?_)
  refine wpAny_bind (wpAny_typeOf hTs ?_)
  rw [if_pos (by decide)]
  refine wpAny_bind (sliceApplied_neg hs pl pu ps ?_)
  have hno : ¬ ((((items.size : Int) - 1) == 0 && (-1 : Int) == 1 && items.size == items.size) = true) := by
    intro q
    rw [Bool.and_eq_true, Bool.and_eq_true] at q
    exact absurd q.1.2 (by decide)
  show wpAny _ _ (if (((items.size : Int) - 1) == 0 && (-1 : Int) == 1 && items.size == items.size) = true then _ else _) _ _ s
  rw [if_neg hno, pick_neg]
  first
    | exact wpAny_bind (m := Builtin.Tuple.tupleExact _) (wpAny_newObj_type (wpAny_pure ⟨_, rfl, wpAny_pure h⟩) htake)
    | exact wpAny_bind (m := Builtin.Tuple.tupleExact _) (wpAny_newObj_type (wpAny_bind (wpAny_pure (wpAny_pure ⟨_, rfl, wpAny_pure h⟩))) htake)
    | exact wpAny_bind (wpAny_bind (m := Builtin.Tuple.tupleExact _) (wpAny_newObj_type (wpAny_pure (wpAny_pure ⟨_, rfl, wpAny_pure h⟩)) htake))
    | exact wpAny_bind (wpAny_bind (m := Builtin.Tuple.tupleExact _) (wpAny_newObj_type (wpAny_pure ⟨_, rfl, wpAny_pure h⟩) htake))
end
end HT
namespace Py
open PySem PySem.Spec PyProof.Rows L2 RT
def tRevX (K : PySem.W.Frag) (te : TE) : TE := fun σ H Q => te σ H fun x H1 => ∃ a xs, x = .ref a ∧ ((SqL K H1 a xs ∧ ∀ p, H1 p = none → Q (.ref p) (upd H1 p (.lst xs.reverse))) ∨ (SqT K H1 a xs ∧ NT H1 Q xs.reverse))
theorem pe_revX {X : Cx} {e : Expr} {te : TE} {k : Nat} {p1 p2 p3 pos : Pos} (he : PE X e te) : PE X (.Subscript e (.Slice none none (some (.UnaryOp .USub (.Constant (.int 1) k p1) p2)) p3) pos) (tRevX X.K te) := by
  refine ⟨fun pins s σ H Q I h => ?_⟩
  refine Subscript_ (thn (he.run pins s σ H _ I h) fun v s1 ⟨x, H1, I1, r1, q1⟩ => ?_)
  obtain ⟨a, xs, ex, q⟩ := q1
  subst ex
  cases r1
  have hst : PO X (some (.UnaryOp .USub (.Constant (.int 1) k p1) p2)) (tPart (tUn (rU fun i => .int (-i)) (tC (.int 1)))) := po_some (pe_un un_neg pe_int)
  refine wpAny_Slice (thn (po_none.run pins s1 σ H1 (fun o H2 => o = none ∧ H2 = H1) I1 ⟨rfl, rfl⟩) fun vl s2 ⟨l, H2, I2, pl, el, e2⟩ => ?_)
  subst el e2
  refine thn (po_none.run pins s2 σ H2 (fun o H3 => o = none ∧ H3 = H2) I2 ⟨rfl, rfl⟩) fun vu s3 ⟨u, H3, I3, pu, eu, e3⟩ => ?_
  subst eu e3
  refine thn (hst.run pins s3 σ H3 (fun o H4 => o = some (-1) ∧ H4 = H3) I3 ⟨1, rfl, -1, rfl, rfl, rfl⟩) fun vs s4 ⟨o, H4, I4, ps, eo, e4⟩ => ?_
  subst eo e4
  have I5 : Inv X pins σ H4 { s4 with heap := s4.heap.push { cls := .type "slice", data := .fields #[vl, vu, vs] } } := I4.kept (t' := s4.toks) fun b ob q => Heap.get?_push_of_some _ q
  show wpAny (model X.prog X.w) X.A (subscriptTail e (.Slice none none (some (.UnaryOp .USub (.Constant (.int 1) k p1) p2)) p3) (.ref a) (.ref s4.heap.objs.size)) (EP X pins σ Q) X.xe { s4 with heap := s4.heap.push { cls := .type "slice", data := .fields #[vl, vu, vs] } }
  rcases q with ⟨hx, q⟩ | ⟨hx, q⟩
  · obtain ⟨its, r, ht, hz⟩ := I5.list hx
    have hlen := r.length
    refine tail_any (ops := [.ref a, .ref s4.heap.objs.size]) ht.isList.typeIs (PySem.slot_list_getitem.lookup) ?_ (by with_unfolding_all rfl)
    refine wpAny_getItem_list_slice ht.isList (Heap.IsSliceOf.new _ vl vu vs) pl pu ps (by decide) ?_ (by rw [List.size_toArray]; omega)
    rw [PySem.W.krv_pick]
    refine ⟨.ref _, _, I5.laid (t' := s4.toks) (o := .lst xs.reverse) (fun b ob q => Heap.get?_push_of_some _ q) (Nat.le_refl _) ?_, rfl, q _ (I5.hok.fresh (Nat.le_refl _))⟩
    exact ⟨by rw [List.length_reverse]; exact hz, _, 0, r.reverse, Heap.get?_push_size _ rfl⟩
  · obtain ⟨its, r, ht, hz⟩ := I5.tuple hx
    have hlen := r.length
    refine tail_any (ops := [.ref a, .ref s4.heap.objs.size]) ht.typeIs (PyProof.Rows.slot_tuple_getitem.lookup) ?_ (by with_unfolding_all rfl)
    refine HT.getItem_tuple_rev ht (Heap.IsSliceOf.new _ vl vu vs) pl pu ps ?_ (by rw [List.size_toArray]; omega)
    exact laid (k := s4.toks) I5 r.reverse (by rw [List.length_reverse]; exact hz) q
end Py

set_option Elab.async false
set_option linter.all false
set_option maxRecDepth 100000
set_option maxHeartbeats 4000000
/-! Part Eg: texts: join, split, str of an int, int of a text, a sign, f-strings, walks over a text, enumerate from a number. -/
namespace L2
open PySem PySem.Spec PyProof.Rows
def iEnumK (K : PySem.W.Frag) (ta : TA) : TI := fun σ H R => ta σ H fun vs H1 => ∃ a xs, ∃ c : Int, vs = [.ref a, .int c] ∧ -(2 ^ 63) ≤ c ∧ c < 2 ^ 63 ∧ SqL K H1 a xs ∧ R (IteL K c a) H1
theorem pi_enumK {X : Cx} {e e2 : Expr} {ta : TA} {p pos tpos : Pos} {elts : List Expr} {kk : Nat} (hg : Gl X "enumerate") (hm : X.mg "enumerate" = none) (ha : PA X [e, e2] ta) (hs : starEach [e, e2] X.env = (false, eval e X.env) :: starEach [e2] X.env) (hpl : (backTo pos (starEach [e2] X.env)).any (·.1) = false) :
    PI X (.Tuple elts kk tpos) (.Call (.Name "enumerate" p) [e, e2] [] pos) (iEnumK X.K ta) := by
  refine ⟨fun pins s σ H R I h => ?_⟩
  refine Call_ (ld_blt I hg hm boot_enumerate (PyProof.Rows.callWith_type1 (thn (ha.run pos pins s σ H _ I h) fun us s1 ⟨vs, H1, I1, r1, q1⟩ => ?_) hs hpl))
  obtain ⟨a, xs, c, ex, c0, c1, hq, q⟩ := q1
  subst ex
  cases r1 with
  | cons r rr =>
    cases rr with
    | cons r' rr =>
    cases rr
    cases r
    obtain ⟨t, rfl⟩ := r'
    obtain ⟨its, rv, p', hz⟩ := I1.list hq
    replace p' := p'.isList
    refine enum_begins (begins_list a its.toArray) p' c0 c1 fun h' he hit hsz hk => wpAny_pyIter_enum he ?_
    have I2 : Inv X pins σ H1 { s1 with heap := h' } := I1.kept (t' := s1.toks) hk
    refine ⟨s1.heap.objs.size + 1, [s1.heap.objs.size + 1, s1.heap.objs.size], _, _, H1, rfl, I2, turn_enumL c a (s1.heap.objs.size + 1) s1.heap.objs.size, ⟨⟨.none, by simpa using he⟩, ⟨_, hit, rfl, rfl⟩, Nat.succ_ne_self _⟩, fun b hb => ?_, q⟩
    have e' : b = s1.heap.objs.size + 1 ∨ b = s1.heap.objs.size := by simpa using hb
    have hle : s1.heap.objs.size ≤ b := by
      rcases e' with z | z
      · rw [z]; exact Nat.le_add_right _ _
      · rw [z]; exact Nat.le_refl _
    exact I1.fpOk hle (I1.hok.fresh hle)
end L2
namespace Py
open PySem PySem.Spec PyProof.Rows L2
section
variable {M : Mo} {ρ : Rho} {H : Hp}
theorem reps_strs : ∀ {ds : List D} {vs : List V} {is : List Str}, Reps M ρ H ds vs → strsD ds = some is → vs = is.map V.str
  | [], _, is, h, e => by
    rw [Reps] at h; subst h
    rw [strsD] at e; cases e; rfl
  | d :: ds, _, is, h, e => by
    rw [Reps] at h
    obtain ⟨v, r, rfl, h1, h2⟩ := h
    cases d with
    | str s =>
      rw [strsD] at e
      obtain ⟨is', e1, rfl⟩ := Option.map_eq_some_iff.mp e
      rw [rep_str_inv h1, reps_strs h2 e1]; rfl
    | _ => cases e
theorem strs_reps : ∀ (l : List Str), Reps M ρ H (l.map D.str) (l.map V.str)
  | [] => by rw [List.map_nil, List.map_nil, Reps]
  | a :: l => by
    rw [List.map_cons, List.map_cons, Reps]
    exact ⟨_, _, rfl, rep_str, strs_reps l⟩
end
section
variable {M : Mo} {X : Cx} {W : WX} {o e a i : Expr} {pos apos p : Pos} {fo fe fa fb : Env → Sto → R D}
theorem sA_one (ha : PE X e (rdE M W fe)) (he : starEach [e] X.env = (false, eval e X.env) :: starEach [] X.env) : PA X [e] (rdA M W fun δ S => (fe δ S).bind fun d S => .ok [d] S) := by
  have h := sA_cons (W := W) ha (sA_nil (M := M)) he
  have e1 : (fun δ S => (fe δ S).bind fun d S => (R.ok [] S).bind fun ds S => R.ok (d :: ds) S) = (fun δ S => (fe δ S).bind fun d S => R.ok [d] S) := by
    funext δ S; cases fe δ S <;> rfl
  rw [← e1]; exact h
theorem sE_join (hK : X.K = M.K) (ho : PE X o (rdE M W fo)) (he : PE X e (rdE M W fe)) (hs : starEach [e] X.env = [(false, eval e X.env)]) (hbase : attributeBase o "join" X.env (eval o X.env) = eval o X.env) (hline : (apos.endLine == pos.line) = true) :
    PE X (.Call (.Attribute o "join" apos) [e] [] pos) (rdE M W fun δ S => (fo δ S).bind fun x S => if isStrD x = true then (fe δ S).bind fun y S => R.lift (joinD S x y) S else .stuck) :=
  PE.weak (pe_join ho he hs hbase hline) fun σ H Q ⟨ρ, δ, S, hS, hE, hP⟩ => ⟨ρ, δ, S, hS, hE, hP.bind fun d S1 e1 ρ1 H1 x s1 hS1 r1 hP1 => by
    cases d with
    | str s =>
      rw [if_pos (show isStrD (.str s) = true from rfl)] at hP1
      rw [rep_str_inv r1]
      refine ⟨⟨s, rfl⟩, ρ1, δ, S1, hS1, hE.step s1, hP1.bind fun d2 S2 e2 ρ2 H2 y s2 hS2 r2 hP2 => ?_⟩
      obtain ⟨dv, e3, hP2⟩ := hP2.lift
      unfold joinD at e3
      dsimp only at e3
      cases e4 : seqD S2 d2 with
      | none => rw [e4] at e3; cases e3
      | some ls =>
        rw [e4, Option.bind_some] at e3
        cases e5 : strsD ls with
        | none => rw [e5] at e3; cases e3
        | some ys =>
          rw [e5, Option.bind_some] at e3
          by_cases hl : (ys.map (·.length)).sum + ys.length * s.length ≤ 10000
          · rw [if_pos hl] at e3
            cases e3
            obtain ⟨a, vs, rfl, hs', rr⟩ := seq_read hS2 r2 e4
            rw [reps_strs rr e5] at hs'
            exact ⟨s, a, ys, rfl, rfl, hK ▸ hs', by omega, hP2.use Step.refl hS2 rep_str⟩
          · rw [if_neg hl] at e3; cases e3
    | _ => rw [if_neg (by intro z; cases z)] at hP1; exact hP1.elim⟩
theorem sE_split (ho : PE X o (rdE M W fo)) (he : PE X e (rdE M W fe)) (hs : starEach [e] X.env = [(false, eval e X.env)]) (hbase : attributeBase o "split" X.env (eval o X.env) = eval o X.env) (hline : (apos.endLine == pos.line) = true) :
    PE X (.Call (.Attribute o "split" apos) [e] [] pos) (rdE M W fun δ S => (fo δ S).bind fun x S => if isStrD x = true then (fe δ S).bind fun y S => R.lift (splitD x y) S else .stuck) :=
  PE.weak (pe_split ho he hs hbase hline) fun σ H Q ⟨ρ, δ, S, hS, hE, hP⟩ => ⟨ρ, δ, S, hS, hE, hP.bind fun d S1 e1 ρ1 H1 x s1 hS1 r1 hP1 => by
    cases d with
    | str s =>
      rw [if_pos (show isStrD (.str s) = true from rfl)] at hP1
      rw [rep_str_inv r1]
      refine ⟨⟨s, rfl⟩, ρ1, δ, S1, hS1, hE.step s1, hP1.bind fun d2 S2 e2 ρ2 H2 y s2 hS2 r2 hP2 => ?_⟩
      obtain ⟨dv, e3, hP2⟩ := hP2.lift
      cases d2 with
      | str b =>
        unfold splitD at e3
        dsimp only at e3
        by_cases hl : (b.length == 0) = false ∧ s.length ≤ 10000
        · rw [if_pos hl] at e3
          cases e3
          rw [rep_str_inv r2]
          refine ⟨s, b, rfl, rfl, hl.1, ?_, fun q hq => ?_⟩
          · have h1 := hl.2
            rw [sizeLine_eq]; omega
          · obtain ⟨s3, hS3, r3⟩ := new_lst hS2 (strs_reps (M := M) (ρ := ρ2) (H := H2) (Txt.split s b)) hq
            exact hP2.use s3 hS3 r3
        · rw [if_neg hl] at e3; cases e3
      | _ => cases e3
    | _ => rw [if_neg (by intro z; cases z)] at hP1; exact hP1.elim⟩
theorem sE_sti (hb : Blt X "str") (he : PE X e (rdE M W fe)) (hs : starEach [e] X.env = (false, eval e X.env) :: starEach [] X.env) (hpl : (backTo pos (starEach [] X.env)).any (·.1) = false) :
    PE X (.Call (.Name "str" p) [e] [] pos) (rdE M W fun δ S => (fe δ S).bind fun x S => R.lift (stiD x) S) :=
  PE.weak (pe_callTy call_str_int hb.gl hb.mg (by decide +kernel) (sA_one he hs) (by decide) (by decide) hs hpl) fun σ H Q ⟨ρ, δ, S, hS, hE, hP⟩ => ⟨ρ, δ, S, hS, hE, by
    dsimp only at hP ⊢
    cases ef : fe δ S with
    | stuck => rw [ef] at hP; exact hP.elim
    | exc x S1 => rw [ef] at hP; exact hP
    | ok d S1 =>
      rw [ef, R.bind_ok] at hP
      rw [R.bind_ok]
      intro ρ1 H1 vs s1 hS1 r1
      obtain ⟨v, rfl, rv⟩ := reps_one r1
      obtain ⟨dv, e3, hP⟩ := hP.lift
      cases d with
      | int i =>
        unfold stiD at e3
        dsimp only at e3
        by_cases hl : i.natAbs.log2 < 1920
        · rw [if_pos hl] at e3
          cases e3
          rw [rep_int_inv rv]
          exact ⟨i, rfl, hl, hP.use s1 hS1 rep_str⟩
        · rw [if_neg hl] at e3; cases e3
      | _ => cases e3⟩
theorem sE_ist (hb : Blt X "int") (he : PE X e (rdE M W fe)) (hs : starEach [e] X.env = (false, eval e X.env) :: starEach [] X.env) (hpl : (backTo pos (starEach [] X.env)).any (·.1) = false) :
    PE X (.Call (.Name "int" p) [e] [] pos) (rdE M W fun δ S => (fe δ S).bind fun x S => R.lift (istD x) S) :=
  PE.weak (pe_callTy call_int_str hb.gl hb.mg (by decide +kernel) (sA_one he hs) (by decide) (by decide) hs hpl) fun σ H Q ⟨ρ, δ, S, hS, hE, hP⟩ => ⟨ρ, δ, S, hS, hE, by
    dsimp only at hP ⊢
    cases ef : fe δ S with
    | stuck => rw [ef] at hP; exact hP.elim
    | exc x S1 => rw [ef] at hP; exact hP
    | ok d S1 =>
      rw [ef, R.bind_ok] at hP
      rw [R.bind_ok]
      intro ρ1 H1 vs s1 hS1 r1
      obtain ⟨v, rfl, rv⟩ := reps_one r1
      obtain ⟨dv, e3, hP⟩ := hP.lift
      cases d with
      | str a =>
        unfold istD at e3
        dsimp only at e3
        by_cases hl : a.length ≤ 640
        · rw [if_pos hl] at e3
          obtain ⟨n, e4, rfl⟩ := Option.map_eq_some_iff.mp e3
          rw [rep_str_inv rv]
          exact ⟨a, n, rfl, e4, hl, hP.use s1 hS1 rep_int⟩
        · rw [if_neg hl] at e3; cases e3
      | _ => cases e3⟩
theorem sE_ixs (ha : PE X a (rdE M W fa)) (hi : PE X i (rdE M W fb)) (hn : PlainIxT i) :
    PE X (.Subscript a i pos) (rdE M W fun δ S => (fa δ S).bind fun x S => (fb δ S).bind fun y S => R.lift (ixsD x y) S) :=
  PE.weak (pe_item_str ha hi hn) fun σ H Q ⟨ρ, δ, S, hS, hE, hP⟩ => ⟨ρ, δ, S, hS, hE, hP.bind fun d S1 e1 ρ1 H1 x s1 hS1 r1 hP1 =>
    ⟨ρ1, δ, S1, hS1, hE.step s1, hP1.bind fun d2 S2 e2 ρ2 H2 y s2 hS2 r2 hP2 => by
      obtain ⟨dv, e3, hP2⟩ := hP2.lift
      cases d with
      | str z =>
        cases d2 with
        | int j =>
          unfold ixsD at e3
          dsimp only at e3
          by_cases hl : 0 ≤ j ∧ j < 10000
          · rw [if_pos hl] at e3
            obtain ⟨c, e4, rfl⟩ := Option.map_eq_some_iff.mp e3
            rw [rep_str_inv r1, rep_int_inv r2]
            have h1 : j.toNat < z.cps.size := by
              have := (Array.getElem?_eq_some_iff.mp e4).1
              exact this
            refine ⟨z, j, c, rfl, rfl, hl.1, by omega, ?_, e4, hP2.use Step.refl hS2 rep_str⟩
            show j < ((z.cps.size : Nat) : Int)
            omega
          · rw [if_neg hl] at e3; cases e3
        | _ => cases e3
      | _ => cases e3⟩⟩
/-! ### f-strings -/
structure FsOk (M : Mo) (X : Cx) (W : WX) (es : List Expr) (f : Str → Env → Sto → R D) : Prop where
  run : ∃ ts, PJ X es ts ∧ ∀ acc σ H Q, rdE M W (f acc) σ H Q → tJs ts acc σ H fun out H1 => Q (.str out) H1
theorem fs_nil : FsOk M X W [] (fun acc _ S => .ok (.str acc) S) :=
  ⟨[], .nil, fun acc σ H Q ⟨ρ, δ, S, hS, hE, hP⟩ => hP.use Step.refl hS rep_str⟩
theorem fmtA_some {acc : Str} {d : D} {r : Str} (h : fmtA acc d = some r) : ∃ y, fmtD d = some y ∧ r = acc ++ y ∧ r.length ≤ 10000 := by
  unfold fmtA at h
  obtain ⟨y, h1, h2⟩ := Option.bind_eq_some_iff.mp h
  by_cases hl : (acc ++ y).length ≤ 10000
  · rw [if_pos hl] at h2
    cases h2
    exact ⟨y, h1, rfl, hl⟩
  · rw [if_neg hl] at h2; cases h2
theorem fs_val {es : List Expr} {f : Str → Env → Sto → R D} (he : PE X e (rdE M W fe)) (r : FsOk M X W es f) : FsOk M X W (.FormattedValue e (-1) none pos :: es) (fun acc δ S => (fe δ S).bind fun d S => (R.lift (fmtA acc d) S).bind fun acc S => f acc δ S) := by
  obtain ⟨ts, h1, h2⟩ := r.run
  refine ⟨_, .cons (pe_fmt he) h1, fun acc σ H Q ⟨ρ, δ, S, hS, hE, hP⟩ => ⟨ρ, δ, S, hS, hE, hP.bind fun d S1 e1 ρ1 H1 x s1 hS1 r1 hP1 => ?_⟩⟩
  cases e2 : fmtA acc d with
  | none => rw [e2] at hP1; exact hP1.elim
  | some acc' =>
    rw [e2] at hP1
    obtain ⟨y, e3, rfl, hl⟩ := fmtA_some e2
    have q : ∃ y', (V.str y) = .str y' ∧ (acc ++ y').length ≤ sizeLine ∧ tJs ts (acc ++ y') σ H1 fun out H1 => Q (.str out) H1 :=
      ⟨y, rfl, le_line hl, h2 _ _ _ _ ⟨ρ1, δ, S1, hS1, hE.step s1, hP1⟩⟩
    cases d with
    | str z =>
      unfold fmtD at e3
      dsimp only at e3
      by_cases hz : z.length ≤ 10000
      · rw [if_pos hz] at e3
        cases e3
        exact .inl ⟨_, rep_str_inv r1, le_line hz, q⟩
      · rw [if_neg hz] at e3; cases e3
    | int n =>
      unfold fmtD at e3
      dsimp only at e3
      by_cases hz : n.natAbs.log2 < 1920
      · rw [if_pos hz] at e3
        cases e3
        exact .inr ⟨n, rep_int_inv r1, hz, q⟩
      · rw [if_neg hz] at e3; cases e3
    | _ => cases e3
/-- a written part -/
theorem fs_con {es : List Expr} {f : Str → Env → Sto → R D} (he : PE X e (rdE M W fe)) (hst : ∀ δ S d S', fe δ S = .ok d S' → isStrD d = true) (r : FsOk M X W es f) : FsOk M X W (e :: es) (fun acc δ S => (fe δ S).bind fun d S => (R.lift (fmtA acc d) S).bind fun acc S => f acc δ S) := by
  obtain ⟨ts, h1, h2⟩ := r.run
  refine ⟨_, .cons he h1, fun acc σ H Q ⟨ρ, δ, S, hS, hE, hP⟩ => ⟨ρ, δ, S, hS, hE, hP.bind fun d S1 e1 ρ1 H1 x s1 hS1 r1 hP1 => ?_⟩⟩
  cases e2 : fmtA acc d with
  | none => rw [e2] at hP1; exact hP1.elim
  | some acc' =>
    rw [e2] at hP1
    obtain ⟨y, e3, rfl, hl⟩ := fmtA_some e2
    have hd := hst _ _ _ _ e1
    cases d with
    | str z =>
      have e4 : y = z := by
        unfold fmtD at e3
        dsimp only at e3
        by_cases hz : z.length ≤ 10000
        · rw [if_pos hz] at e3; cases e3; rfl
        · rw [if_neg hz] at e3; cases e3
      subst e4
      exact ⟨y, rep_str_inv r1, le_line hl, h2 _ _ _ _ ⟨ρ1, δ, S1, hS1, hE.step s1, hP1⟩⟩
    | _ => cases hd
theorem sE_fstr {v1 v2 : Expr} {rest : List Expr} {f : Str → Env → Sto → R D} (r : FsOk M X W (v1 :: v2 :: rest) f) : PE X (.JoinedStr (v1 :: v2 :: rest) pos) (rdE M W (f Str.empty)) := by
  obtain ⟨ts, h1, h2⟩ := r.run
  exact PE.weak (pe_joined h1) fun σ H Q h => h2 _ _ _ _ h
/-! ### walks -/
theorem wk_str {ρ : Rho} {H : Hp} {x : Str} : WkJ M ρ H (x.cps.toList.map fun c => D.str ⟨#[c]⟩, none, []) (Its x) := by
  refine ⟨fun ρ' H' S' i s hS' ok hi => ?_, fun ρ' H' S' s hS' ok => ?_, fun ρ' H' S' i z H'' s hS' ok hi y => ?_⟩
  · have : i < x.cps.size := by simpa using hi
    exact this
  · show x.cps.size ≤ _
    simp
  · obtain ⟨rfl, c, hc, rfl⟩ := y
    refine ⟨.str ⟨#[c]⟩, ?_, fun _ _ q => q, rep_str⟩
    simp [hc]
theorem sI_txt {tg : Expr} (h : PE X e (rdE M W fe)) : PI X tg e (rdI M W fun δ S => (fe δ S).bind fun d S => R.lift (txtW d) S) :=
  PI.weak (pi_str h) fun σ H Q ⟨ρ, δ, S, hS, hE, hP⟩ => ⟨ρ, δ, S, hS, hE, hP.bind fun d S1 e1 ρ1 H1 x s1 hS1 r1 hP1 => by
    obtain ⟨k, ek, hP1⟩ := hP1.lift
    cases d with
    | str s =>
      cases ek
      exact ⟨s, rep_str_inv r1, hP1.use Step.refl hS1 wk_str⟩
    | _ => cases ek⟩
theorem sI_enk {e2 : Expr} {elts : List Expr} {kk : Nat} {tpos : Pos} (hK : X.K = M.K) (hg : Gl X "enumerate") (hm : X.mg "enumerate" = none) (ha : PE X e (rdE M W fa)) (hb : PE X e2 (rdE M W fb)) (hs : starEach [e, e2] X.env = (false, eval e X.env) :: starEach [e2] X.env) (hs2 : starEach [e2] X.env = (false, eval e2 X.env) :: starEach [] X.env) (hpl : (backTo pos (starEach [e2] X.env)).any (·.1) = false) :
    PI X (.Tuple elts kk tpos) (.Call (.Name "enumerate" p) [e, e2] [] pos) (rdI M W fun δ S => (fa δ S).bind fun x S => (fb δ S).bind fun y S => R.lift (enkW x y) S) := by
  refine PI.weak (pi_enumK hg hm (sA_cons ha (sA_one hb hs2) hs) hs hpl) fun σ H Q ⟨ρ, δ, S, hS, hE, hP⟩ => ⟨ρ, δ, S, hS, hE, ?_⟩
  dsimp only at hP ⊢
  cases ea : fa δ S with
  | stuck => rw [ea] at hP; exact hP.elim
  | exc x S1 => rw [ea] at hP; exact hP
  | ok d S1 =>
    rw [ea, R.bind_ok] at hP
    rw [R.bind_ok]
    cases eb : fb δ S1 with
    | stuck => rw [eb] at hP; exact hP.elim
    | exc x S2 => rw [eb] at hP; exact hP
    | ok d2 S2 =>
      rw [eb, R.bind_ok] at hP
      rw [R.bind_ok, R.bind_ok]
      intro ρ1 H1 vs s1 hS1 r1
      obtain ⟨k, ek, hP⟩ := hP.lift
      cases d with
      | lst ds =>
        cases d2 with
        | int c =>
          unfold enkW at ek
          dsimp only at ek
          by_cases hc : -1000 ≤ c ∧ c ≤ 1000
          · rw [if_pos hc] at ek
            cases ek
            obtain ⟨v, w, rfl, rv, rw2⟩ := reps_two r1
            rw [rep_int_inv rw2]
            obtain ⟨a, vs, rfl, h1, rr⟩ := src_list hS1 rv (ds := ds) rfl (fun xs z => by cases z) Step.refl.go hS1 (by rfl)
            refine ⟨a, vs, c, rfl, by omega, by omega, hK ▸ h1, hP.use s1 hS1 ⟨fun ρ' H' S' i s hS' ok hi => ?_, fun ρ' H' S' s hS' ok => ?_, fun ρ' H' S' i x H'' s hS' ok hi y => ?_⟩⟩
            · have hi : i < ds.length := by simpa [enumD_len] using hi
              obtain ⟨a', vs', ev, h2, rr2⟩ := src_list hS1 rv (ds := ds) rfl (fun xs z => by cases z) s hS' (by rfl)
              cases ev
              exact ⟨vs', vs'[i]'(by rw [← rr2.length]; exact hi), hK ▸ h2, by simp [← rr2.length, hi]⟩
            · obtain ⟨a', vs', ev, h2, rr2⟩ := src_list hS1 rv (ds := ds) rfl (fun xs z => by cases z) s hS' (by rfl)
              cases ev
              exact ⟨vs', hK ▸ h2, by rw [enumD_len, rr2.length]; exact Nat.le_refl _⟩
            · obtain ⟨T, x', o, rfl, hT, ho, rfl, y⟩ := y
              obtain ⟨a', vs', ev, h2, rr2⟩ := src_list hS1 rv (ds := ds) rfl (fun xs z => by cases z) s hS' (by rfl)
              cases ev
              obtain ⟨d', ed, rd⟩ := rr2.get' (y vs' (hK ▸ h2))
              exact ⟨_, enumD_get ds c i d' ed, upd_keeps hT, rep_pair hS' rd hT ho⟩
          · rw [if_neg hc] at ek; cases ek
        | _ => cases ek
      | _ => cases ek
end
end Py

set_option Elab.async false
set_option linter.all false
set_option maxRecDepth 100000
set_option maxHeartbeats 4000000
/-! Part O: the checker of a text against the small syntax. -/
namespace Py
open PySem PySem.Spec PyProof.Rows L2
structure Tab where
  con : List (Str × D)
  fns : List (Str × Nat × Nat)
  cls : List (Str × Nat × Nat)
  na : List (Str × Str)
  frees : List Str
  cs : List Str
  xs : List (Str × List Str) := []
  xc : List Str := []
  xf : List Str := []
  ms : List ((Str × Str) × (Nat × Nat)) := []
  ps : List ((Str × Str) × Nat) := []
  eqs : List Str := []
def Tms.len : Tms → Nat
  | .nil => 0
  | .cons _ es => es.len + 1
def visB (sc : Scope) (x : Str) : Bool := match sc.names.lookup x with
  | some .local => true
  | some .cell => true
  | some .free => true
  | _ => false
def locB (sc : Scope) (x : Str) : Bool := match sc.names.lookup x with
  | some .local => true
  | some .cell => true
  | _ => false
def loc1 (sc : Scope) (x : Str) : Bool := match sc.names.lookup x with
  | some .local => true
  | _ => false
def glB (sc : Scope) (x : Str) : Bool := match sc.names.lookup x with
  | some .globalImplicit => true
  | _ => false
def okN (x : Str) : Bool := !(x == ("__debug__" : Str)) && !(x == ("__classdict__" : Str))
def notCall : Expr → Bool
  | .Call _ _ _ _ => false
  | _ => true
def notSet : Expr → Bool
  | .Set _ _ _ => false
  | _ => true
def notSlice : Expr → Bool
  | .Slice _ _ _ _ => false
  | _ => true
def notComp : Expr → Bool
  | .ListComp _ _ _ _ => false
  | .SetComp _ _ _ _ => false
  | .DictComp _ _ _ _ _ => false
  | _ => true
def isStrC : Expr → Bool
  | .Constant (.str _) _ _ => true
  | _ => false
def isStrT : Tm → Bool
  | .con (.str _) => true
  | _ => false
def isName (x : Str) : Expr → Bool
  | .Name y _ => decide (y = x)
  | _ => false
def tyNm : Ty → Str
  | .int => "int" | .bool => "bool" | .str => "str" | .tup => "tuple" | .lst => "list" | .cls C => C
def cTy (G : Tab) (sc : Scope) (t : Ty) (e : Expr) : Bool := isName (tyNm t) e && glB sc (tyNm t) && okN (tyNm t) && (match t with
  | .cls C => G.cs.contains C
  | t => G.frees.contains (tyNm t))
def cTys (G : Tab) (sc : Scope) : List Ty → List Expr → Bool
  | [], [] => true
  | t :: ts, e :: es => cTy G sc t e && notStar e && cTys G sc ts es
  | _, _ => false
/-- a name of a built-in thing -/
def cB (G : Tab) (sc : Scope) (x : Str) (e : Expr) : Bool := isName x e && glB sc x && G.frees.contains x
mutual
def cG (N : List Str) (sc : Scope) : Tg → Expr → Bool
  | .nm i, e => (match e with
    | .Name x _ => decide (N[i]? = some x) && locB sc x
    | _ => false)
  | .tp ts, e => (match e with
    | .Tuple es _ _ => cGs N sc ts es
    | _ => false)
def cGs (N : List Str) (sc : Scope) : Tgs → List Expr → Bool
  | .nil, es => (match es with
    | [] => true
    | _ => false)
  | .cons t ts, es => (match es with
    | e :: es => notStar e && cG N sc t e && cGs N sc ts es
    | [] => false)
end
def owOf (N : List Str) (vs : List Nat) : List (Str × Nat) := vs.map fun i => ((N[i]?).getD "", i)
mutual
def cE (G : Tab) (N : List Str) (sc : Scope) : Tm → Expr → Bool
  | .var i, e => (match e with
    | .Name x _ => decide (N[i]? = some x) && visB sc x && okN x
    | _ => false)
  | .con d, e => (match e with
    | .Constant c _ _ => conOk d c
    | _ => false)
  | .gco x d, e => isName x e && glB sc x && okN x && (match G.con.lookup x with
    | some d' => D.same d' d
    | none => false)
  | .tup es, e => (match e with
    | .Tuple xs _ _ => cA G N sc es xs
    | _ => false)
  | .lst _ es, e => (match e with
    | .List xs _ => cA G N sc es xs
    | _ => false)
  | .bin op a b, e => (match e with
    | .BinOp x o y _ => decide (o = op) && opOk op && cE G N sc a x && cE G N sc b y
    | _ => false)
  | .neg a, e => (match e with
    | .UnaryOp .USub x _ => cE G N sc a x
    | _ => false)
  | .not a, e => (match e with
    | .UnaryOp .Not x _ => cE G N sc a x
    | _ => false)
  | .cmp op a b, e => (match e with
    | .Compare x [o] [y] _ => decide (o = cmOf op) && !behindInMarks (cmOf op) y && cE G N sc a x && cE G N sc b y
    | _ => false)
  | .cha op op' a b c, e => (match e with
    | .Compare x [o, o'] [y, z] _ => decide (o = cmOf op) && decide (o' = cmOf op') && !lastMarks [cmOf op, cmOf op'] [y, z] && cE G N sc a x && cE G N sc b y && cE G N sc c z
    | _ => false)
  | .and a b, e => (match e with
    | .BoolOp .And [x, y] _ => cE G N sc a x && cE G N sc b y
    | .BoolOp .And (x :: y :: z :: r) p => cE G N sc a x && cE G N sc b (.BoolOp .And (y :: z :: r) p)
    | _ => false)
  | .or a b, e => (match e with
    | .BoolOp .Or [x, y] _ => cE G N sc a x && cE G N sc b y
    | .BoolOp .Or (x :: y :: z :: r) p => cE G N sc a x && cE G N sc b (.BoolOp .Or (y :: z :: r) p)
    | _ => false)
  | .ite c a b, e => (match e with
    | .IfExp z x y _ => cE G N sc c z && cE G N sc a x && cE G N sc b y
    | _ => false)
  | .ix a i, e => (match e with
    | .Subscript x y _ => notSlice y && cE G N sc a x && cE G N sc i y
    | _ => false)
  | .sl a lo hi, e => (match e with
    | .Subscript x (.Slice l h none _) _ => cE G N sc a x && (match l with | none => isNon lo | some y => !isNon lo && cE G N sc lo y) && (match h with | none => isNon hi | some y => !isNon hi && cE G N sc hi y)
    | _ => false)
  | .rev a, e => (match e with
    | .Subscript x (.Slice none none (some (.UnaryOp .USub (.Constant (.int 1) _ _) _)) _) _ => cE G N sc a x
    | _ => false)
  | .call f es, e => (match e with
    | .Call (.Name x _) (y :: ys) [] _ => glB sc x && okN x && decide (G.fns.lookup x = some (f, es.len)) && cA G N sc es (y :: ys)
    | _ => false)
  | .new C f _ es, e => (match e with
    | .Call (.Name x _) (y :: ys) [] _ => decide (x = C) && glB sc x && okN x && decide (G.cls.lookup C = some (f, es.len + 1)) && cA G N sc es (y :: ys)
    | _ => false)
  | .meth C m f o es, e => (match e with
    | .Call (.Attribute y a ap) xs [] p => decide (a = m) && notCall y && (ap.endLine == p.line) && decide (xs.length < 29) && decide (G.ms.lookup (C, m) = some (f, es.len + 1)) && cE G N sc o y && cA G N sc es xs
    | _ => false)
  | .fld C x o, e => (match e with
    | .Attribute y a _ => decide (a = x) && notCall y && G.na.contains (C, x) && cE G N sc o y
    | _ => false)
  | .prop C f o, e => (match e with
    | .Attribute y a _ => notCall y && decide (G.ps.lookup (C, a) = some f) && cE G N sc o y
    | _ => false)
  | .oeq C f a b, e => (match e with
    | .Compare x [.Eq] [y] _ => !behindInMarks .Eq y && decide (G.ms.lookup (C, ("__eq__" : Str)) = some (f, 2)) && G.eqs.contains C && cE G N sc a x && cE G N sc b y
    | _ => false)
  | .olen C f a, e => (match e with
    | .Call fn [x] [] _ => cB G sc "len" fn && notStar x && decide (G.ms.lookup (C, ("__len__" : Str)) = some (f, 1)) && cE G N sc a x
    | _ => false)
  | .fnv x f, e => isName x e && glB sc x && okN x && (match G.fns.lookup x with
    | some (f', _) => decide (f' = f)
    | none => false)
  | .isi ts a, e => (match e with
    | .Call f [x, .Tuple es _ _] [] _ => cB G sc "isinstance" f && notStar x && cTys G sc ts es && decide (ts.length ≤ 10000) && cE G N sc a x
    | .Call f [x, y] [] _ => cB G sc "isinstance" f && notStar x && notStar y && cTys G sc ts [y] && cE G N sc a x
    | _ => false)
  | .bi b es, e => (match e with
    | .Call f (y :: ys) [] _ => cB G sc (biN b) f && cA G N sc es (y :: ys)
    | _ => false)
  | .lof _ a, e => (match e with
    | .Call f [x] [] _ => cB G sc "list" f && notStar x && cE G N sc a x
    | _ => false)
  | .lrg1 _ a, e => (match e with
    | .Call f [.Call g [x] [] _] [] _ => cB G sc "list" f && cB G sc "range" g && notStar x && cE G N sc a x
    | _ => false)
  | .lrg2 _ a b, e => (match e with
    | .Call f [.Call g [x, y] [] _] [] _ => cB G sc "list" f && cB G sc "range" g && notStar x && notStar y && cE G N sc a x && cE G N sc b y
    | _ => false)
  | .tzip a b, e => (match e with
    | .Call f [.Call g [x, y] [] _] [] _ => cB G sc "tuple" f && cB G sc "zip" g && notStar x && notStar y && cE G N sc a x && cE G N sc b y
    | _ => false)
  | .bm b o es, e => (match e with
    | .Call (.Attribute y m ap) xs [] p => decide (m = bmN b) && notCall y && (ap.endLine == p.line) && cE G N sc o y && cA G N sc es xs && (match b with
      | .append => decide (xs.length = 1)
      | .insert => decide (xs.length = 2)
      | .index => decide (xs.length = 1)
      | .reverse => decide (xs.length = 0)
      | _ => false)
    | _ => false)
  | .comp _ vs t w c a, e => (match e with
    | .ListComp elt [⟨tg, iter, ifs, 0⟩] scope _ => blkC N sc scope (owOf N vs) && t.slots.all (fun i => vs.contains i) && notSet iter && cI G N sc w tg iter && cG N scope t tg && cC G N scope c ifs && cE G N scope a elt
    | _ => false)
  | .comp2 _ vs t w vs1 t1 w1 c1 a, e => (match e with
    | .ListComp elt [⟨tg, iter, [], 0⟩, ⟨tg1, iter1, ifs1, 0⟩] scope _ => blkC N sc scope (owOf N vs) && vs1.all (fun i => vs.contains i) && t.slots.all (fun i => vs.contains i) && t1.slots.all (fun i => vs1.contains i) && notSet iter && notSet iter1 && cI G N sc w tg iter && cG N scope t tg && cI G N scope w1 tg1 iter1 && cG N scope t1 tg1 && cC G N scope c1 ifs1 && cE G N scope a elt
    | _ => false)
  | .dict, e => (match e with
    | .Dict [] [] _ => true
    | _ => false)
  | .dget o es, e => (match e with
    | .Subscript x (.Tuple xs _ _) _ => cE G N sc o x && cA G N sc es xs
    | _ => false)
  | .din neg es o, e => (match e with
    | .Compare (.Tuple xs _ _) [op] [y] _ => decide (op = (if neg then .NotIn else .In)) && !behindInMarks op y && cA G N sc es xs && cE G N sc o y
    | _ => false)
  | .fstr es, e => (match e with
    | .JoinedStr (v1 :: v2 :: r) _ => cF G N sc es (v1 :: v2 :: r)
    | _ => false)
  | .tjn o a, e => (match e with
    | .Call (.Attribute y m ap) [x] [] p => decide (m = ("join" : Str)) && notCall y && (ap.endLine == p.line) && notStar x && cE G N sc o y && cE G N sc a x
    | _ => false)
  | .tsp o a, e => (match e with
    | .Call (.Attribute y m ap) [x] [] p => decide (m = ("split" : Str)) && notCall y && (ap.endLine == p.line) && notStar x && cE G N sc o y && cE G N sc a x
    | _ => false)
  | .sti a, e => (match e with
    | .Call f [x] [] _ => cB G sc "str" f && notStar x && cE G N sc a x
    | _ => false)
  | .ist a, e => (match e with
    | .Call f [x] [] _ => cB G sc "int" f && notStar x && cE G N sc a x
    | _ => false)
  | .ixs a i, e => (match e with
    | .Subscript x y _ => notSlice y && cE G N sc a x && cE G N sc i y
    | _ => false)
  | .calv fs a es, e => (match e with
    | .Call c (y :: ys) [] _ => notAttr c && (fs.all fun f => G.fns.any fun p => decide (p.2 = (f, es.len)) && decide (G.fns.lookup p.1 = some p.2)) && cE G N sc a c && cA G N sc es (y :: ys)
    | _ => false)
def cA (G : Tab) (N : List Str) (sc : Scope) : Tms → List Expr → Bool
  | .nil, es => (match es with
    | [] => true
    | _ => false)
  | .cons t ts, es => (match es with
    | e :: es => notStar e && cE G N sc t e && cA G N sc ts es
    | [] => false)
def cF (G : Tab) (N : List Str) (sc : Scope) : Tms → List Expr → Bool
  | .nil, es => (match es with
    | [] => true
    | _ => false)
  | .cons t ts, es => (match es with
    | .FormattedValue x c none _ :: es => decide (c = -1) && cE G N sc t x && cF G N sc ts es
    | e :: es => isStrC e && isStrT t && cE G N sc t e && cF G N sc ts es
    | [] => false)
def cC (G : Tab) (N : List Str) (sc : Scope) : Tms → List Expr → Bool
  | .nil, es => (match es with
    | [] => true
    | _ => false)
  | .cons t .nil, es => (match es with
    | [e] => cE G N sc t e
    | _ => false)
  | .cons _ _, _ => false
def cI (G : Tab) (N : List Str) (sc : Scope) : It → Expr → Expr → Bool
  | .val a, _, e => cE G N sc a e
  | .rng es, _, e => (match e with
    | .Call f (y :: ys) [] _ => cB G sc "range" f && decide (ys.length ≤ 1) && cA G N sc es (y :: ys)
    | _ => false)
  | .enum es, tg, e => (match tg, e with
    | .Tuple _ _ _, .Call f [y] [] _ => cB G sc "enumerate" f && cA G N sc es [y]
    | _, _ => false)
  | .zip es, tg, e => (match tg, e with
    | .Tuple _ _ _, .Call f [y, z] [] _ => cB G sc "zip" f && cA G N sc es [y, z]
    | _, _ => false)
  | .txt a, _, e => cE G N sc a e
  | .enk a b, tg, e => (match tg, e with
    | .Tuple _ _ _, .Call f [y, z] [] _ => cB G sc "enumerate" f && notStar y && notStar z && cE G N sc a y && cE G N sc b z
    | _, _ => false)
end
end Py

set_option Elab.async false
set_option linter.all false
set_option maxRecDepth 100000
set_option maxHeartbeats 4000000
/-! Part Ed: try with except clauses, in the small syntax. -/
namespace Py
open PySem PySem.Spec PyProof.Rows L2 SupX
def cHS (xc fl : List Str) (n : Str) (i : Nat) (N : List Str) (sc : Scope) : HS → List Stmt → Bool
  | .asg j t, s => (match s with
    | [.Assign [.Name y _] v _] => decide (N[j]? = some y) && decide (j ≠ i) && loc1 sc y && notComp v && cHT xc fl n sc t v
    | _ => false)
  | .ret t, s => (match s with
    | [.Return (some v) _] => cHT xc fl n sc t v
    | _ => false)
  | .sel _ _ _ _ _, _ => false
def cHd1 (xc fl : List Str) (n : Str) (i : Nat) (N : List Str) (sc : Scope) (C : Str) (h : HS) : ExceptHandler → Bool
  | .ExceptHandler (some (.Name x _)) (some m) suite _ => decide (x = C) && decide (m = n) && glB sc x && okN x && xc.contains C && cHS xc fl n i N sc h suite
  | _ => false
def cHds (xc fl : List Str) (n : Str) (i : Nat) (N : List Str) (sc : Scope) : List (Str × HS) → List ExceptHandler → Bool
  | [], hds => hds.isEmpty
  | p :: r, hds => (match hds with
    | hd :: tl => cHd1 xc fl n i N sc p.1 p.2 hd && cHds xc fl n i N sc r tl
    | [] => false)
/-- clauses without a name: they give a constant back -/
def cHd01 (xc : List Str) (sc : Scope) (C : Str) : HS → ExceptHandler → Bool
  | .ret (.lf (.con d)), .ExceptHandler (some (.Name x _)) none [.Return (some (.Constant k _ _)) _] _ => decide (x = C) && glB sc x && okN x && xc.contains C && conOk d k
  | _, _ => false
def cHd0 (xc : List Str) (sc : Scope) : List (Str × HS) → List ExceptHandler → Bool
  | [], hds => hds.isEmpty
  | p :: r, hds => (match hds with
    | hd :: tl => cHd01 xc sc p.1 p.2 hd && cHd0 xc sc r tl
    | [] => false)
def tsHS (M : Mo) (i : Nat) (xs : List Str) (h : HS) (a : Addr) (cls : Value) (d : Option Addr) : TS := fun D σ H => ∃ ρ S e, XA M ρ H S i a cls d xs e σ ∧ (match h with
  | .asg j t => ∃ dv, evHT e t = some dv ∧ ∀ H' v, Step ρ H ρ H' → RepSt M ρ H' S → Rep M ρ H' dv v → D.nx (σ.set j (some v)) H'
  | .ret t => ∃ dv, evHT e t = some dv ∧ ∀ H' v, Step ρ H ρ H' → RepSt M ρ H' S → Rep M ρ H' dv v → D.rt v H'
  | .sel j m _ Cs ws => j < σ.length ∧ m < σ.length ∧ Cs.length = ws.length ∧ ws.length ≤ 100 ∧ ∀ H' v1 v2, Step ρ H ρ H' → RepSt M ρ H' S → Rep M ρ H' (.lst (Cs.map fun C => .bl (subX e.c C))) v1 → Rep M ρ H' (.lst (selL ws (Cs.map (subX e.c)))) v2 → D.nx ((σ.set j (some v1)).set m (some v2)) H')
theorem RepE.setv {M : Mo} {ρ : Rho} {H : Hp} {δ : Env} {σ : L2.St} {d : Py.D} {v : V} (h : RepE M ρ H δ σ) (r : Rep M ρ H d v) (j : Nat) : RepE M ρ H (δ.set j (some d)) (σ.set j (some v)) := by
  refine ⟨by simp [h.len], fun k d' e => ?_⟩
  by_cases hk : j = k
  · subst hk
    by_cases hl : j < δ.length
    · rw [List.getElem?_set_self hl] at e
      cases e
      exact ⟨v, by rw [List.getElem?_set_self (by rw [h.len]; exact hl)], r⟩
    · rw [List.getElem?_eq_none (by simpa using hl)] at e; cases e
  · rw [List.getElem?_set_ne hk] at e ⊢
    exact h.at_ k d' e
theorem RepE.none {M : Mo} {ρ : Rho} {H : Hp} {δ : Env} {σ : L2.St} (h : RepE M ρ H δ σ) (j : Nat) (o : Option V) : RepE M ρ H (δ.set j none) (σ.set j o) := by
  refine ⟨by simp [h.len], fun k d' e => ?_⟩
  by_cases hk : j = k
  · subst hk
    rw [List.getElem?_set] at e
    simp at e
  · rw [List.getElem?_set_ne hk] at e ⊢
    exact h.at_ k d' e
theorem set_none3 {α : Type} (l : List (Option α)) (i j m : Nat) (a b : Option α) : (((l.set i none).set j a).set m b).set i none = ((l.set j a).set m b).set i none := by
  refine List.ext_getElem? fun k => ?_
  simp only [List.getElem?_set, List.length_set]
  by_cases h1 : i = k
  · simp [h1]
  · by_cases h2 : m = k
    · simp [h1, h2]
    · by_cases h3 : j = k
      · simp [h1, h2, h3]
      · simp [h1, h2, h3]
section
variable {M : Mo} {X : Cx} {W : WX} {a : Addr} {oe : Obj} {cls : Value} {d : Option Addr} {pn : List (Addr × Obj)} {i : Nat} {n : Str} {xs fl xc : List Str}
theorem hs_ok (hK : X.K = M.K) (hX : ∀ c, xs.contains c = true → ∃ ns, XAt M X.mg X.prog X.w X.base fl c ns) (hC : ∀ C, xc.contains C = true → XcAt M X.mg xs C) (hz : Zc cls d oe) (hf : ∃ vs, oe.data = .fields vs) (nd : X.N.Nodup) (hN : X.N[i]? = some n) (hv : Vis X.env.scope n) (hd : (n == ("__debug__" : Str)) = false) (hcd : (n == ("__classdict__" : Str)) = false)
    (hb : X.mg "isinstance" = none) {sc : Scope} (hsc : X.env.scope = sc) (hsw : ∀ (e : Expr) (o : Option Expr) (l : Nat), notComp e = true → swapsWith e o l X.env = pure false)
    (h : HS) {st : List Stmt} (hc : cHS xc fl n i X.N sc h st = true) : PSs (X.suite a ((a, oe) :: pn)) st (tsHS M i xs h a cls d) ∧ ∃ b₀ r, st = b₀ :: r := by
  cases h with
  | asg j t =>
    simp only [cHS] at hc
    split at hc
    · rename_i y py v pv
      simp only [Bool.and_eq_true, decide_eq_true_eq] at hc
      obtain ⟨⟨⟨⟨h1, h2⟩, h3⟩, h4⟩, h5⟩ := hc
      have hl : X.env.scope.names.lookup y = some .local := by
        rw [hsc]; unfold loc1 at h3; split at h3
        · assumption
        · cases h3
      refine ⟨PSs.weak (pss_cons (ps_set (X := X.suite a ((a, oe) :: pn)) nd h1 (.inl hl) (ht_ok hK hX hC hz hf hN hv hd hcd hb hsc t h5) (hsw _ _ _ h4) (.inr hl)) pss_nil) fun D σ H ⟨ρ, S, e, A, dv, e1, q⟩ => ⟨ρ, S, e, A, dv, e1, fun H' v s hS' r => q H' v s hS' r⟩, _, _, rfl⟩
    · cases hc
  | ret t =>
    simp only [cHS] at hc
    split at hc
    · refine ⟨PSs.weak (pss_cons (ps_ret (X := X.suite a ((a, oe) :: pn)) (ht_ok hK hX hC hz hf hN hv hd hcd hb hsc t hc)) pss_nil) fun D σ H ⟨ρ, S, e, A, dv, e1, q⟩ => ⟨ρ, S, e, A, dv, e1, fun H' v s hS' r => q H' v s hS' r⟩, _, _, rfl⟩
    · cases hc
  | sel _ _ _ _ _ => cases hc
theorem hds_ok (hK : X.K = M.K) (hX : ∀ c, xs.contains c = true → ∃ ns, XAt M X.mg X.prog X.w X.base fl c ns) (hC : ∀ C, xc.contains C = true → XcAt M X.mg xs C) (nd : X.N.Nodup) (hN : X.N[i]? = some n) (hv : Vis X.env.scope n) (hd : (n == ("__debug__" : Str)) = false) (hcd : (n == ("__classdict__" : Str)) = false)
    (hb : X.mg "isinstance" = none) {sc : Scope} (hsc : X.env.scope = sc) (hsw : ∀ (e : Expr) (o : Option Expr) (l : Nat), notComp e = true → swapsWith e o l X.env = pure false) :
    ∀ (l : List (Str × HS)) {hds : List ExceptHandler}, cHds xc fl n i X.N sc l hds = true → HdsA X n hds (l.map fun p => (Value.ref (M.cl p.1), tsHS M i xs p.2))
  | [], hds, h => by
    cases hds with
    | nil => exact .nil
    | cons a b => cases h
  | (C, h') :: r', hds, hh => by
    cases hds with
    | nil => cases hh
    | cons hd tl =>
      replace hh : (cHd1 xc fl n i X.N sc C h' hd && cHds xc fl n i X.N sc r' tl) = true := hh
      rw [Bool.and_eq_true] at hh
      obtain ⟨hh, h7⟩ := hh
      unfold cHd1 at hh
      split at hh
      · rename_i x px m suite pos'
        simp only [Bool.and_eq_true, decide_eq_true_eq] at hh
        obtain ⟨⟨⟨⟨⟨h1, h2⟩, h3⟩, h4⟩, h5⟩, h6⟩ := hh
        have gl : Gl X x := by
          show X.env.scope.names.lookup _ = _
          rw [hsc]; unfold glB at h3; split at h3
          · assumption
          · cases h3
        have dbg : (x == ("__debug__" : Str)) = false := by
          unfold okN at h4
          rw [Bool.and_eq_true, Bool.not_eq_true'] at h4
          exact h4.1
        obtain ⟨b₀, s, rfl⟩ := (hs_ok (a := 0) (oe := { cls := .none, data := .fields #[] }) (cls := .none) (d := none) (pn := []) hK hX hC ⟨rfl, rfl⟩ ⟨_, rfl⟩ nd hN hv hd hcd hb hsc hsw h' h6).2
        have q := hC _ h5
        rw [h1] at gl dbg ⊢
        rw [h2]
        exact .cons ⟨gl, dbg, .inl q.gl⟩ (fun a oe cls d pn hz hf => (hs_ok (pn := pn) hK hX hC hz hf nd hN hv hd hcd hb hsc hsw h' h6).1) (hds_ok hK hX hC nd hN hv hd hcd hb hsc hsw r' h7)
      · cases hh
theorem cHds_xc {N : List Str} {sc : Scope} : ∀ {l : List (Str × HS)} {hds : List ExceptHandler}, cHds xc fl n i N sc l hds = true → ∀ p ∈ l, xc.contains p.1 = true
  | [], _, _, p, hp => by simp at hp
  | (C, h') :: r', hds, hh, p, hp => by
    cases hds with
    | nil => cases hh
    | cons hd tl =>
      replace hh : (cHd1 xc fl n i N sc C h' hd && cHds xc fl n i N sc r' tl) = true := hh
      rw [Bool.and_eq_true] at hh
      obtain ⟨hh, h7⟩ := hh
      rcases List.mem_cons.mp hp with rfl | hp
      · unfold cHd1 at hh
        split at hh
        · simp only [Bool.and_eq_true, decide_eq_true_eq] at hh
          exact hh.1.2
        · cases hh
      · exact cHds_xc h7 p hp
theorem hdG_w {ρ ρ' : Rho} {H H' : Hp} {D : Ends} {e : Ex} {δ1 : Env} {S1 : Sto} {σ' : L2.St} {dd : Option Addr} (hK : X.K = M.K) (hC : ∀ C, xc.contains C = true → XcAt M X.mg xs C) (hm : e.c ∈ xs) (hk : xs.contains e.c = true) (hi1 : i < δ1.length)
    (s : Step ρ H ρ' H') (hS' : RepSt M ρ' H' S1) (hE' : RepE M ρ' H' δ1 σ') (hx : RepX M ρ' H' e cls dd) (hc : cls = .ref (M.cl e.c)) : ∀ (l : List (Str × HS)), (∀ p ∈ l, xc.contains p.1 = true) →
    PostS M W ρ H D (hdG (some i) l e δ1 S1) → wAsM X.K i W D (l.map fun p => (Value.ref (M.cl p.1), tsHS M i xs p.2)) cls dd σ' H' := by
  intro l
  induction l with
  | nil => exact fun _ hP => hP ρ' H' σ' cls dd s hS' hE' hx
  | cons p r ih =>
    intro hxc hP
    obtain ⟨C, h⟩ := p
    have ex := (hC C (hxc (C, h) (List.mem_cons_self ..))).ex _ hm
    refine ⟨subX e.c C, by rw [hc, hK]; exact ex, fun ht a na => ?_, fun hf => ?_⟩
    · rw [hdG.eq_def] at hP
      dsimp only at hP
      rw [ht, if_pos rfl] at hP
      have hx2 : XA M ρ' H' S1 i a cls dd xs e (σ'.set i (some (.ref a))) → tsHS M i xs h a cls dd { nx := fun σ' H' => D.nx (σ'.set i none) H', rt := D.rt, bk := fun σ' H' => D.bk (σ'.set i none) H', ct := fun σ' H' => D.ct (σ'.set i none) H' } (σ'.set i (some (.ref a))) H' := fun A => by
        refine ⟨ρ', S1, e, A, ?_⟩
        cases h with
        | asg j t =>
          dsimp only at hP ⊢
          cases ev : evHT e t with
          | none => rw [ev] at hP; exact hP.elim
          | some dv =>
            rw [ev] at hP
            dsimp only at hP
            by_cases hlt : j < δ1.length
            · rw [if_pos hlt] at hP
              refine ⟨dv, rfl, fun H2 v s2 hS2 r2 => hP ρ' H2 _ (s.trans s2) hS2 ?_⟩
              have E2 := hE'.step s2
              refine ⟨by simp [unE, E2.len], fun k d' e' => ?_⟩
              replace e' : ((δ1.set j (some dv)).set i none)[k]? = some (some d') := e'
              by_cases hki : i = k
              · subst hki
                rw [List.getElem?_set] at e'
                simp at e'
              · rw [List.getElem?_set_ne hki] at e' ⊢
                by_cases hkj : j = k
                · subst hkj
                  rw [List.getElem?_set_self hlt] at e'
                  cases e'
                  exact ⟨v, by rw [List.getElem?_set_self (by rw [List.length_set, E2.len]; exact hlt)], r2⟩
                · rw [List.getElem?_set_ne hkj] at e' ⊢
                  rw [List.getElem?_set_ne hki]
                  exact E2.at_ k d' e'
            · rw [if_neg hlt] at hP; exact hP.elim
        | ret t =>
          dsimp only at hP ⊢
          cases ev : evHT e t with
          | none => rw [ev] at hP; exact hP.elim
          | some dv =>
            rw [ev] at hP
            exact ⟨dv, rfl, fun H2 v s2 hS2 r2 => hP ρ' H2 v (s.trans s2) hS2 r2⟩
        | sel j m v Cs ws =>
          dsimp only at hP ⊢
          by_cases hg : j < δ1.length ∧ m < δ1.length ∧ Cs.length = ws.length ∧ ws.length ≤ 100
          · rw [if_pos hg] at hP
            obtain ⟨g1, g2, g3, g4⟩ := hg
            refine ⟨by rw [List.length_set, hE'.len]; exact g1, by rw [List.length_set, hE'.len]; exact g2, g3, g4, fun H2 v1 v2 s2 hS2 r1 r2 => hP ρ' H2 _ (s.trans s2) hS2 ?_⟩
            have E2 := ((((hE'.step s2).none i (some (.ref a))).setv r1 j).setv r2 m).none i none
            rw [set_none3] at E2
            exact E2
          · rw [if_neg hg] at hP; exact hP.elim
      refine hx2 ⟨hS', hx, hk, ?_⟩
      rw [List.getElem?_set_self (by rw [hE'.len]; exact hi1)]
    · rw [hdG.eq_def] at hP
      dsimp only at hP
      rw [hf, if_neg Bool.false_ne_true] at hP
      exact ih (fun p hp => hxc p (List.mem_cons_of_mem _ hp)) hP
theorem sS_tryx {body : List Stmt} {h₀ : ExceptHandler} {hds : List ExceptHandler} {l : List (Str × HS)} {pos : Pos} {g : Env → Sto → Out} (hst : X.stack = X.env :: X.outer) (hfr : X.env.frame = some X.env.locals) (tk : Takes X W)
    (hK : X.K = M.K) (hX : ∀ c, xs.contains c = true → ∃ ns, XAt M X.mg X.prog X.w X.base fl c ns) (hC : ∀ C, xc.contains C = true → XcAt M X.mg xs C) (nd : X.N.Nodup) (hN : X.N[i]? = some n) (hln : X.env.kindOf n = some .local) (hd : (n == ("__debug__" : Str)) = false) (hcd : (n == ("__classdict__" : Str)) = false)
    (hb : X.mg "isinstance" = none) {sc : Scope} (hsc : X.env.scope = sc) (hsw : ∀ (e : Expr) (o : Option Expr) (l : Nat), notComp e = true → swapsWith e o l X.env = pure false)
    (hbody : ∀ (W : WX) (pn : List (Addr × Obj)) (xe : Value → Shared → Prop), Takes (X.tr pn xe) W → PassesOwn (model X.prog X.w) X.A X.env xe → PSs (X.tr pn xe) body (rdS M W g))
    (hh : cHds xc fl n i X.N sc l (h₀ :: hds) = true) : PS X (.Try body (h₀ :: hds) [] [] pos) (rdS M W fun δ S => (g δ S).catch (hdX (some i) xs l)) := by
  refine PS.weak (ps_try_asm (i := i) (tb := fun W => rdS M W g) hst hfr nd hN hln tk hbody (hds_ok (xs := xs) hK hX hC nd hN (.inl hln) hd hcd hb hsc hsw l hh)) fun D σ H ⟨ρ, δ, S, hS, hE, hP⟩ => ⟨ρ, δ, S, hS, hE, ?_⟩
  dsimp only at hP
  cases eg : g δ S with
  | nxt δ1 S1 => rw [eg] at hP; exact hP
  | ret dv S1 => rw [eg] at hP; exact hP
  | stuck => rw [eg] at hP; exact hP.elim
  | exc e δ1 S1 =>
    rw [eg] at hP
    replace hP : PostS M W ρ H D (hdX (some i) xs l e δ1 S1) := hP
    unfold hdX at hP
    by_cases hk : (xs.contains e.c && okI (some i) δ1) = true
    · rw [if_pos hk] at hP
      rw [Bool.and_eq_true] at hk
      obtain ⟨hk, hi1⟩ := hk
      have hi1 : i < δ1.length := of_decide_eq_true hi1
      intro ρ' H' σ' cls dd s hS' hE' hx
      exact hdG_w hK hC (List.contains_iff_mem.mp hk) hk hi1 s hS' hE' hx hx.1 l (cHds_xc hh) hP
    · rw [if_neg hk] at hP; exact hP.elim
def tsK (M : Mo) (h : HS) : TS := fun D σ H => match h with
  | .ret (.lf (.con d)) => ∀ v, (∀ ρ, Rep M ρ H d v) → D.rt v H
  | _ => False
theorem hds0_ok (hC : ∀ C, xc.contains C = true → XcAt M X.mg xs C) {sc : Scope} (hsc : X.env.scope = sc) :
    ∀ (l : List (Str × HS)) {hds : List ExceptHandler}, cHd0 xc sc l hds = true → HdsOk X hds (l.map fun p => (Value.ref (M.cl p.1), fun _ _ _ => tsK M p.2))
  | [], hds, h => by
    cases hds with
    | nil => exact .nil
    | cons a b => cases h
  | (C, h') :: r', hds, hh => by
    cases hds with
    | nil => cases hh
    | cons hd tl =>
      replace hh : (cHd01 xc sc C h' hd && cHd0 xc sc r' tl) = true := hh
      rw [Bool.and_eq_true] at hh
      obtain ⟨hh, h7⟩ := hh
      unfold cHd01 at hh
      split at hh
      · rename_i d x px k kk kp rp pos'
        simp only [Bool.and_eq_true, decide_eq_true_eq] at hh
        obtain ⟨⟨⟨⟨h1, h3⟩, h4⟩, h5⟩, h6⟩ := hh
        have gl : Gl X x := by
          show X.env.scope.names.lookup _ = _
          rw [hsc]; unfold glB at h3; split at h3
          · assumption
          · cases h3
        have dbg : (x == ("__debug__" : Str)) = false := by
          unfold okN at h4
          rw [Bool.and_eq_true, Bool.not_eq_true'] at h4
          exact h4.1
        have q := hC _ h5
        rw [h1] at gl dbg ⊢
        refine .cons ⟨gl, dbg, .inl q.gl⟩ (fun a oe cls d' pn hz hf => ?_) (hds0_ok hC hsc r' h7)
        obtain ⟨v, p, r⟩ := con_tC (M := M) (X := X.suite a ((a, oe) :: pn)) (kk := kk) (pos := kp) h6
        exact PSs.weak (pss_cons (ps_ret p) pss_nil) fun D σ H q => q v fun ρ => r ρ H
      · cases hh
theorem cHd0_xc {sc : Scope} : ∀ {l : List (Str × HS)} {hds : List ExceptHandler}, cHd0 xc sc l hds = true → ∀ p ∈ l, xc.contains p.1 = true ∧ ∃ d, p.2 = .ret (.lf (.con d))
  | [], _, _, p, hp => by simp at hp
  | (C, h') :: r', hds, hh, p, hp => by
    cases hds with
    | nil => cases hh
    | cons hd tl =>
      replace hh : (cHd01 xc sc C h' hd && cHd0 xc sc r' tl) = true := hh
      rw [Bool.and_eq_true] at hh
      obtain ⟨hh, h7⟩ := hh
      rcases List.mem_cons.mp hp with rfl | hp
      · unfold cHd01 at hh
        split at hh
        · simp only [Bool.and_eq_true, decide_eq_true_eq] at hh
          exact ⟨hh.1.2, _, rfl⟩
        · cases hh
      · exact cHd0_xc h7 p hp
theorem hdG_w0 {ρ ρ' : Rho} {H H' : Hp} {D : Ends} {e : Ex} {δ1 : Env} {S1 : Sto} {σ' : L2.St} {dd : Option Addr} (hK : X.K = M.K) (hC : ∀ C, xc.contains C = true → XcAt M X.mg xs C) (hm : e.c ∈ xs)
    (s : Step ρ H ρ' H') (hS' : RepSt M ρ' H' S1) (hE' : RepE M ρ' H' δ1 σ') (hx : RepX M ρ' H' e cls dd) (hc : cls = .ref (M.cl e.c)) : ∀ (l : List (Str × HS)), (∀ p ∈ l, xc.contains p.1 = true ∧ ∃ d, p.2 = .ret (.lf (.con d))) →
    PostS M W ρ H D (hdG none l e δ1 S1) → wMany X.K W D (l.map fun p => (Value.ref (M.cl p.1), fun _ _ _ => tsK M p.2)) cls dd σ' H' := by
  intro l
  induction l with
  | nil => exact fun _ hP => hP ρ' H' σ' cls dd s hS' hE' hx
  | cons p r ih =>
    intro hxc hP
    obtain ⟨C, h⟩ := p
    obtain ⟨h1, d, h2⟩ := hxc (C, h) (List.mem_cons_self ..)
    dsimp only at h2
    subst h2
    refine ⟨subX e.c C, by rw [hc, hK]; exact (hC C h1).ex _ hm, fun ht a na => ?_, fun hf => ?_⟩
    · rw [hdG.eq_def] at hP
      dsimp only at hP
      rw [ht, if_pos rfl] at hP
      exact fun v r => hP ρ' H' v s hS' (r ρ')
    · rw [hdG.eq_def] at hP
      dsimp only at hP
      rw [hf, if_neg Bool.false_ne_true] at hP
      exact ih (fun p hp => hxc p (List.mem_cons_of_mem _ hp)) hP
theorem sS_try0 {body : List Stmt} {h₀ : ExceptHandler} {hds : List ExceptHandler} {l : List (Str × HS)} {pos : Pos} {g : Env → Sto → Out} (hst : X.stack = X.env :: X.outer) (hfr : X.env.frame = some X.env.locals) (tk : Takes X W)
    (hK : X.K = M.K) (hC : ∀ C, xc.contains C = true → XcAt M X.mg xs C) {sc : Scope} (hsc : X.env.scope = sc)
    (hbody : ∀ (W : WX) (pn : List (Addr × Obj)) (xe : Value → Shared → Prop), Takes (X.tr pn xe) W → PassesOwn (model X.prog X.w) X.A X.env xe → PSs (X.tr pn xe) body (rdS M W g))
    (hh : cHd0 xc sc l (h₀ :: hds) = true) : PS X (.Try body (h₀ :: hds) [] [] pos) (rdS M W fun δ S => (g δ S).catch (hdX none xs l)) := by
  refine PS.weak (ps_try_many (tb := fun W => rdS M W g) hst hfr tk hbody (hds0_ok (xs := xs) hC hsc l hh)) fun D σ H ⟨ρ, δ, S, hS, hE, hP⟩ => ⟨ρ, δ, S, hS, hE, ?_⟩
  dsimp only at hP
  cases eg : g δ S with
  | nxt δ1 S1 => rw [eg] at hP; exact hP
  | ret dv S1 => rw [eg] at hP; exact hP
  | stuck => rw [eg] at hP; exact hP.elim
  | exc e δ1 S1 =>
    rw [eg] at hP
    replace hP : PostS M W ρ H D (hdX none xs l e δ1 S1) := hP
    unfold hdX at hP
    by_cases hk : (xs.contains e.c && okI none δ1) = true
    · rw [if_pos hk] at hP
      rw [Bool.and_eq_true] at hk
      intro ρ' H' σ' cls dd s hS' hE' hx
      exact hdG_w0 hK hC (List.contains_iff_mem.mp hk.1) s hS' hE' hx hx.1 l (cHd0_xc hh) hP
    · rw [if_neg hk] at hP; exact hP.elim
end
end Py

set_option Elab.async false
set_option linter.all false
set_option maxRecDepth 100000
set_option maxHeartbeats 4000000
/-! Part P: what the checker accepts is so (expressions). -/
namespace Py
open PySem PySem.Spec PyProof.Rows L2
/-- a kind as it stands in a block: what is free there may be seen as a cell -/
def Kd (o o' : Option NameKind) : Prop := o' = o ∨ (o = some .free ∧ o' = some .cell)
theorem look_rel {env : PySem.Env} {x : Str} : ∀ (names : List (Str × NameKind)), Kd (names.lookup x) ((names.map fun (n, k) => if (k == .free && env.scope.kind == .function && env.kindOf n == some .cell) then (n, NameKind.cell) else (n, k)).lookup x)
  | [] => .inl rfl
  | (n, k) :: r => by
    have ih := look_rel (env := env) (x := x) r
    rw [List.map_cons]
    dsimp only
    by_cases hc : (k == NameKind.free && env.scope.kind == .function && env.kindOf n == some .cell) = true
    · rw [if_pos hc, List.lookup_cons, List.lookup_cons]
      cases hx : x == n with
      | true =>
        rw [Bool.and_eq_true, Bool.and_eq_true] at hc
        have hk : k = .free := beq_iff_eq.mp hc.1.1
        subst hk
        exact .inr ⟨rfl, rfl⟩
      | false => exact ih
    · rw [if_neg hc, List.lookup_cons, List.lookup_cons]
      cases hx : x == n with
      | true => exact .inl rfl
      | false => exact ih
structure GoodX (M : Mo) (Φ : Fns) (k : Nat) (G : Tab) (N : List Str) (X : Cx) (sc : Scope) : Prop where
  K : X.K = M.K
  hN : X.N = N
  nd : N.Nodup
  hsc : ∀ x, Kd (sc.names.lookup x) (X.env.scope.names.lookup x)
  calm : X.calm = true
  room : Room (k + 1) X.A
  fn : ∀ x, sc.names.lookup x = some .cell → X.fn x = true
  kit : KitOk M
  con : ∀ x d, G.con.lookup x = some d → ∃ v u, X.mg x = some u ∧ RelV v u ∧ ∀ ρ H, Rep M ρ H d v
  free : ∀ x ∈ G.frees, X.mg x = none
  na : ∀ p ∈ G.na, NoAttr M.K (M.cl p.1) p.2
  fns : ∀ x f n, G.fns.lookup x = some (f, n) → DefAt M X k x (M.fn f) (Φ f) n
  cls : ∀ C f n, G.cls.lookup C = some (f, n) → ∃ a, ClsFn M X k C C a (Φ f) n ∧ PySem.W.keepIn X.K (.ref (M.cl C)) = true
  csI : ∀ C ∈ G.cs, C ∈ M.cs ∧ X.mg C = some (.ref (M.cl C))
  k2 : 2 ≤ k
  xsI : ∀ C ns, G.xs.lookup C = some ns → XAt M X.mg X.prog X.w X.base G.xf C ns
  xcI : ∀ C, G.xc.contains C = true → XcAt M X.mg (G.xs.map (·.1)) C
  msI : ∀ C m f n, G.ms.lookup (C, m) = some (f, n) → C ∈ M.cs ∧ Meth M.K (M.cl C) m (M.fn f) ∧ FnAt X M k (M.fn f) (Φ f) n
  psI : ∀ C x f, G.ps.lookup (C, x) = some f → C ∈ M.cs ∧ (∃ p', PropOf M.K (M.cl C) x p' (M.fn f)) ∧ FnAt X M k (M.fn f) (Φ f) 1
  eqI : ∀ C ∈ G.eqs, EqAll M C
section
variable {env : PySem.Env}
theorem star_ok {e : Expr} {es : List Expr} (h : notStar e = true) : starEach (e :: es) env = (false, eval e env) :: starEach es env := by
  cases e <;> first | rfl | cases h
theorem asgn_ok {e : Expr} {es : List Expr} (h : notStar e = true) : assignEach (e :: es) env = (false, assign e env) :: assignEach es env := by
  cases e <;> first | rfl | cases h
theorem isName_eq {x : Str} {e : Expr} (h : isName x e = true) : ∃ p, e = .Name x p := by
  cases e <;> first | (cases h; done) | exact ⟨_, by rw [show _ = x from of_decide_eq_true h]⟩
theorem call_base {o : Expr} {a : Str} {w : Sem Value} (h : notCall o = true) : attributeBase o a env w = w := by
  cases o <;> first | rfl | cases h
theorem set_ok {e : Expr} {x : Value} (h : notSet e = true) : foldedSetIterable e env x = pure x := by
  cases e <;> first | rfl | cases h
theorem plain_ix {e : Expr} (h : notSlice e = true) : PlainIx e := fun o i => by
  cases e <;> first | rfl | cases h
end
theorem okN1 {x : Str} (h : okN x = true) : (x == ("__debug__" : Str)) = false := by
  unfold okN at h
  rw [Bool.and_eq_true, Bool.not_eq_true'] at h
  exact h.1
theorem okN2 {x : Str} (h : okN x = true) : (x == ("__classdict__" : Str)) = false := by
  unfold okN at h
  rw [Bool.and_eq_true, Bool.not_eq_true', Bool.not_eq_true'] at h
  exact h.2
section
variable {M : Mo} {Φ : Fns} {k : Nat} {G : Tab} {N : List Str} {X : Cx} {sc : Scope} {W : WX}
theorem Kd.loc {o o' : Option NameKind} {k : NameKind} (h : Kd o o') (e : o = some k) (n : k ≠ .free) : o' = some k := by
  rcases h with h | ⟨h, _⟩
  · rw [h]; exact e
  · rw [e] at h; exact absurd (Option.some.inj h) n
theorem GoodX.vis (g : GoodX M Φ k G N X sc) {x : Str} (h : visB sc x = true) : Vis X.env.scope x := by
  have hk := g.hsc x
  unfold visB at h
  unfold Vis
  split at h
  · exact .inl (hk.loc ‹_› (by decide))
  · exact .inr (.inl (hk.loc ‹_› (by decide)))
  · rename_i e
    rw [e] at hk
    rcases hk with q | ⟨_, q⟩
    · exact .inr (.inr q)
    · exact .inr (.inl q)
  · cases h
theorem GoodX.loc (g : GoodX M Φ k G N X sc) {x : Str} (h : locB sc x = true) : Loc X.env.scope x := by
  have hk := g.hsc x
  unfold locB at h
  split at h
  · exact .inl (hk.loc ‹_› (by decide))
  · exact .inr (hk.loc ‹_› (by decide))
  · cases h
theorem GoodX.gl (g : GoodX M Φ k G N X sc) {x : Str} (h : glB sc x = true) : Gl X x := by
  have hk := g.hsc x
  unfold glB at h
  split at h
  · exact hk.loc ‹_› (by decide)
  · cases h
theorem GoodX.hf (g : GoodX M Φ k G N X sc) {x : Str} (h : locB sc x = true) : X.fn x = true ∨ X.env.scope.names.lookup x = some .local := by
  have hk := g.hsc x
  unfold locB at h
  split at h
  · exact .inr (hk.loc ‹_› (by decide))
  · exact .inl (g.fn x ‹_›)
  · cases h
theorem GoodX.blkOk (g : GoodX M Φ k G N X sc) {scope : Scope} {ow : List (Str × Nat)} (h : blkC N sc scope ow = true) : BlkOk X.N X.env.scope scope ow := by
  obtain ⟨h1, h2, h3, h4, h5⟩ := blkOk_by h
  rw [g.hN]
  refine ⟨h1, h2, h3, fun y hy e => ?_, h5⟩
  have hk := g.hsc y.1
  rcases h4 y hy e with q | q
  · exact .inl (hk.loc q (by decide))
  · rw [q] at hk
    rcases hk with z | ⟨_, z⟩
    · exact .inr z
    · exact .inl z
theorem GoodX.ix (g : GoodX M Φ k G N X sc) {x : Str} {i : Nat} (h : N[i]? = some x) : X.N[i]? = some x := by rw [g.hN]; exact h
theorem GoodX.units (g : GoodX M Φ k G N X sc) : X.A.units + 65 < cLine := by have := g.room.un; omega
theorem GoodX.blt (g : GoodX M Φ k G N X sc) {x : Str} {f : Expr} (h : cB G sc x f = true) : Blt X x ∧ ∃ p, f = .Name x p := by
  unfold cB at h
  rw [Bool.and_eq_true, Bool.and_eq_true] at h
  obtain ⟨⟨h1, h2⟩, h3⟩ := h
  exact ⟨⟨g.gl h2, g.free x (List.contains_iff_mem.mp h3)⟩, isName_eq h1⟩
/-- a value where a bool is asked -/
def plainT : Expr → Bool
  | .UnaryOp .Not _ _ => false
  | .BoolOp _ _ _ => false
  | .IfExp _ _ _ _ => false
  | .Compare _ _ _ _ => false
  | _ => true
theorem plain_true {e : Expr} (h : plainT e = true) {env : PySem.Env} (whole : Sem Value) : isTrue e env whole = (do let v ← whole; standAt e.pos; holding [v] (truthy v)) := by
  cases e with
  | UnaryOp op x p => cases op <;> first | rfl | cases h
  | _ => first | rfl | cases h
abbrev Ok (M : Mo) (Φ : Fns) (X : Cx) (W : WX) (t : Tm) (e : Expr) : Prop := PE X e (rdE M W (ev Φ t)) ∧ PT X e (rdT M W (evT Φ t))
theorem ok_val {t : Tm} {e : Expr} (h : PE X e (rdE M W (ev Φ t))) (p : plainT e = true) : Ok M Φ X W t e := ⟨h, sT_val h (plain_true p)⟩
theorem bind_assoc {α β γ : Type} (r : R α) (f : α → Sto → R β) (g : β → Sto → R γ) : (r.bind f).bind g = r.bind fun a S => (f a S).bind g := by cases r <;> rfl
theorem bind_congr {α β : Type} (r : R α) {f g : α → Sto → R β} (h : ∀ a S, f a S = g a S) : r.bind f = r.bind g := by
  have : f = g := by funext a S; exact h a S
  rw [this]
theorem lift_bl {o : Option Bool} {S : Sto} : ((R.lift (o.map D.bl) S).bind fun d S => R.lift (truthD d) S) = R.lift o S := by cases o <;> rfl
theorem evs_len : ∀ {ts : Tms} {δ : Env} {S S' : Sto} {ds : List D}, evs Φ ts δ S = .ok ds S' → ds.length = ts.len
  | .nil, _, _, _, _, h => by rw [evs] at h; cases h; rfl
  | .cons t ts, δ, S, S', ds, h => by
    rw [evs] at h
    cases e1 : ev Φ t δ S with
    | stuck => rw [e1] at h; cases h
    | exc x S1 => rw [e1] at h; cases h
    | ok d S1 =>
      rw [e1, R.bind_ok] at h
      cases e2 : evs Φ ts δ S1 with
      | stuck => rw [e2] at h; cases h
      | exc x S2 => rw [e2] at h; cases h
      | ok ds2 S2 =>
        rw [e2, R.bind_ok] at h
        cases h
        rw [List.length_cons, evs_len e2]; rfl
theorem evs_bind {ts : Tms} {δ : Env} {S : Sto} {α : Type} {f g : List D → Sto → R α} (h : ∀ ds S, ds.length = ts.len → f ds S = g ds S) : (evs Φ ts δ S).bind f = (evs Φ ts δ S).bind g := by
  cases e : evs Φ ts δ S with
  | ok ds S' => rw [R.bind_ok, R.bind_ok]; exact h ds S' (evs_len e)
  | exc x S' => rfl
  | stuck => rfl
theorem takes_none {X : Cx} (W : WX) (h : ∀ c d σ H, ¬ W c d σ H) : Takes X W := fun u s' ⟨a, B, sI, pins, σ, H, cls, d, e, I, nb, up, sky, na, os, ag, w⟩ => (h _ _ _ _ w).elim
theorem GoodX.blk (g : GoodX M Φ k G N X sc) (s : Shared) (H : Hp) (scope : Scope) (cl : List (Str × Addr)) (C : Addr) (fp : List Addr) : GoodX M Φ k G N (X.blk s H scope (compEnvC scope cl C X.env) fp) scope where
  K := g.K
  hN := g.hN
  nd := g.nd
  hsc := fun x => look_rel scope.names
  calm := g.calm
  room := g.room
  fn := fun x h => by show (scope.names.lookup x == some .cell) = true; rw [h]; rfl
  kit := g.kit
  con := g.con
  free := g.free
  na := g.na
  fns := fun x f n h => let d := g.fns x f n h; ⟨d.gl, d.kp, d.ok⟩
  cls := fun C f n h => let ⟨a, d, kp⟩ := g.cls C f n h; ⟨a, ⟨d.gl, d.mks, d.inn, d.ok⟩, kp⟩
  csI := g.csI
  msI := g.msI
  psI := g.psI
  eqI := g.eqI
  k2 := g.k2
  xsI := g.xsI
  xcI := g.xcI
theorem con_ok {d : D} {c : Const} {kk : Nat} {pos : Pos} (h : conOk d c = true) : PE X (.Constant c kk pos) (rdE M W fun _ S => .ok d S) := by
  unfold conOk at h
  split at h
  · exact sE_c pe_non fun _ _ => rep_non
  · rw [beq_iff_eq] at h; subst h; exact sE_c pe_bl fun _ _ => rep_bl
  · have := of_decide_eq_true h; subst this; exact sE_c pe_int fun _ _ => rep_int
  · have := of_decide_eq_true h; subst this; exact sE_c pe_str fun _ _ => rep_str
  · cases h
theorem sE_rev {a : Expr} {fa : Env → Sto → R D} {kk : Nat} {p1 p2 p3 pos : Pos} (hK : X.K = M.K) (h : PE X a (rdE M W fa)) : PE X (.Subscript a (.Slice none none (some (.UnaryOp .USub (.Constant (.int 1) kk p1) p2)) p3) pos) (rdE M W fun δ S => (fa δ S).bind fun x S => R.lift (revD S x) S) :=
  PE.weak (pe_revX h) fun σ H Q ⟨ρ, δ, S, hS, hE, hP⟩ => ⟨ρ, δ, S, hS, hE, hP.bind fun d S1 e1 ρ1 H1 x s1 hS1 r1 hP1 => by
    obtain ⟨d', e2, hP1⟩ := hP1.lift
    have lst : ((lseqD S1 d).map fun ds => D.lst ds.reverse) = some d' → ∃ a xs, x = V.ref a ∧ ((SqL X.K H1 a xs ∧ ∀ p, H1 p = none → Q (.ref p) (upd H1 p (.lst xs.reverse))) ∨ (SqT X.K H1 a xs ∧ RT.NT H1 Q xs.reverse)) := fun e2 => by
      obtain ⟨ds, e3, rfl⟩ := Option.map_eq_some_iff.mp e2
      obtain ⟨a, vs, rfl, hs, rr⟩ := lseq_read hS1 r1 e3
      refine ⟨a, vs, rfl, .inl ⟨hK ▸ hs, fun p hp => ?_⟩⟩
      obtain ⟨s2, hS2, r2⟩ := new_lst hS1 rr.reverse hp
      exact hP1.use s2 hS2 r2
    cases d with
    | tup ds =>
      cases e2
      obtain ⟨a, vs, rfl, t, rr⟩ := rep_tup_inv r1
      refine ⟨a, vs, rfl, .inr ⟨hK ▸ t.sq, fun p o hp ho => ?_⟩⟩
      obtain ⟨s2, hS2, r2⟩ := new_tupF hS1 rr.reverse hp ho
      exact hP1.use s2 hS2 r2
    | _ => exact lst e2⟩
theorem sT_ite {c a b : Expr} {pos : Pos} {gc ga gb : Env → Sto → R Bool} (hc : PT X c (rdT M W gc)) (ha : PT X a (rdT M W ga)) (hb : PT X b (rdT M W gb)) : PT X (.IfExp c a b pos) (rdT M W fun δ S => (gc δ S).bind fun t S => if t then ga δ S else gb δ S) := by
  refine ⟨fun pins s σ H Q I ⟨ρ, δ, S, hS, hE, hP⟩ => ?_⟩
  show wpAny _ _ (isTrue c X.env (eval c X.env) >>= fun t => if t = true then isTrue a X.env (eval a X.env) else isTrue b X.env (eval b X.env)) _ _ s
  refine wpAny_bind (thn (hc.run pins s σ H (fun t H1 => if t = true then rdT M W ga σ H1 Q else rdT M W gb σ H1 Q) I ⟨ρ, δ, S, hS, hE, hP.bind fun t S1 e1 ρ1 H1 x s1 hS1 r1 hP1 => ?_⟩) fun t s1 q => ?_)
  · have ex : x = t := r1
    subst ex
    cases x with
    | true => rw [if_pos rfl] at hP1 ⊢; exact ⟨ρ1, δ, S1, hS1, hE.step s1, hP1⟩
    | false => rw [if_neg Bool.false_ne_true] at hP1 ⊢; exact ⟨ρ1, δ, S1, hS1, hE.step s1, hP1⟩
  · obtain ⟨H1, I1, q1⟩ := q
    cases t with
    | true => exact ha.run pins s1 σ H1 Q I1 q1
    | false => exact hb.run pins s1 σ H1 Q I1 q1
end
end Py

set_option Elab.async false
set_option linter.all false
set_option maxRecDepth 100000
set_option maxHeartbeats 4000000
/-! Part Q: what the checker accepts is so (expressions, all together). -/
namespace Py
open PySem PySem.Spec PyProof.Rows L2
section
variable {M : Mo} {Φ : Fns} {k : Nat} {G : Tab} {N : List Str}
theorem cA_star {sc : Scope} : ∀ {ts : Tms} {es : List Expr}, cA G N sc ts es = true → ts.len = es.length ∧ ∀ (env : PySem.Env), (starEach es env).any (·.1) = false
  | .nil, es, h => by
    rw [cA.eq_def] at h; dsimp only at h
    cases es with
    | nil => exact ⟨rfl, fun _ => rfl⟩
    | cons _ _ => cases h
  | .cons t ts, es, h => by
    rw [cA.eq_def] at h; dsimp only at h
    cases es with
    | nil => cases h
    | cons e es =>
      simp only [Bool.and_eq_true] at h
      obtain ⟨h1, h2⟩ := cA_star h.2
      refine ⟨by rw [Tms.len, h1]; rfl, fun env => ?_⟩
      rw [star_ok h.1.1, List.any_cons, h2 env]; rfl
theorem any_back {pos : Pos} {l : List (Bool × Sem Value)} (h : l.any (·.1) = false) : (backTo pos l).any (·.1) = false := by
  unfold backTo
  rw [List.any_map]
  rw [← h]; congr 1
theorem back_of {sc : Scope} {ts : Tms} {e : Expr} {es : List Expr} (h : cA G N sc ts (e :: es) = true) (pos : Pos) (env : PySem.Env) : starEach (e :: es) env = (false, eval e env) :: starEach es env ∧ (backTo pos (starEach es env)).any (·.1) = false := by
  cases ts with
  | nil => rw [cA.eq_def] at h; cases h
  | cons t ts =>
    rw [cA.eq_def] at h; dsimp only at h
    simp only [Bool.and_eq_true] at h
    exact ⟨star_ok h.1.1, any_back ((cA_star h.2).2 env)⟩
theorem few_of {es : List Expr} {pos : Pos} {env : PySem.Env} (h : (starEach es env).any (·.1) = false) (hl : es.length < 29) : ((backTo pos (starEach es env)).all (fun x => !x.1) && (backToKw pos (keywordEach [] env)).all (fun x => x.1.isSome)
      && decide (es.length + ([] : List Keyword).length + (if ([] : List Keyword).isEmpty then 0 else 1) < 30)) = true := by
  have h1 := any_back (pos := pos) h
  rw [Bool.and_eq_true, Bool.and_eq_true]
  refine ⟨⟨?_, rfl⟩, ?_⟩
  · rw [List.all_eq_not_any_not]
    simp only [Bool.not_not]
    rw [h1]; rfl
  · rw [decide_eq_true_eq]; simp; omega
theorem ty_ok {X : Cx} {sc : Scope} {t : Ty} {e : Expr} (g : GoodX M Φ k G N X sc) (h : cTy G sc t e = true) : PE X e (tC (tyX M t)) ∧ t.In M := by
  unfold cTy at h
  simp only [Bool.and_eq_true] at h
  obtain ⟨⟨⟨h1, h2⟩, h3⟩, h4⟩ := h
  obtain ⟨p, rfl⟩ := isName_eq h1
  cases t with
  | cls C =>
    obtain ⟨h5, h6⟩ := g.csI C (List.contains_iff_mem.mp h4)
    exact ⟨pe_glob (g.gl h2) h6 rfl (okN1 h3), h5⟩
  | int => exact ⟨pe_bltn (g.gl h2) (g.free _ (List.contains_iff_mem.mp h4)) (show bootBuiltins "int" = some (.type "int") by decide +kernel) rfl, trivial⟩
  | bool => exact ⟨pe_bltn (g.gl h2) (g.free _ (List.contains_iff_mem.mp h4)) (show bootBuiltins "bool" = some (.type "bool") by decide +kernel) rfl, trivial⟩
  | str => exact ⟨pe_bltn (g.gl h2) (g.free _ (List.contains_iff_mem.mp h4)) (show bootBuiltins "str" = some (.type "str") by decide +kernel) rfl, trivial⟩
  | tup => exact ⟨pe_bltn (g.gl h2) (g.free _ (List.contains_iff_mem.mp h4)) (show bootBuiltins "tuple" = some (.type "tuple") by decide +kernel) rfl, trivial⟩
  | lst => exact ⟨pe_bltn (g.gl h2) (g.free _ (List.contains_iff_mem.mp h4)) (show bootBuiltins "list" = some (.type "list") by decide +kernel) rfl, trivial⟩
theorem tys_ok {X : Cx} {sc : Scope} (g : GoodX M Φ k G N X sc) : ∀ {ts : List Ty} {es : List Expr}, cTys G sc ts es = true → PA X es (fun σ H Q => Q (ts.map (tyX M)) H) ∧ ∀ t ∈ ts, t.In M
  | [], [], _ => ⟨pa_nil, fun _ h => absurd h (by simp)⟩
  | [], _ :: _, h => by cases h
  | _ :: _, [], h => by cases h
  | t :: ts, e :: es, h => by
    unfold cTys at h
    simp only [Bool.and_eq_true] at h
    obtain ⟨h1, h2⟩ := ty_ok g h.1.1
    obtain ⟨h3, h4⟩ := tys_ok g h.2
    refine ⟨PA.weak (pa_cons h1 h3 (star_ok h.1.2)) fun σ H Q q => q, fun u hu => ?_⟩
    rcases List.mem_cons.mp hu with q | q
    · rw [q]; exact h2
    · exact h4 u q
theorem tg_len {sc : Scope} : ∀ {ts : Tgs} {es : List Expr}, cGs N sc ts es = true → ∀ env : PySem.Env, (assignEach es env).length = ts.len ∧ (assignEach es env).findIdx? (·.1) = none
  | .nil, es, h => fun env => by
    rw [cGs.eq_def] at h; dsimp only at h
    cases es with
    | nil => exact ⟨rfl, rfl⟩
    | cons _ _ => cases h
  | .cons t ts, es, h => fun env => by
    rw [cGs.eq_def] at h; dsimp only at h
    cases es with
    | nil => cases h
    | cons e es =>
      simp only [Bool.and_eq_true] at h
      obtain ⟨h1, h2⟩ := tg_len h.2 env
      rw [asgn_ok h.1.1]
      refine ⟨by rw [List.length_cons, h1]; rfl, ?_⟩
      rw [List.findIdx?_cons, h2]; rfl
mutual
theorem cG_ok {X : Cx} {sc : Scope} (g : GoodX M Φ k G N X sc) : ∀ (t : Tg) {e : Expr}, cG N sc t e = true → PG X e (rdG M t)
  | .nm i, e, h => by
    rw [cG.eq_def] at h; dsimp only at h
    split at h
    · simp only [Bool.and_eq_true, decide_eq_true_eq] at h
      exact sG_name (by rw [g.hN]; exact g.nd) (g.ix h.1) (g.loc h.2) (g.hf h.2)
    · cases h
  | .tp ts, e, h => by
    rw [cG.eq_def] at h; dsimp only at h
    split at h
    · exact sG_tup g.K g.calm (cGs_ok g ts h) (tg_len h _).1 (tg_len h _).2
    · cases h
theorem cGs_ok {X : Cx} {sc : Scope} (g : GoodX M Φ k G N X sc) : ∀ (ts : Tgs) {es : List Expr}, cGs N sc ts es = true → PGs X es (rdGs M ts)
  | .nil, es, h => by
    rw [cGs.eq_def] at h; dsimp only at h
    cases es with
    | nil => exact sGs_nil
    | cons _ _ => cases h
  | .cons t ts, es, h => by
    rw [cGs.eq_def] at h; dsimp only at h
    cases es with
    | nil => cases h
    | cons e es =>
      simp only [Bool.and_eq_true] at h
      exact sGs_cons (cG_ok g t h.1.2) (cGs_ok g ts h.2) (by rw [asgn_ok h.1.1]; rfl)
end
theorem evT_not {a : Tm} (δ : Env) (S : Sto) : ((evT Φ a δ S).bind fun x S => R.ok (!x) S) = evT Φ (.not a) δ S := by
  unfold evT
  rw [ev]
  cases ev Φ a δ S with
  | ok d S => rw [R.bind_ok, R.bind_ok]; cases truthD d <;> rfl
  | _ => rfl
theorem evT_cmp {op : Cm} {a b : Tm} (δ : Env) (S : Sto) : ((ev Φ a δ S).bind fun x S => (ev Φ b δ S).bind fun y S => R.lift (cmpD S op x y) S) = evT Φ (.cmp op a b) δ S := by
  unfold evT
  rw [ev, bind_assoc]
  refine bind_congr _ fun x S => ?_
  rw [bind_assoc]
  exact bind_congr _ fun y S => lift_bl.symm
theorem evT_cha {op op' : Cm} {a b c : Tm} (δ : Env) (S : Sto) : ((ev Φ a δ S).bind fun x S => (ev Φ b δ S).bind fun y S => (R.lift (cmpD S op x y) S).bind fun t S => if t then (ev Φ c δ S).bind fun z S => R.lift ((cmpD S op' y z).map D.bl) S else .ok (.bl false) S).bind (fun d S => R.lift (truthD d) S)
    = evT Φ (.cha op op' a b c) δ S := by
  unfold evT
  rw [ev]
theorem evT_and {a b : Tm} (δ : Env) (S : Sto) : ((evT Φ a δ S).bind fun t S => if t then evT Φ b δ S else .ok false S) = evT Φ (.and a b) δ S := by
  unfold evT
  rw [ev, bind_assoc, bind_assoc]
  refine bind_congr _ fun x S => ?_
  rw [bind_assoc]
  refine bind_congr _ fun t S => ?_
  cases t with
  | true => rw [if_pos rfl, if_pos rfl, bind_assoc]; exact bind_congr _ fun y S => lift_bl.symm
  | false => rw [if_neg Bool.false_ne_true, if_neg Bool.false_ne_true]; rfl
theorem evT_or {a b : Tm} (δ : Env) (S : Sto) : ((evT Φ a δ S).bind fun t S => if t then .ok true S else evT Φ b δ S) = evT Φ (.or a b) δ S := by
  unfold evT
  rw [ev, bind_assoc, bind_assoc]
  refine bind_congr _ fun x S => ?_
  rw [bind_assoc]
  refine bind_congr _ fun t S => ?_
  cases t with
  | false => rw [if_neg Bool.false_ne_true, if_neg Bool.false_ne_true, bind_assoc]; exact bind_congr _ fun y S => lift_bl.symm
  | true => rw [if_pos rfl, if_pos rfl]; rfl
theorem evT_ite {c a b : Tm} (δ : Env) (S : Sto) : ((evT Φ c δ S).bind fun t S => if t then evT Φ a δ S else evT Φ b δ S) = evT Φ (.ite c a b) δ S := by
  unfold evT
  rw [ev, bind_assoc, bind_assoc]
  refine bind_congr _ fun x S => ?_
  rw [bind_assoc]
  refine bind_congr _ fun t S => ?_
  cases t <;> rfl
theorem ev_ite {c a b : Tm} (δ : Env) (S : Sto) : ((evT Φ c δ S).bind fun t S => if t then ev Φ a δ S else ev Φ b δ S) = ev Φ (.ite c a b) δ S := by
  unfold evT
  rw [ev, bind_assoc]
end
end Py

set_option Elab.async false
set_option linter.all false
set_option maxRecDepth 100000
set_option maxHeartbeats 4000000
/-! Part R: what the checker accepts is so: every expression. -/
namespace Py
open PySem PySem.Spec PyProof.Rows L2
section
variable {M : Mo} {Φ : Fns} {k : Nat} {G : Tab} {N : List Str}
theorem so_ext {X : Cx} {W : WX} {o : Option Expr} {f g : Env → Sto → R D} (h : PO X o (rdO M W f)) (e : ∀ δ S, f δ S = g δ S) : PO X o (rdO M W g) := by
  have : f = g := by funext δ S; exact e δ S
  rw [← this]; exact h
theorem PA.ext {X : Cx} {W : WX} {es : List Expr} {f g : Env → Sto → R (List D)} (h : PA X es (rdA M W f)) (q : ∀ δ S, f δ S = g δ S) : PA X es (rdA M W g) := by
  have : f = g := by funext δ S; exact q δ S
  rw [← this]; exact h
theorem PTs.ext {X : Cx} {W : WX} {es : List Expr} {f g : Env → Sto → R Bool} (h : PTs X es (rdT M W f)) (q : ∀ δ S, f δ S = g δ S) : PTs X es (rdT M W g) := by
  have : f = g := by funext δ S; exact q δ S
  rw [← this]; exact h
abbrev pd : Pos := ⟨0, 0, 0, 0⟩
/-- a bound that is written -/
def bdF (Φ : Fns) (t : Tm) : Env → Sto → R D := fun δ S => if isNon t then R.ok .non S else (ev Φ t δ S).bind fun d S => intR d S
theorem bdF_id {t : Tm} {δ : Env} {S : Sto} : ((bdF Φ t δ S).bind fun d S => match boundD d with | some _ => R.ok d S | none => R.stuck) = (if isNon t then R.ok .non S else (ev Φ t δ S).bind fun d S => intR d S) := by
  unfold bdF
  by_cases hn : isNon t = true
  · rw [if_pos hn]; rfl
  · rw [if_neg hn]
    cases ev Φ t δ S with
    | ok d S => cases d <;> rfl
    | exc x S => rfl
    | stuck => rfl
theorem bd_ok {X : Cx} {W : WX} {t : Tm} (o : Option Expr) (h1 : ∀ y, o = some y → PE X y (rdE M W (ev Φ t)) ∧ isNon t = false) (h2 : o = none → isNon t = true) : PO X o (rdO M W (bdF Φ t)) := by
  cases o with
  | none => exact so_ext sO_none fun δ S => by unfold bdF; rw [if_pos (h2 rfl)]
  | some y =>
    obtain ⟨h3, h4⟩ := h1 y rfl
    refine so_ext (sO_some h3) fun δ S => ?_
    unfold bdF
    rw [h4, if_neg Bool.false_ne_true]
    rfl
theorem ow_snd (vs : List Nat) : (owOf N vs).map (·.2) = vs := by
  unfold owOf
  rw [List.map_map]
  induction vs with
  | nil => rfl
  | cons v vs ih => rw [List.map_cons, ih]; rfl
theorem PI.ext {X : Cx} {W : WX} {tg e : Expr} {f g : Env → Sto → R Wk} (h : PI X tg e (rdI M W f)) (q : ∀ δ S, f δ S = g δ S) : PI X tg e (rdI M W g) := by
  have : f = g := by funext δ S; exact q δ S
  rw [← this]; exact h
theorem back_of2 {sc : Scope} {ts : Tms} {e e2 : Expr} {es : List Expr} (h : cA G N sc ts (e :: e2 :: es) = true) (env : PySem.Env) : starEach (e2 :: es) env = (false, eval e2 env) :: starEach es env := by
  cases ts with
  | nil => rw [cA.eq_def] at h; cases h
  | cons t ts =>
    rw [cA.eq_def] at h; dsimp only at h
    simp only [Bool.and_eq_true] at h
    exact (back_of h.2 pd env).1
theorem pw_of {X : Cx} {op : PySem.BoolOp} {vs : List Expr} {p : Pos} {t : TT} (h : PT X (.BoolOp op vs p) t) : PW X (.BoolOp op vs p) t := ⟨fun wh pins s σ H Q I q => h.run pins s σ H Q I q⟩
theorem plain_ixT {e : Expr} (h : notSlice e = true) : PlainIxT e := fun o i => by
  cases e <;> first | rfl | cases h
theorem strT_ok {t : Tm} (h : isStrT t = true) (δ : Env) (S : Sto) (d : D) (S' : Sto) (e : ev Φ t δ S = .ok d S') : isStrD d = true := by
  unfold isStrT at h
  split at h
  · rw [ev] at e; cases e; rfl
  · cases h
theorem FsOk.ext {X : Cx} {W : WX} {es : List Expr} {f g : Str → Env → Sto → R D} (h : FsOk M X W es f) (e : ∀ acc δ S, f acc δ S = g acc δ S) : FsOk M X W es g := by
  have : f = g := by funext acc δ S; exact e acc δ S
  rw [← this]; exact h
mutual
theorem cE_ok : ∀ (t : Tm) {X : Cx} {W : WX} {sc : Scope} {e : Expr}, GoodX M Φ k G N X sc → Takes X W → cE G N sc t e = true → Ok M Φ X W t e
  | .var i, X, W, sc, e, g, tk, h => by
    rw [cE.eq_def] at h; dsimp only at h
    split at h
    · simp only [Bool.and_eq_true, decide_eq_true_eq] at h
      exact ok_val (by
        refine PE.ext (sE_var (g.ix h.1.1) (g.vis h.1.2) (okN1 h.2) (okN2 h.2)) fun δ S => ?_
        rw [ev.eq_def]; try rfl) rfl
    · cases h
  | .con d, X, W, sc, e, g, tk, h => by
    rw [cE.eq_def] at h; dsimp only at h
    split at h
    · exact ok_val (PE.ext (con_ok h) fun δ S => by rw [ev]) rfl
    · cases h
  | .gco x d, X, W, sc, e, g, tk, h => by
    rw [cE.eq_def] at h; dsimp only at h
    simp only [Bool.and_eq_true] at h
    obtain ⟨⟨⟨h1, h2⟩, h3⟩, h4⟩ := h
    obtain ⟨p, rfl⟩ := isName_eq h1
    split at h4
    · rename_i d' hd
      have := same_eq d' d h4
      subst this
      obtain ⟨v, u, hu, rv, rr⟩ := g.con _ _ hd
      exact ok_val (PE.ext (sE_c (pe_glob (g.gl h2) hu rv (okN1 h3)) rr) fun δ S => by rw [ev]) rfl
    · cases h4
  | .tup es, X, W, sc, e, g, tk, h => by
    rw [cE.eq_def] at h; dsimp only at h
    split at h
    · exact ok_val (PE.ext (sE_tup (cA_ok es g tk h)) fun δ S => by rw [ev]) rfl
    · cases h
  | .lst own es, X, W, sc, e, g, tk, h => by
    rw [cE.eq_def] at h; dsimp only at h
    split at h
    · exact ok_val (PE.ext (sE_lst (own := own) (cA_ok es g tk h)) fun δ S => by rw [ev]) rfl
    · cases h
  | .bin op a b, X, W, sc, e, g, tk, h => by
    rw [cE.eq_def] at h; dsimp only at h
    split at h
    · simp only [Bool.and_eq_true, decide_eq_true_eq] at h
      obtain ⟨⟨⟨rfl, h1⟩, h2⟩, h3⟩ := h
      exact ok_val (PE.ext (sE_op (opD g.K h1) (fun _ _ _ _ q => q) (cE_ok a g tk h2).1 (cE_ok b g tk h3).1) fun δ S => by rw [ev]) rfl
    · cases h
  | .neg a, X, W, sc, e, g, tk, h => by
    rw [cE.eq_def] at h; dsimp only at h
    split at h
    · exact ok_val (PE.ext (sE_neg (cE_ok a g tk h).1) fun δ S => by rw [ev]) rfl
    · cases h
  | .not a, X, W, sc, e, g, tk, h => by
    rw [cE.eq_def] at h; dsimp only at h
    split at h
    · have ih := cE_ok a g tk h
      exact ⟨PE.ext (sE_not ih.1) fun δ S => by rw [ev], PT.ext (sT_not ih.2) evT_not⟩
    · cases h
  | .cmp op a b, X, W, sc, e, g, tk, h => by
    rw [cE.eq_def] at h; dsimp only at h
    split at h
    · simp only [Bool.and_eq_true, decide_eq_true_eq, Bool.not_eq_true'] at h
      obtain ⟨⟨⟨rfl, h2⟩, h3⟩, h4⟩ := h
      have o := cmD (M := M) (op := op) g.K g.units
      exact ⟨PE.ext (sE_cmp (r := r2D M (cmR op)) o (cE_ok a g tk h3).1 (cE_ok b g tk h4).1 h2) fun δ S => by rw [ev]; rfl, PT.ext (sT_cmp o (cE_ok a g tk h3).1 (cE_ok b g tk h4).1 h2) evT_cmp⟩
    · cases h
  | .cha op op' a b c, X, W, sc, e, g, tk, h => by
    rw [cE.eq_def] at h; dsimp only at h
    split at h
    · simp only [Bool.and_eq_true, decide_eq_true_eq, Bool.not_eq_true'] at h
      obtain ⟨⟨⟨⟨⟨rfl, rfl⟩, h3⟩, h4⟩, h5⟩, h6⟩ := h
      have o := cmD (M := M) (op := op) g.K g.units
      have o' := cmD (M := M) (op := op') g.K g.units
      exact ⟨PE.ext (sE_cha o o' (cE_ok a g tk h4).1 (cE_ok b g tk h5).1 (cE_ok c g tk h6).1 h3) fun δ S => by rw [ev], PT.ext (sT_cha o o' (cE_ok a g tk h4).1 (cE_ok b g tk h5).1 (cE_ok c g tk h6).1 h3) evT_cha⟩
    · cases h
  | .and a b, X, W, sc, e, g, tk, h => by
    rw [cE.eq_def] at h; dsimp only at h
    split at h
    · simp only [Bool.and_eq_true] at h
      have ha := cE_ok a g tk h.1
      have hb := cE_ok b g tk h.2
      exact ⟨PE.ext (sE_and ha.1 (sE_and1 hb.1)) fun δ S => by rw [ev], PT.ext (sW_and ha.2 (sW_and1 hb.2)).pt evT_and⟩
    · simp only [Bool.and_eq_true] at h
      have ha := cE_ok a g tk h.1
      have hb := cE_ok b g tk h.2
      exact ⟨PE.ext (sE_and ha.1 hb.1) fun δ S => by rw [ev], PT.ext (sW_and ha.2 (pw_of hb.2)).pt evT_and⟩
    · cases h
  | .or a b, X, W, sc, e, g, tk, h => by
    rw [cE.eq_def] at h; dsimp only at h
    split at h
    · simp only [Bool.and_eq_true] at h
      have ha := cE_ok a g tk h.1
      have hb := cE_ok b g tk h.2
      exact ⟨PE.ext (sE_or ha.1 (sE_and1 hb.1)) fun δ S => by rw [ev], PT.ext (sW_or ha.2 (sW_or1 hb.2)).pt evT_or⟩
    · simp only [Bool.and_eq_true] at h
      have ha := cE_ok a g tk h.1
      have hb := cE_ok b g tk h.2
      exact ⟨PE.ext (sE_or ha.1 hb.1) fun δ S => by rw [ev], PT.ext (sW_or ha.2 (pw_of hb.2)).pt evT_or⟩
    · cases h
  | .ite c a b, X, W, sc, e, g, tk, h => by
    rw [cE.eq_def] at h; dsimp only at h
    split at h
    · simp only [Bool.and_eq_true] at h
      have hc := cE_ok c g tk h.1.1
      have ha := cE_ok a g tk h.1.2
      have hb := cE_ok b g tk h.2
      exact ⟨PE.ext (sE_ite hc.2 ha.1 hb.1) ev_ite, PT.ext (sT_ite hc.2 ha.2 hb.2) evT_ite⟩
    · cases h
  | .ix a i, X, W, sc, e, g, tk, h => by
    rw [cE.eq_def] at h; dsimp only at h
    split at h
    · simp only [Bool.and_eq_true] at h
      exact ok_val (PE.ext (sE_ix g.K (cE_ok a g tk h.1.2).1 (cE_ok i g tk h.2).1 (plain_ix h.1.1)) fun δ S => by rw [ev]) rfl
    · cases h
  | .sl a lo hi, X, W, sc, e, g, tk, h => by
    rw [cE.eq_def] at h; dsimp only at h
    split at h
    · simp only [Bool.and_eq_true] at h
      obtain ⟨⟨h1, h2⟩, h3⟩ := h
      rename_i x l h' p1 p2
      have ha := (cE_ok a g tk h1).1
      have il := cE_ok lo (X := X) (W := W) (sc := sc) (e := (l.getD (.Name "" pd))) g tk
      have ih := cE_ok hi (X := X) (W := W) (sc := sc) (e := (h'.getD (.Name "" pd))) g tk
      refine ok_val (PE.ext (sE_sl g.K ha (bd_ok (Φ := Φ) (t := lo) l (fun y hy => ?_) (fun hn => ?_)) (bd_ok (Φ := Φ) (t := hi) h' (fun y hy => ?_) (fun hn => ?_))) fun δ S => ?_) rfl
      · subst hy
        have h2 : (!isNon lo && cE G N sc lo y) = true := h2
        rw [Bool.and_eq_true, Bool.not_eq_true'] at h2
        exact ⟨(il h2.2).1, h2.1⟩
      · subst hn; exact h2
      · subst hy
        have h3 : (!isNon hi && cE G N sc hi y) = true := h3
        rw [Bool.and_eq_true, Bool.not_eq_true'] at h3
        exact ⟨(ih h3.2).1, h3.1⟩
      · subst hn; exact h3
      · rw [ev]
        refine bind_congr _ fun x S => ?_
        refine Eq.trans (congrArg (fun r => R.bind r _) (bdF_id (Φ := Φ) (t := lo))) ?_
        refine bind_congr _ fun l S => ?_
        exact congrArg (fun r => R.bind r _) (bdF_id (Φ := Φ) (t := hi))
    · cases h
  | .rev a, X, W, sc, e, g, tk, h => by
    rw [cE.eq_def] at h; dsimp only at h
    split at h
    · exact ok_val (PE.ext (sE_rev g.K (cE_ok a g tk h).1) fun δ S => by rw [ev]) rfl
    · cases h
  | .call f es, X, W, sc, e, g, tk, h => by
    rw [cE.eq_def] at h; dsimp only at h
    split at h
    · simp only [Bool.and_eq_true, decide_eq_true_eq] at h
      obtain ⟨⟨⟨h1, h2⟩, h3⟩, h4⟩ := h
      obtain ⟨b1, b2⟩ := back_of h4 _ X.env
      exact ok_val (PE.ext (sE_call (g.fns _ _ _ h3) (g.room.mono (Nat.le_succ _)) (g.gl h1) tk (cA_ok es g tk h4) (okN1 h2) b1 b2) fun δ S => by
        rw [ev]
        exact evs_bind fun ds S hl => by rw [if_pos hl]) rfl
    · cases h
  | .new C f frz es, X, W, sc, e, g, tk, h => by
    rw [cE.eq_def] at h; dsimp only at h
    split at h
    · simp only [Bool.and_eq_true, decide_eq_true_eq] at h
      obtain ⟨⟨⟨⟨rfl, h1⟩, h2⟩, h3⟩, h4⟩ := h
      obtain ⟨b1, b2⟩ := back_of h4 _ X.env
      obtain ⟨a, hT, kp⟩ := g.cls _ _ _ h3
      exact ok_val (PE.ext (sE_new (frz := frz) hT g.room (g.gl h1) tk kp (cA_ok es g tk h4) (okN1 h2) b1 b2) fun δ S => by
        rw [ev]
        exact evs_bind fun ds S hl => by rw [if_pos (by rw [hl])]; rfl) rfl
    · cases h
  | .meth C m f o es, X, W, sc, e, g, tk, h => by
    rw [cE.eq_def] at h; dsimp only at h
    split at h
    · simp only [Bool.and_eq_true, decide_eq_true_eq] at h
      obtain ⟨⟨⟨⟨⟨⟨rfl, h1⟩, h2⟩, h3⟩, h4⟩, h5⟩, h6⟩ := h
      obtain ⟨hc, hm, F⟩ := g.msI _ _ _ _ h4
      refine ok_val (PE.ext (sE_meth (C := C) g.K g.kit hc (by rw [g.K]; exact hm) F (g.room.mono (Nat.le_succ _)) tk (cE_ok o g tk h5).1 (cA_ok es g tk h6) (call_base h1) (few_of ((cA_star h6).2 X.env) h3) h2 (fun e0 => ?_) (fun y ys e0 => ?_)) fun δ S => ?_) rfl
      · subst e0
        have : es = .nil := by
          cases es with
          | nil => rfl
          | cons t ts => rw [cA.eq_def] at h6; cases h6
        subst this
        intro σ H Q ⟨ρ, δ, S, hS, hE, hP⟩
        rw [evs] at hP
        exact hP _ _ _ Step.refl hS (by rw [Reps])
      · subst e0
        exact back_of h6 _ X.env
      · rw [ev]
        unfold methG
        refine bind_congr _ fun d S => ?_
        cases insN S C d with
        | none => rfl
        | some ns =>
          dsimp only
          split
          · rfl
          · exact evs_bind fun ds S hl => by rw [if_pos (by rw [hl])]
    · cases h
  | .fld C x o, X, W, sc, e, g, tk, h => by
    rw [cE.eq_def] at h; dsimp only at h
    split at h
    · simp only [Bool.and_eq_true, decide_eq_true_eq] at h
      obtain ⟨⟨⟨rfl, h1⟩, h2⟩, h3⟩ := h
      exact ok_val (PE.ext (sE_fld g.K g.kit (g.na _ (List.contains_iff_mem.mp h2)) (cE_ok o g tk h3).1 (call_base h1)) fun δ S => by rw [ev]) rfl
    · cases h
  | .prop C f o, X, W, sc, e, g, tk, h => by
    rw [cE.eq_def] at h; dsimp only at h
    split at h
    · simp only [Bool.and_eq_true, decide_eq_true_eq] at h
      obtain ⟨⟨h1, h2⟩, h3⟩ := h
      obtain ⟨hc, ⟨p', hp⟩, F⟩ := g.psI _ _ _ h2
      exact ok_val (PE.ext (sE_prop (C := C) g.K g.kit (by rw [g.K]; exact hp) F g.room (cE_ok o g tk h3).1 (call_base h1) hc) fun δ S => by rw [ev]) rfl
    · cases h
  | .oeq C f a b, X, W, sc, e, g, tk, h => by
    rw [cE.eq_def] at h; dsimp only at h
    split at h
    · simp only [Bool.and_eq_true, decide_eq_true_eq, Bool.not_eq_true'] at h
      obtain ⟨⟨⟨⟨h1, h2⟩, h3⟩, h4⟩, h5⟩ := h
      obtain ⟨hc, hm, F⟩ := g.msI _ _ _ _ h2
      rename_i x y pos
      have q := sE_oeq (W := W) (C := C) (pos := pos) g.K g.kit (by rw [g.K]; exact hm) F (g.room.mono (Nat.le_succ _)) (g.eqI C (List.contains_iff_mem.mp h3)) (cE_ok a g tk h4).1 (cE_ok b g tk h5).1 h1
      exact ⟨PE.ext q.1 fun δ S => by rw [ev]; rfl, PT.ext q.2 fun δ S => by unfold tst evT; rw [ev]; rfl⟩
    · cases h
  | .olen C f a, X, W, sc, e, g, tk, h => by
    rw [cE.eq_def] at h; dsimp only at h
    split at h
    · simp only [Bool.and_eq_true, decide_eq_true_eq] at h
      obtain ⟨⟨⟨h1, h2⟩, h3⟩, h4⟩ := h
      obtain ⟨hb, p, rfl⟩ := g.blt h1
      obtain ⟨hc, hm, F⟩ := g.msI _ _ _ _ h3
      exact ok_val (PE.ext (sE_olen (C := C) hb (by rw [g.K]; exact hm) F g.room (cE_ok a g tk h4).1 (star_ok h2)) fun δ S => by rw [ev]) rfl
    · cases h
  | .fnv x f, X, W, sc, e, g, tk, h => by
    rw [cE.eq_def] at h; dsimp only at h
    simp only [Bool.and_eq_true] at h
    obtain ⟨⟨⟨h1, h2⟩, h3⟩, h4⟩ := h
    obtain ⟨p, rfl⟩ := isName_eq h1
    split at h4
    · rename_i f' n hf
      have e := of_decide_eq_true h4
      subst e
      exact ok_val (PE.ext (sE_fnv (g.gl h2) (g.fns _ _ _ hf).gl (okN1 h3)) fun δ S => by rw [ev]) rfl
    · cases h4
  | .isi ts a, X, W, sc, e, g, tk, h => by
    rw [cE.eq_def] at h; dsimp only at h
    split at h
    · simp only [Bool.and_eq_true, decide_eq_true_eq] at h
      obtain ⟨⟨⟨⟨h1, h2⟩, h3⟩, h4⟩, h5⟩ := h
      obtain ⟨hb, p, rfl⟩ := g.blt h1
      obtain ⟨h6, h7⟩ := tys_ok g h3
      exact ok_val (PE.ext (sE_isiT g.K g.kit hb (cE_ok a g tk h5).1 h6 h7 h4 (star_ok h2) (star_ok rfl) rfl) fun δ S => by rw [ev]) rfl
    · simp only [Bool.and_eq_true] at h
      obtain ⟨⟨⟨⟨h1, h2⟩, h3⟩, h4⟩, h5⟩ := h
      obtain ⟨hb, p, rfl⟩ := g.blt h1
      rcases ts with _ | ⟨t, _ | ⟨t2, ts⟩⟩
      · cases h4
      · unfold cTys at h4
        simp only [Bool.and_eq_true] at h4
        obtain ⟨h6, h7⟩ := ty_ok g h4.1.1
        exact ok_val (PE.ext (sE_isi g.K g.kit hb (cE_ok a g tk h5).1 h6 h7 (star_ok h2) (star_ok h3) (by rw [star_ok h3]; rfl)) fun δ S => by rw [ev]) rfl
      · unfold cTys at h4
        simp only [Bool.and_eq_true] at h4
        exact absurd h4.2 (by unfold cTys; exact Bool.false_ne_true)
    · cases h
  | .bi b es, X, W, sc, e, g, tk, h => by
    rw [cE.eq_def] at h; dsimp only at h
    split at h
    · simp only [Bool.and_eq_true] at h
      obtain ⟨hb, p, rfl⟩ := g.blt h.1
      obtain ⟨b1, b2⟩ := back_of h.2 _ X.env
      exact ok_val (PE.ext (sE_bi g.K g.calm g.units hb (cA_ok es g tk h.2) b1 b2) fun δ S => by rw [ev]) rfl
    · cases h
  | .lof own a, X, W, sc, e, g, tk, h => by
    rw [cE.eq_def] at h; dsimp only at h
    split at h
    · simp only [Bool.and_eq_true] at h
      obtain ⟨hb, p, rfl⟩ := g.blt h.1.1
      exact ok_val (PE.ext (sE_lof (own := own) g.K hb (cE_ok a g tk h.2).1 (star_ok h.1.2) rfl) fun δ S => by rw [ev]) rfl
    · cases h
  | .lrg1 own a, X, W, sc, e, g, tk, h => by
    rw [cE.eq_def] at h; dsimp only at h
    split at h
    · simp only [Bool.and_eq_true, decide_eq_true_eq] at h
      obtain ⟨⟨⟨h1, h2⟩, h3⟩, h4⟩ := h
      obtain ⟨hb, p, rfl⟩ := g.blt h1
      obtain ⟨hb2, p2, rfl⟩ := g.blt h2
      exact ok_val (PE.ext (sE_lrg1 (own := own) g.calm hb hb2 (cE_ok a g tk h4).1 (star_ok h3) (star_ok rfl)) fun δ S => by rw [ev]) rfl
    · cases h
  | .lrg2 own a b, X, W, sc, e, g, tk, h => by
    rw [cE.eq_def] at h; dsimp only at h
    split at h
    · simp only [Bool.and_eq_true, decide_eq_true_eq] at h
      obtain ⟨⟨⟨⟨⟨h1, h2⟩, h3⟩, h4⟩, h5⟩, h6⟩ := h
      obtain ⟨hb, p, rfl⟩ := g.blt h1
      obtain ⟨hb2, p2, rfl⟩ := g.blt h2
      exact ok_val (PE.ext (sE_lrg2 (own := own) g.calm hb hb2 (cE_ok a g tk h5).1 (cE_ok b g tk h6).1 (star_ok h3) (star_ok h4) (by rw [star_ok h4]; rfl) (star_ok rfl)) fun δ S => by rw [ev]) rfl
    · cases h
  | .tzip a b, X, W, sc, e, g, tk, h => by
    rw [cE.eq_def] at h; dsimp only at h
    split at h
    · simp only [Bool.and_eq_true] at h
      obtain ⟨⟨⟨⟨⟨h1, h2⟩, h3⟩, h4⟩, h5⟩, h6⟩ := h
      obtain ⟨hb, p, rfl⟩ := g.blt h1
      obtain ⟨hb2, p2, rfl⟩ := g.blt h2
      exact ok_val (PE.ext (sE_tzip g.K g.calm hb hb2 (cE_ok a g tk h5).1 (cE_ok b g tk h6).1 (star_ok h3) (star_ok h4) (by rw [star_ok h4]; rfl)) fun δ S => by rw [ev]) rfl
    · cases h
  | .bm b o es, X, W, sc, e, g, tk, h => by
    rw [cE.eq_def] at h; dsimp only at h
    split at h
    · simp only [Bool.and_eq_true, decide_eq_true_eq] at h
      obtain ⟨⟨⟨⟨⟨rfl, h1⟩, h2⟩, h3⟩, h4⟩, h5⟩ := h
      rename_i y ap xs p
      have ho := (cE_ok o g tk h3).1
      have ha := cA_ok es g tk h4
      have many : (b = .append ∨ b = .insert ∨ b = .index) → 1 ≤ xs.length ∧ xs.length ≤ 2 → Ok M Φ X W (.bm b o es) (.Call (.Attribute y (bmN b) ap) xs [] p) := fun hb hl => by
        rcases xs with _ | ⟨x, xs⟩
        · simp at hl
        · obtain ⟨b1, b2⟩ := back_of h4 p X.env
          exact ok_val (PE.ext (sE_bm g.K hb ho ha (call_base h1) (few_of ((cA_star h4).2 X.env) (by omega)) h2 b1 b2) fun δ S => by rw [ev]; rfl) rfl
      cases b <;> try (cases h5; done)
      · exact many (.inl rfl) (by have := of_decide_eq_true h5; omega)
      · exact many (.inr (.inl rfl)) (by have := of_decide_eq_true h5; omega)
      · exact many (.inr (.inr rfl)) (by have := of_decide_eq_true h5; omega)
      · have hl := of_decide_eq_true h5
        have : xs = [] := List.length_eq_zero_iff.mp hl
        subst this
        have : es = .nil := by
          have := (cA_star h4).1
          cases es with
          | nil => rfl
          | cons _ _ => cases this
        subst this
        exact ok_val (PE.ext (sE_bm0 g.K ho (call_base h1) h2) fun δ S => by rw [ev]; rfl) rfl
    · cases h
  | .comp own vs t w c a, X, W, sc, e, g, tk, h => by
    rw [cE.eq_def] at h; dsimp only at h
    split at h
    · simp only [Bool.and_eq_true] at h
      obtain ⟨⟨⟨⟨⟨⟨h1, h2⟩, h3⟩, h4⟩, h5⟩, h6⟩, h7⟩ := h
      have tk0 : ∀ (s : Shared) (H : Hp) (C : Addr) (cl : List (Str × Addr)) (fp : List Addr) (scope : Scope), Takes (X.blk s H scope (compEnvC scope cl C X.env) fp) W0 := fun _ _ _ _ _ _ => takes_none W0 fun _ _ _ _ h => h
      refine ok_val (PE.ext (sE_lc (own := own) (ow := owOf N vs) g.calm (by rw [g.hN]; exact g.nd) (cI_ok w g tk h4) (g.blkOk h1) (fun i hi => ?_) (fun s H C cl fp => cG_ok (g.blk s H _ cl C fp) t h5) (fun s H C cl fp => cC_ok c (g.blk s H _ cl C fp) (tk0 s H C cl fp _) h6)
        (fun s H C cl fp => (cE_ok a (g.blk s H _ cl C fp) (tk0 s H C cl fp _) h7).1) (fun x => set_ok h3)) fun δ S => ?_) rfl
      · rw [ow_snd]; exact List.contains_iff_mem.mp (List.all_eq_true.mp h2 i hi)
      · rw [ev, ow_snd]; rfl
    · cases h
  | .comp2 own vs t w vs1 t1 w1 c1 a, X, W, sc, e, g, tk, h => by
    rw [cE.eq_def] at h; dsimp only at h
    split at h
    · simp only [Bool.and_eq_true] at h
      obtain ⟨⟨⟨⟨⟨⟨⟨⟨⟨⟨⟨h1, h2⟩, h3⟩, h4⟩, h5⟩, h6⟩, h7⟩, h8⟩, h9⟩, h10⟩, h11⟩, h12⟩ := h
      have tk0 : ∀ (s : Shared) (H : Hp) (C : Addr) (cl : List (Str × Addr)) (fp : List Addr) (scope : Scope), Takes (X.blk s H scope (compEnvC scope cl C X.env) fp) W0 := fun _ _ _ _ _ _ => takes_none W0 fun _ _ _ _ h => h
      refine ok_val (PE.ext (sE_lc2 (own := own) (ow := owOf N vs) (vs1 := vs1) g.calm (by rw [g.hN]; exact g.nd) (cI_ok w g tk h7) (g.blkOk h1) (fun i hi => ?_) (fun i hi => ?_) (fun i hi => List.contains_iff_mem.mp (List.all_eq_true.mp h4 i hi)) (fun s H C cl fp => cG_ok (g.blk s H _ cl C fp) t h8)
        (fun s H C cl fp => cI_ok w1 (g.blk s H _ cl C fp) (tk0 s H C cl fp _) h9) (fun s H C cl fp => cG_ok (g.blk s H _ cl C fp) t1 h10) (fun s H C cl fp => cC_ok c1 (g.blk s H _ cl C fp) (tk0 s H C cl fp _) h11)
        (fun s H C cl fp => (cE_ok a (g.blk s H _ cl C fp) (tk0 s H C cl fp _) h12).1) (fun x => set_ok h5) (fun env x => set_ok h6)) fun δ S => ?_) rfl
      · rw [ow_snd]; exact List.contains_iff_mem.mp (List.all_eq_true.mp h2 i hi)
      · rw [ow_snd]; exact List.contains_iff_mem.mp (List.all_eq_true.mp h3 i hi)
      · rw [ev, ow_snd]; rfl
    · cases h
  | .dict, X, W, sc, e, g, tk, h => by
    rw [cE.eq_def] at h; dsimp only at h
    split at h
    · exact ok_val (PE.ext sE_dict fun δ S => by rw [ev]) rfl
    · cases h
  | .dget o es, X, W, sc, e, g, tk, h => by
    rw [cE.eq_def] at h; dsimp only at h
    split at h
    · simp only [Bool.and_eq_true] at h
      exact ok_val (PE.ext (sE_dget g.units (cE_ok o g tk h.1).1 (cA_ok es g tk h.2)) fun δ S => by rw [ev]) rfl
    · cases h
  | .din neg es o, X, W, sc, e, g, tk, h => by
    rw [cE.eq_def] at h; dsimp only at h
    split at h
    · simp only [Bool.and_eq_true, decide_eq_true_eq, Bool.not_eq_true'] at h
      obtain ⟨⟨⟨rfl, h2⟩, h3⟩, h4⟩ := h
      exact ⟨PE.ext (sE_din (neg := neg) g.units (cA_ok es g tk h3) (cE_ok o g tk h4).1 h2) fun δ S => by rw [ev]; rfl, PT.ext (sT_din (neg := neg) g.units (cA_ok es g tk h3) (cE_ok o g tk h4).1 h2) fun δ S => by unfold tst evT; rw [ev]; rfl⟩
    · cases h
  | .fstr es, X, W, sc, e, g, tk, h => by
    rw [cE.eq_def] at h; dsimp only at h
    split at h
    · exact ok_val (PE.ext (sE_fstr (cF_ok es g tk h)) fun δ S => by rw [ev]) rfl
    · cases h
  | .tjn o a, X, W, sc, e, g, tk, h => by
    rw [cE.eq_def] at h; dsimp only at h
    split at h
    · simp only [Bool.and_eq_true, decide_eq_true_eq] at h
      obtain ⟨⟨⟨⟨⟨rfl, h1⟩, h2⟩, h3⟩, h4⟩, h5⟩ := h
      exact ok_val (PE.ext (sE_join g.K (cE_ok o g tk h4).1 (cE_ok a g tk h5).1 (star_ok h3) (call_base h1) h2) fun δ S => by rw [ev]) rfl
    · cases h
  | .tsp o a, X, W, sc, e, g, tk, h => by
    rw [cE.eq_def] at h; dsimp only at h
    split at h
    · simp only [Bool.and_eq_true, decide_eq_true_eq] at h
      obtain ⟨⟨⟨⟨⟨rfl, h1⟩, h2⟩, h3⟩, h4⟩, h5⟩ := h
      exact ok_val (PE.ext (sE_split (cE_ok o g tk h4).1 (cE_ok a g tk h5).1 (star_ok h3) (call_base h1) h2) fun δ S => by rw [ev]) rfl
    · cases h
  | .sti a, X, W, sc, e, g, tk, h => by
    rw [cE.eq_def] at h; dsimp only at h
    split at h
    · simp only [Bool.and_eq_true] at h
      obtain ⟨hb, p, rfl⟩ := g.blt h.1.1
      exact ok_val (PE.ext (sE_sti hb (cE_ok a g tk h.2).1 (star_ok h.1.2) rfl) fun δ S => by rw [ev]) rfl
    · cases h
  | .ist a, X, W, sc, e, g, tk, h => by
    rw [cE.eq_def] at h; dsimp only at h
    split at h
    · simp only [Bool.and_eq_true] at h
      obtain ⟨hb, p, rfl⟩ := g.blt h.1.1
      exact ok_val (PE.ext (sE_ist hb (cE_ok a g tk h.2).1 (star_ok h.1.2) rfl) fun δ S => by rw [ev]) rfl
    · cases h
  | .ixs a i, X, W, sc, e, g, tk, h => by
    rw [cE.eq_def] at h; dsimp only at h
    split at h
    · simp only [Bool.and_eq_true] at h
      exact ok_val (PE.ext (sE_ixs (cE_ok a g tk h.1.2).1 (cE_ok i g tk h.2).1 (plain_ixT h.1.1)) fun δ S => by rw [ev]) rfl
    · cases h
  | .calv fs a es, X, W, sc, e, g, tk, h => by
    rw [cE.eq_def] at h; dsimp only at h
    split at h
    · simp only [Bool.and_eq_true] at h
      obtain ⟨⟨⟨h1, h2⟩, h3⟩, h4⟩ := h
      obtain ⟨b1, b2⟩ := back_of h4 _ X.env
      have hF : ∀ f ∈ fs, PySem.W.keepIn X.K (.ref (M.fn f)) = true ∧ FnAt X M k (M.fn f) (Φ f) es.len := fun f hf => by
        obtain ⟨q, hq, q2⟩ := List.any_eq_true.mp (List.all_eq_true.mp h2 f hf)
        simp only [Bool.and_eq_true, decide_eq_true_eq] at q2
        obtain ⟨e1, e2⟩ := q2
        rw [e1] at e2
        have d := g.fns _ _ _ e2
        exact ⟨d.kp, d.ok⟩
      refine ok_val (PE.ext (sE_calv (Φ := Φ) hF (g.room.mono (Nat.le_succ _)) tk h1 (cE_ok a g tk h3).1 (cA_ok es g tk h4) b1 b2) fun δ S => ?_) rfl
      rw [ev]
      unfold calvG
      refine bind_congr _ fun d S => ?_
      cases d <;> try rfl
      dsimp only
      split
      · exact evs_bind fun ds S hl => by rw [if_pos hl]
      · rfl
    · cases h
theorem cA_ok : ∀ (ts : Tms) {X : Cx} {W : WX} {sc : Scope} {es : List Expr}, GoodX M Φ k G N X sc → Takes X W → cA G N sc ts es = true → PA X es (rdA M W (evs Φ ts))
  | .nil, X, W, sc, es, g, tk, h => by
    rw [cA.eq_def] at h; dsimp only at h
    split at h
    · exact PA.ext sA_nil fun δ S => by rw [evs]
    · cases h
  | .cons t ts, X, W, sc, es, g, tk, h => by
    rw [cA.eq_def] at h; dsimp only at h
    split at h
    · simp only [Bool.and_eq_true] at h
      exact PA.ext (sA_cons (cE_ok t g tk h.1.2).1 (cA_ok ts g tk h.2) (star_ok h.1.1)) fun δ S => by rw [evs]
    · cases h
theorem cF_ok : ∀ (ts : Tms) {X : Cx} {W : WX} {sc : Scope} {es : List Expr}, GoodX M Φ k G N X sc → Takes X W → cF G N sc ts es = true → FsOk M X W es (evf Φ ts)
  | .nil, X, W, sc, es, g, tk, h => by
    rw [cF.eq_def] at h; dsimp only at h
    split at h
    · exact FsOk.ext fs_nil fun acc δ S => by rw [evf]
    · cases h
  | .cons t ts, X, W, sc, es, g, tk, h => by
    rw [cF.eq_def] at h; dsimp only at h
    split at h
    · simp only [Bool.and_eq_true, decide_eq_true_eq] at h
      obtain ⟨⟨rfl, h1⟩, h2⟩ := h
      exact FsOk.ext (fs_val (cE_ok t g tk h1).1 (cF_ok ts g tk h2)) fun acc δ S => by rw [evf]
    · simp only [Bool.and_eq_true] at h
      obtain ⟨⟨⟨h0, h1⟩, h2⟩, h3⟩ := h
      exact FsOk.ext (fs_con (cE_ok t g tk h2).1 (strT_ok h1) (cF_ok ts g tk h3)) fun acc δ S => by rw [evf]
    · cases h
theorem cC_ok : ∀ (ts : Tms) {X : Cx} {W : WX} {sc : Scope} {es : List Expr}, GoodX M Φ k G N X sc → Takes X W → cC G N sc ts es = true → PTs X es (rdT M W (evc Φ ts))
  | .nil, X, W, sc, es, g, tk, h => by
    rw [cC.eq_def] at h; dsimp only at h
    split at h
    · exact PTs.ext sTs_nil fun δ S => by rw [evc]
    · cases h
  | .cons t .nil, X, W, sc, es, g, tk, h => by
    rw [cC.eq_def] at h; dsimp only at h
    split at h
    · exact PTs.ext (sTs_one (cE_ok t g tk h).2) fun δ S => by rw [evc]; rfl
    · cases h
  | .cons _ (.cons _ _), X, W, sc, es, g, tk, h => by rw [cC.eq_def] at h; cases h
theorem cI_ok : ∀ (w : It) {X : Cx} {W : WX} {sc : Scope} {tg e : Expr}, GoodX M Φ k G N X sc → Takes X W → cI G N sc w tg e = true → PI X tg e (rdI M W (evI Φ w))
  | .val a, X, W, sc, tg, e, g, tk, h => by
    rw [cI.eq_def] at h; dsimp only at h
    exact PI.ext (sI_val g.K (cE_ok a g tk h).1) fun δ S => by rw [evI]
  | .rng es, X, W, sc, tg, e, g, tk, h => by
    rw [cI.eq_def] at h; dsimp only at h
    split at h
    · simp only [Bool.and_eq_true, decide_eq_true_eq] at h
      obtain ⟨⟨h1, h2⟩, h3⟩ := h
      obtain ⟨hb, p, rfl⟩ := g.blt h1
      rename_i f y ys pos
      rcases ys with _ | ⟨y2, _ | ⟨y3, ys⟩⟩
      · refine PI.ext (sI_rng1 hb.gl hb.mg (cA_ok es g tk h3) (back_of h3 pos X.env).1) fun δ S => ?_
        rw [evI]
        exact evs_bind fun ds S hl => by rw [if_pos (by rw [hl, (cA_star h3).1]; rfl)]
      · have b2 := back_of2 h3 X.env
        refine PI.ext (sI_rng2 hb.gl hb.mg (cA_ok es g tk h3) (by rw [(back_of h3 pos X.env).1, b2]; rfl) b2) fun δ S => ?_
        · rw [evI]
          exact evs_bind fun ds S hl => by rw [if_pos (by rw [hl, (cA_star h3).1]; rfl)]
      · simp at h2
    · cases h
  | .enum es, X, W, sc, tg, e, g, tk, h => by
    rw [cI.eq_def] at h; dsimp only at h
    split at h
    · simp only [Bool.and_eq_true] at h
      obtain ⟨hb, p, rfl⟩ := g.blt h.1
      rename_i f y pos
      exact PI.ext (sI_enum g.K hb.gl hb.mg (cA_ok es g tk h.2) (back_of h.2 pos X.env).1) fun δ S => by rw [evI]
    · cases h
  | .zip es, X, W, sc, tg, e, g, tk, h => by
    rw [cI.eq_def] at h; dsimp only at h
    split at h
    · simp only [Bool.and_eq_true] at h
      obtain ⟨hb, p, rfl⟩ := g.blt h.1
      rename_i f y z pos
      exact PI.ext (sI_zip g.K hb.gl hb.mg (cA_ok es g tk h.2) (back_of h.2 pos X.env).1 (back_of h.2 pos X.env).2) fun δ S => by rw [evI]
    · cases h
  | .txt a, X, W, sc, tg, e, g, tk, h => by
    rw [cI.eq_def] at h; dsimp only at h
    exact PI.ext (sI_txt (cE_ok a g tk h).1) fun δ S => by rw [evI]
  | .enk a b, X, W, sc, tg, e, g, tk, h => by
    rw [cI.eq_def] at h; dsimp only at h
    split at h
    · simp only [Bool.and_eq_true] at h
      obtain ⟨⟨⟨⟨h1, h2⟩, h3⟩, h4⟩, h5⟩ := h
      obtain ⟨hb, p, rfl⟩ := g.blt h1
      exact PI.ext (sI_enk g.K hb.gl hb.mg (cE_ok a g tk h4).1 (cE_ok b g tk h5).1 (star_ok h2) (star_ok h3) (by rw [star_ok h3]; rfl)) fun δ S => by rw [evI]
    · cases h
end
end
end Py

set_option Elab.async false
set_option linter.all false
set_option maxRecDepth 100000
set_option maxHeartbeats 4000000
/-! Part S: the checker of statements. -/
namespace Py
open PySem PySem.Spec PyProof.Rows L2
def isStar : Expr → Bool
  | .Starred _ _ => true
  | _ => false
/-- which names are stored from the right; nothing: not known -/
def swp (sc : Scope) (ts vs : List Expr) : Option (Option (List Str)) :=
  if !(ts.length == 2 || ts.length == 3) || vs.length != ts.length then some none else
  if vs.any isStar then some none else
  let line := (ts.head?.map (·.pos.line)).getD 0
  let names := ts.filterMap fun
    | .Name id pos => if sc.names.lookup id == some .local && pos.line == line then some id else none
    | _ => none
  if names.length != ts.length || names.eraseDups.length != names.length then some none else
  if vs.all (foldedForSure 8) then some none else
  if vs.all (constantsAlone 8) then none else some (some names)
def swNames (env : PySem.Env) (ts : List Expr) : List Str := ts.filterMap fun
    | .Name id pos => if env.kindOf id == some .local && pos.line == (ts.head?.map (·.pos.line)).getD 0 then some id else none
    | _ => none
theorem swp_eq {env : PySem.Env} {ts vs : List Expr} {k k2 : Nat} {p p2 : Pos} : swappedStores [.Tuple ts k p] (.Tuple vs k2 p2) env =
    (if (!(ts.length == 2 || ts.length == 3) || vs.length != ts.length || env.blockKind != .function) = true then pure none else
     if vs.any isStar = true then pure none else
     if ((swNames env ts).length != ts.length || (swNames env ts).eraseDups.length != (swNames env ts).length) = true then pure none else
     if vs.all (foldedForSure 8) = true then pure none else
     if vs.all (constantsAlone 8) = true then ((unsupported "assign.tuple-of-constant-expressions:order-of-the-stores" : Sem PUnit) >>= fun _ => pure (some (swNames env ts))) else pure (some (swNames env ts))) := by
  unfold swappedStores
  rfl
theorem swp_ok {env : PySem.Env} {sc : Scope} (h1 : env.scope = sc) (h2 : sc.kind = .function) {ts vs : List Expr} {k k2 : Nat} {p p2 : Pos} {r : Option (List Str)} (h : swp sc ts vs = some r) : swappedStores [.Tuple ts k p] (.Tuple vs k2 p2) env = pure r := by
  subst h1
  have hb : env.blockKind = .function := by unfold Env.blockKind; rw [h2]; rfl
  rw [swp_eq, hb]
  have hn : swp env.scope ts vs = (if (!(ts.length == 2 || ts.length == 3) || vs.length != ts.length) = true then some none else if vs.any isStar = true then some none else
     if ((swNames env ts).length != ts.length || (swNames env ts).eraseDups.length != (swNames env ts).length) = true then some none else
     if vs.all (foldedForSure 8) = true then some none else if vs.all (constantsAlone 8) = true then none else some (some (swNames env ts))) := rfl
  rw [hn] at h
  have e0 : (ScopeKind.function != ScopeKind.function) = false := by decide
  rw [e0, Bool.or_false]
  by_cases c1 : (!(ts.length == 2 || ts.length == 3) || vs.length != ts.length) = true
  · rw [if_pos c1] at h ⊢; cases h; rfl
  · rw [if_neg c1] at h ⊢
    by_cases c2 : vs.any isStar = true
    · rw [if_pos c2] at h ⊢; cases h; rfl
    · rw [if_neg c2] at h ⊢
      by_cases c3 : ((swNames env ts).length != ts.length || (swNames env ts).eraseDups.length != (swNames env ts).length) = true
      · rw [if_pos c3] at h ⊢; cases h; rfl
      · rw [if_neg c3] at h ⊢
        by_cases c4 : vs.all (foldedForSure 8) = true
        · rw [if_pos c4] at h ⊢; cases h; rfl
        · rw [if_neg c4] at h ⊢
          by_cases c5 : vs.all (constantsAlone 8) = true
          · rw [if_pos c5] at h; cases h
          · rw [if_neg c5] at h ⊢; cases h; rfl
/-- does the value of a comprehension go into the name by a swap -/
def swL (sc : Scope) (scope : Scope) (t : Str) (l1 l2 : Nat) : Bool := sc.names.lookup t == some .local && l1 == l2 && !(scope.names.any fun (n, k) => n == t && (k == .local || k == .cell))
theorem swL_ok {env : PySem.Env} {sc : Scope} (h1 : env.scope = sc) (h2 : sc.kind = .function) {elt : Expr} {gs : List Comprehension} {scope : Scope} {pos pp : Pos} {t : Str} {line : Nat} :
    swapsWith (.ListComp elt gs scope pos) (some (.Name t pp)) line env = pure (swL sc scope t pp.line pos.line) := by
  subst h1
  have hb : env.blockKind = .function := by unfold Env.blockKind; rw [h2]; rfl
  unfold swapsWith
  rw [hb]
  rfl
theorem sw_none {env : PySem.Env} {e : Expr} {o : Option Expr} {l : Nat} (h : notComp e = true) : swapsWith e o l env = pure false := by
  cases e <;> first | rfl | cases h
def isTup : Expr → Bool
  | .Tuple _ _ _ => true
  | _ => false
def isLstE : Expr → Bool
  | .List _ _ => true
  | _ => false
/-- nothing is stored from the right -/
def parNone (sc : Scope) (tg v : Expr) : Bool := match tg with
  | .Tuple ts _ _ => (match v with
    | .Tuple vs _ _ => (match swp sc ts vs with
      | some none => true
      | _ => false)
    | _ => true)
  | .List _ _ => false
  | _ => true
theorem parNone_ok {env : PySem.Env} {sc : Scope} (h1 : env.scope = sc) (h2 : sc.kind = .function) {tg v : Expr} (h : parNone sc tg v = true) : swappedStores [tg] v env = pure none := by
  cases tg with
  | Tuple ts a b =>
    cases v with
    | Tuple vs c d =>
      unfold parNone at h
      dsimp only at h
      split at h
      · exact swp_ok h1 h2 ‹_›
      · cases h
    | _ => rfl
  | List ts a => cases h
  | _ => rfl
theorem swSole {t v : Expr} {l : Nat} {env : PySem.Env} : swapsWithSole [t] v l env = swapsWith v (some t) l env := rfl
def cPar2 (N : List Str) (sc : Scope) (is : List Nat) (ts : List Expr) : Bool := match is, ts with
  | [i, j], [.Name x _, .Name y _] => decide (N[i]? = some x) && decide (N[j]? = some y) && decide (i ≠ j) && loc1 sc x && loc1 sc y
  | [i, j, l], [.Name x _, .Name y _, .Name z _] => decide (N[i]? = some x) && decide (N[j]? = some y) && decide (N[l]? = some z) && decide (i ≠ j) && decide (i ≠ l) && decide (j ≠ l) && loc1 sc x && loc1 sc y && loc1 sc z
  | _, _ => false
def nmsOf : List Expr → List Str
  | [] => []
  | .Name x _ :: r => x :: nmsOf r
  | _ :: r => nmsOf r
def cTry (G : Tab) (N : List Str) (sc : Scope) (i : Option Nat) (hs : List (Str × HS)) (hds : List ExceptHandler) : Bool := match i with
  | some i => (match N[i]? with
    | some n => loc1 sc n && okN n && G.frees.contains ("isinstance" : Str) && cHds G.xc G.xf n i N sc hs hds
    | none => false)
  | none => cHd0 G.xc sc hs hds
mutual
def cS (G : Tab) (N : List Str) (sc : Scope) : Sm → Stmt → Bool
  | .asg t e, st => (match st with
    | .Assign [tg] v _ => notStar tg && cG N sc t tg && (match tg, v with
      | .Name y py, .ListComp elt [⟨tg1, iter, ifs, 0⟩] scope pos => (match t, e with
        | .nm i, .comp own vs t1 w c a => if swL sc scope y py.line pos.line then
            decide (N[i]? = some y) && loc1 sc y && blkC N sc scope (owOf N vs) && t1.slots.all (fun i => vs.contains i) && notSet iter && cI G N sc w tg1 iter && cG N scope t1 tg1 && cC G N scope c ifs && cE G N scope a elt
          else cE G N sc e v
        | _, _ => false)
      | .Name y py, .ListComp elt [⟨tg0, iter, [], 0⟩, ⟨tg1, iter1, ifs1, 0⟩] scope pos => (match t, e with
        | .nm i, .comp2 own vs t0 w vs1 t1 w1 c1 a => if swL sc scope y py.line pos.line then
            decide (N[i]? = some y) && loc1 sc y && blkC N sc scope (owOf N vs) && vs1.all (fun i => vs.contains i) && t0.slots.all (fun i => vs.contains i) && t1.slots.all (fun i => vs1.contains i) && notSet iter && notSet iter1 && cI G N sc w tg0 iter && cG N scope t0 tg0 && cI G N scope w1 tg1 iter1 && cG N scope t1 tg1 && cC G N scope c1 ifs1 && cE G N scope a elt
          else cE G N sc e v
        | _, _ => false)
      | _, _ => notComp v && parNone sc tg v && cE G N sc e v)
    | _ => false)
  | .par is es, st => (match st with
    | .Assign [.Tuple ts _ _] (.Tuple vs _ _) _ => cPar2 N sc is ts && decide (swp sc ts vs = some (some (nmsOf ts))) && decide (vs.length = ts.length) && cA G N sc es vs
    | _ => false)
  | .sto o i e, st => (match st with
    | .Assign [.Subscript x y _] v _ => notSlice y && notComp v && cE G N sc o x && cE G N sc i y && cE G N sc e v
    | _ => false)
  | .sfl C x o e, st => (match st with
    | .Assign [.Attribute y a _] v _ => decide (a = x) && G.na.contains (C, x) && notComp v && cE G N sc o y && cE G N sc e v
    | _ => false)
  | .dput o es e, st => (match st with
    | .Assign [.Subscript x (.Tuple xs _ _) _] v _ => notComp v && cE G N sc o x && cA G N sc es xs && cE G N sc e v
    | _ => false)
  | .try_ b i xs hs, st => (match st with
    | .Try x (h0 :: hds) [] [] _ => cSs G N sc b x && xs.all (fun c => (G.xs.lookup c).isSome) && cTry G N sc i hs (h0 :: hds)
    | _ => false)
  | .ex e, st => (match st with
    | .Expr v _ => notComp v && cE G N sc e v
    | _ => false)
  | .ite c a b, st => (match st with
    | .If z x y _ => cE G N sc c z && cSs G N sc a x && cSs G N sc b y
    | _ => false)
  | .whl c b, st => (match st with
    | .While z x [] _ => cE G N sc c z && cSs G N sc b x
    | _ => false)
  | .for_ t w b, st => (match st with
    | .For tg iter x [] _ => notSet iter && cG N sc t tg && cI G N sc w tg iter && cSs G N sc b x
    | _ => false)
  | .ret e, st => (match st with
    | .Return (some v) _ => cE G N sc e v
    | _ => false)
  | .rai C ns es, st => (match st with
    | .Raise (some (.Call (.Name x _) args [] _)) none _ => decide (x = C) && glB sc x && okN x && decide (G.xs.lookup C = some ns) && (match args with
      | [] => ns.isEmpty && decide (es.len = 0)
      | y :: ys => decide (1 ≤ ns.length) && cA G N sc es (y :: ys))
    | _ => false)
  | .nvr, _ => true
  | .pass, st => (match st with
    | .Pass _ => true
    | _ => false)
def cSs (G : Tab) (N : List Str) (sc : Scope) : Sms → List Stmt → Bool
  | .nil, sts => (match sts with
    | [] => true
    | _ => false)
  | .cons s ss, sts => (match sts with
    | st :: sts => cS G N sc s st && cSs G N sc ss sts
    | [] => false)
end
theorem sS_ext {M : Mo} {X : Cx} {W : WX} {st : Stmt} {f g : Env → Sto → Out} (p : PS X st (rdS M W f)) (h : ∀ δ S, f δ S = g δ S) : PS X st (rdS M W g) := by
  have : f = g := by funext δ S; exact h δ S
  rw [← this]; exact p
theorem sSs_ext {M : Mo} {X : Cx} {W : WX} {st : List Stmt} {f g : Env → Sto → Out} (p : PSs X st (rdS M W f)) (h : ∀ δ S, f δ S = g δ S) : PSs X st (rdS M W g) := by
  have : f = g := by funext δ S; exact h δ S
  rw [← this]; exact p
section
variable {M : Mo} {Φ : Fns} {k : Nat} {G : Tab} {N : List Str} {X : Cx} {W : WX} {sc : Scope}
theorem GoodX.nox (g : GoodX M Φ k G N X sc) : GoodX M Φ k G N X.nox sc where
  K := g.K
  hN := g.hN
  nd := g.nd
  hsc := g.hsc
  calm := g.calm
  room := g.room
  fn := g.fn
  kit := g.kit
  con := g.con
  free := g.free
  na := g.na
  fns := fun x f n h => let d := g.fns x f n h; ⟨d.gl, d.kp, d.ok⟩
  cls := fun C f n h => let ⟨a, d, kp⟩ := g.cls C f n h; ⟨a, ⟨d.gl, d.mks, d.inn, d.ok⟩, kp⟩
  csI := g.csI
  msI := g.msI
  psI := g.psI
  eqI := g.eqI
  k2 := g.k2
  xsI := g.xsI
  xcI := g.xcI
theorem GoodX.tr (g : GoodX M Φ k G N X sc) (pn : List (Addr × Obj)) (xe : Value → Shared → Prop) : GoodX M Φ k G N (X.tr pn xe) sc where
  K := g.K
  hN := g.hN
  nd := g.nd
  hsc := g.hsc
  calm := g.calm
  room := g.room
  fn := g.fn
  kit := g.kit
  con := g.con
  free := g.free
  na := g.na
  fns := fun x f n h => let d := g.fns x f n h; ⟨d.gl, d.kp, d.ok⟩
  cls := fun C f n h => let ⟨a, d, kp⟩ := g.cls C f n h; ⟨a, ⟨d.gl, d.mks, d.inn, d.ok⟩, kp⟩
  csI := g.csI
  msI := g.msI
  psI := g.psI
  eqI := g.eqI
  k2 := g.k2
  xsI := g.xsI
  xcI := g.xcI
theorem GoodX.xsK (g : GoodX M Φ k G N X sc) {xs : List Str} (h : xs.all (fun c => (G.xs.lookup c).isSome) = true) : (∀ c, xs.contains c = true → ∃ ns, XAt M X.mg X.prog X.w X.base G.xf c ns) ∧ ∀ C, G.xc.contains C = true → XcAt M X.mg xs C := by
  have h1 : ∀ c ∈ xs, ∃ ns, G.xs.lookup c = some ns := fun c hc => Option.isSome_iff_exists.mp (List.all_eq_true.mp h c hc)
  have h2 : ∀ c ∈ xs, c ∈ G.xs.map (·.1) := fun c hc => by
    obtain ⟨ns, e⟩ := h1 c hc
    exact List.mem_map.mpr ⟨(c, ns), PySem.mem_of_lookup e, rfl⟩
  refine ⟨fun c hc => ?_, fun C hC => ?_⟩
  · obtain ⟨ns, e⟩ := h1 c (List.contains_iff_mem.mp hc)
    exact ⟨ns, g.xsI c ns e⟩
  · have q := g.xcI C hC
    exact ⟨q.gl, fun c hc => q.ex c (h2 c hc), fun c hc => q.ki c (h2 c hc)⟩
theorem loc1_ok {x : Str} (hx : X.env.scope = sc) (h : loc1 sc x = true) : X.env.scope.names.lookup x = some .local := by
  rw [hx]
  unfold loc1 at h
  split at h
  · assumption
  · cases h
mutual
theorem cS_ok {X : Cx} {W : WX} {sc : Scope} (g : GoodX M Φ k G N X sc) (tk : Takes X W) (hx : X.env.scope = sc) (hk : sc.kind = .function) (hp : PassesOwn (model X.prog X.w) X.A X.env X.xe) (hst : X.stack = X.env :: X.outer) (hfr : X.env.frame = some X.env.locals) : ∀ (s : Sm) {st : Stmt}, cS G N sc s st = true → PS X st (rdS M W (evS Φ s))
  | .asg t e, st, h => by
    rw [cS.eq_def] at h; dsimp only at h
    split at h
    · rename_i tg v pos
      simp only [Bool.and_eq_true] at h
      obtain ⟨⟨h1, h2⟩, h3⟩ := h
      split at h3
      · rename_i y py elt tg1 iter ifs scope pos'
        split at h3
        · rename_i i own vs t1 w c a
          by_cases sw : swL sc scope y py.line pos'.line = true
          · rw [if_pos sw] at h3
            simp only [Bool.and_eq_true, decide_eq_true_eq] at h3
            obtain ⟨⟨⟨⟨⟨⟨⟨⟨q1, q2⟩, q3⟩, q4⟩, q5⟩, q6⟩, q7⟩, q8⟩, q9⟩ := h3
            have tk0 : ∀ (s : Shared) (H : Hp) (C : Addr) (cl : List (Str × Addr)) (fp : List Addr) (scope : Scope), Takes (X.blk s H scope (compEnvC scope cl C X.env) fp) W0 := fun _ _ _ _ _ _ => takes_none W0 fun _ _ _ _ h => h
            refine sS_ext (sS_lc (own := own) (ow := owOf N vs) g.calm (by rw [g.hN]; exact g.nd) (g.ix q1) (loc1_ok hx q2) (by rw [swL_ok hx hk, sw]) (cI_ok w g tk q6) (g.blkOk q3) (fun i hi => ?_) (fun s H C cl fp => cG_ok (g.blk s H _ cl C fp) t1 q7)
              (fun s H C cl fp => cC_ok c (g.blk s H _ cl C fp) (tk0 s H C cl fp _) q8) (fun s H C cl fp => (cE_ok a (g.blk s H _ cl C fp) (tk0 s H C cl fp _) q9).1) (fun x => set_ok q5)) fun δ S => ?_
            · rw [ow_snd]; exact List.contains_iff_mem.mp (List.all_eq_true.mp q4 i hi)
            · rw [evS, ev, ow_snd]; rfl
          · rw [if_neg sw] at h3
            refine sS_ext (sS_asg (cE_ok _ g tk h3).1 (cG_ok g _ h2) (by rw [swSole, swL_ok hx hk]; rw [Bool.not_eq_true] at sw; rw [sw]) rfl rfl) fun δ S => ?_
            rw [evS]; try rfl
        · cases h3
      · rename_i y py elt tg0 iter tg1 iter1 ifs1 scope pos'
        split at h3
        · rename_i i own vs t0 w vs1 t1 w1 c1 a
          by_cases sw : swL sc scope y py.line pos'.line = true
          · rw [if_pos sw] at h3
            simp only [Bool.and_eq_true, decide_eq_true_eq] at h3
            obtain ⟨⟨⟨⟨⟨⟨⟨⟨⟨⟨⟨⟨⟨q1, q2⟩, q3⟩, q4⟩, q5⟩, q6⟩, q7⟩, q8⟩, q9⟩, q10⟩, q11⟩, q12⟩, q13⟩, q14⟩ := h3
            have tk0 : ∀ (s : Shared) (H : Hp) (C : Addr) (cl : List (Str × Addr)) (fp : List Addr) (scope : Scope), Takes (X.blk s H scope (compEnvC scope cl C X.env) fp) W0 := fun _ _ _ _ _ _ => takes_none W0 fun _ _ _ _ h => h
            refine sS_ext (sS_lc2 (own := own) (ow := owOf N vs) (vs1 := vs1) g.calm (by rw [g.hN]; exact g.nd) (g.ix q1) (loc1_ok hx q2) (by rw [swL_ok hx hk, sw]) (cI_ok w g tk q9) (g.blkOk q3) (fun i hi => ?_) (fun i hi => ?_) (fun i hi => List.contains_iff_mem.mp (List.all_eq_true.mp q6 i hi)) (fun s H C cl fp => cG_ok (g.blk s H _ cl C fp) t0 q10)
              (fun s H C cl fp => cI_ok w1 (g.blk s H _ cl C fp) (tk0 s H C cl fp _) q11) (fun s H C cl fp => cG_ok (g.blk s H _ cl C fp) t1 q12) (fun s H C cl fp => cC_ok c1 (g.blk s H _ cl C fp) (tk0 s H C cl fp _) q13) (fun s H C cl fp => (cE_ok a (g.blk s H _ cl C fp) (tk0 s H C cl fp _) q14).1) (fun x => set_ok q7) (fun env x => set_ok q8)) fun δ S => ?_
            · rw [ow_snd]; exact List.contains_iff_mem.mp (List.all_eq_true.mp q4 i hi)
            · rw [ow_snd]; exact List.contains_iff_mem.mp (List.all_eq_true.mp q5 i hi)
            · rw [evS, ev, ow_snd]; rfl
          · rw [if_neg sw] at h3
            refine sS_ext (sS_asg (cE_ok _ g tk h3).1 (cG_ok g _ h2) (by rw [swSole, swL_ok hx hk]; rw [Bool.not_eq_true] at sw; rw [sw]) rfl rfl) fun δ S => ?_
            rw [evS]; try rfl
        · cases h3
      · simp only [Bool.and_eq_true] at h3
        refine sS_ext (sS_asg (cE_ok e g tk h3.2).1 (cG_ok g t h2) (swSole.trans (sw_none h3.1.1)) (parNone_ok hx hk h3.1.2) (by rw [asgn_ok h1]; rfl)) fun δ S => ?_
        rw [evS]; try rfl
    · cases h
  | .par is es, st, h => by
    rw [cS.eq_def] at h; dsimp only at h
    split at h
    · rename_i ts0 k0 pt0 vs k2 pt2 pos0
      simp only [Bool.and_eq_true, decide_eq_true_eq] at h
      obtain ⟨⟨⟨h1, h2⟩, h3⟩, h4⟩ := h
      unfold cPar2 at h1
      split at h1
      · simp only [Bool.and_eq_true, decide_eq_true_eq] at h1
        obtain ⟨⟨⟨⟨q1, q2⟩, q3⟩, q4⟩, q5⟩ := h1
        rename_i i j x px y py
        rcases vs with _ | ⟨a, _ | ⟨b, _ | ⟨c, vs⟩⟩⟩ <;> try (cases h3; done)
        refine sS_ext (sS_par2 g.calm (by rw [g.hN]; exact g.nd) (g.ix q1) (g.ix q2) q3 (loc1_ok hx q4) (loc1_ok hx q5) (cA_ok es g tk h4) (swp_ok hx hk h2) rfl) fun δ S => ?_
        rw [evS]; try rfl
      · simp only [Bool.and_eq_true, decide_eq_true_eq] at h1
        obtain ⟨⟨⟨⟨⟨⟨⟨⟨q1, q2⟩, q3⟩, q4⟩, q5⟩, q6⟩, q7⟩, q8⟩, q9⟩ := h1
        rename_i i j l x px y py z pz
        rcases vs with _ | ⟨a, _ | ⟨b, _ | ⟨c, _ | ⟨d, vs⟩⟩⟩⟩ <;> try (cases h3; done)
        refine sS_ext (sS_par3 g.calm (by rw [g.hN]; exact g.nd) (g.ix q1) (g.ix q2) (g.ix q3) q4 q5 q6 (loc1_ok hx q7) (loc1_ok hx q8) (loc1_ok hx q9) (cA_ok es g tk h4) (swp_ok hx hk h2) rfl) fun δ S => ?_
        rw [evS]; try rfl
      · cases h1
    · cases h
  | .sto o i e, st, h => by
    rw [cS.eq_def] at h; dsimp only at h
    split at h
    · simp only [Bool.and_eq_true] at h
      obtain ⟨⟨⟨⟨h1, h2⟩, h3⟩, h4⟩, h5⟩ := h
      refine sS_ext (sS_sto (cE_ok o g tk h3).1 (cE_ok i g tk h4).1 (cE_ok e g tk h5).1 (swSole.trans (sw_none h2)) rfl rfl (fun v => ?_)) fun δ S => ?_
      · rename_i x y ps v0 p0
        cases y <;> first | rfl | cases h1
      · rw [evS]; try rfl
    · cases h
  | .sfl C x o e, st, h => by
    rw [cS.eq_def] at h; dsimp only at h
    split at h
    · simp only [Bool.and_eq_true, decide_eq_true_eq] at h
      obtain ⟨⟨⟨⟨rfl, h2⟩, h3⟩, h4⟩, h5⟩ := h
      refine sS_ext (sS_sfl g.K g.kit (g.na _ (List.contains_iff_mem.mp h2)) (cE_ok o g tk h4).1 (cE_ok e g tk h5).1 (sw_none h3)) fun δ S => ?_
      rw [evS]; try rfl
    · cases h
  | .dput o es e, st, h => by
    rw [cS.eq_def] at h; dsimp only at h
    split at h
    · simp only [Bool.and_eq_true] at h
      obtain ⟨⟨⟨h1, h2⟩, h3⟩, h4⟩ := h
      exact sS_ext (sS_dput g.units (cE_ok o g tk h2).1 (cA_ok es g tk h3) (cE_ok e g tk h4).1 (sw_none h1)) fun δ S => by rw [evS]; rfl
    · cases h
  | .try_ b i xs hs, st, h => by
    rw [cS.eq_def] at h; dsimp only at h
    split at h
    · rename_i x h0 hds pos
      rw [Bool.and_eq_true, Bool.and_eq_true] at h
      obtain ⟨⟨h1, h2⟩, h3⟩ := h
      obtain ⟨hX, hC⟩ := g.xsK h2
      have hb : ∀ (W : WX) (pn : List (Addr × Obj)) (xe : Value → Shared → Prop), Takes (X.tr pn xe) W → PassesOwn (model X.prog X.w) X.A X.env xe → PSs (X.tr pn xe) x (rdS M W (evSs Φ b)) :=
        fun W pn xe t p => cSs_ok (X := X.tr pn xe) (W := W) (g.tr pn xe) t hx hk p hst hfr b h1
      unfold cTry at h3
      cases i with
      | none => exact sS_ext (sS_try0 hst hfr tk g.K hC hx hb h3) fun δ S => by rw [evS]
      | some i =>
        dsimp only at h3
        split at h3
        · rename_i n hn
          simp only [Bool.and_eq_true] at h3
          obtain ⟨⟨⟨q1, q2⟩, q3⟩, q4⟩ := h3
          have q4' : cHds G.xc G.xf n i X.N sc hs (h0 :: hds) = true := by rw [g.hN]; exact q4
          exact sS_ext (sS_tryx hst hfr tk g.K hX hC (by rw [g.hN]; exact g.nd) (g.ix hn) (loc1_ok hx q1) (okN1 q2) (okN2 q2) (g.free _ (List.contains_iff_mem.mp q3)) hx (fun e o l z => sw_none z) hb q4') fun δ S => by rw [evS]
        · cases h3
    · cases h
  | .ex e, st, h => by
    rw [cS.eq_def] at h; dsimp only at h
    split at h
    · simp only [Bool.and_eq_true] at h
      exact sS_ext (sS_expr (cE_ok e g tk h.2).1 (sw_none h.1)) fun δ S => by rw [evS]
    · cases h
  | .ite c a b, st, h => by
    rw [cS.eq_def] at h; dsimp only at h
    split at h
    · simp only [Bool.and_eq_true] at h
      exact sS_ext (sS_if (cE_ok c g tk h.1.1).2 (cSs_ok g tk hx hk hp hst hfr a h.1.2) (cSs_ok g tk hx hk hp hst hfr b h.2)) fun δ S => by rw [evS]
    · cases h
  | .whl c b, st, h => by
    rw [cS.eq_def] at h; dsimp only at h
    split at h
    · simp only [Bool.and_eq_true] at h
      exact sS_ext (sS_while hp (cE_ok c g tk h.1).2 (cSs_ok g tk hx hk hp hst hfr b h.2)) fun δ S => by rw [evS]
    · cases h
  | .for_ t w b, st, h => by
    rw [cS.eq_def] at h; dsimp only at h
    split at h
    · simp only [Bool.and_eq_true] at h
      exact sS_ext (sS_for hp g.calm (cI_ok w g tk h.1.2) (cG_ok g t h.1.1.2) (cSs_ok g tk hx hk hp hst hfr b h.2) (fun x => set_ok h.1.1.1)) fun δ S => by rw [evS]
    · cases h
  | .ret e, st, h => by
    rw [cS.eq_def] at h; dsimp only at h
    split at h
    · exact sS_ext (sS_ret (cE_ok e g tk h).1) fun δ S => by rw [evS]
    · cases h
  | .nvr, st, h => sS_ext sS_never fun δ S => by rw [evS]
  | .rai C ns es, st, h => by
    rw [cS.eq_def] at h; dsimp only at h
    split at h
    · rename_i x px args pc pr
      simp only [Bool.and_eq_true, decide_eq_true_eq] at h
      obtain ⟨⟨⟨⟨h1, h2⟩, h3⟩, h4⟩, h5⟩ := h
      have A := g.xsI C ns h4
      rw [h1] at h2 h3 ⊢
      cases args with
      | nil =>
        simp only [Bool.and_eq_true, decide_eq_true_eq, List.isEmpty_iff] at h5
        obtain ⟨q1, q2⟩ := h5
        have e0 : es = .nil := by cases es with
          | nil => rfl
          | cons a b => simp [Tms.len] at q2
        subst q1 e0
        exact sS_ext (sS_rai0 g.K A g.calm tk (g.gl h2) (okN1 h3)) fun δ S => by simp [evS]
      | cons y ys =>
        simp only [Bool.and_eq_true, decide_eq_true_eq] at h5
        obtain ⟨q1, q2⟩ := h5
        have q3 := cA_ok es g tk q2
        obtain ⟨b1, b2⟩ := back_of q2 pc X.env
        exact sS_ext (sS_raiI g.K A q1 g.calm tk (g.room.mono (by have := g.k2; omega)) (g.gl h2) (okN1 h3) q3 b1 b2) fun δ S => by rw [evS]
    · cases h
  | .pass, st, h => by
    rw [cS.eq_def] at h; dsimp only at h
    split at h
    · exact sS_ext sS_pass fun δ S => by rw [evS]
    · cases h
theorem cSs_ok {X : Cx} {W : WX} {sc : Scope} (g : GoodX M Φ k G N X sc) (tk : Takes X W) (hx : X.env.scope = sc) (hk : sc.kind = .function) (hp : PassesOwn (model X.prog X.w) X.A X.env X.xe) (hst : X.stack = X.env :: X.outer) (hfr : X.env.frame = some X.env.locals) : ∀ (ss : Sms) {sts : List Stmt}, cSs G N sc ss sts = true → PSs X sts (rdS M W (evSs Φ ss))
  | .nil, sts, h => by
    rw [cSs.eq_def] at h; dsimp only at h
    split at h
    · exact sSs_ext sS_nil fun δ S => by rw [evSs]
    · cases h
  | .cons s ss, sts, h => by
    rw [cSs.eq_def] at h; dsimp only at h
    split at h
    · simp only [Bool.and_eq_true] at h
      exact sSs_ext (sS_cons (cS_ok g tk hx hk hp hst hfr s h.1) (cSs_ok g tk hx hk hp hst hfr ss h.2)) fun δ S => by rw [evSs]
    · cases h
end
end
end Py

set_option Elab.async false
set_option linter.all false
set_option maxRecDepth 100000
set_option maxHeartbeats 4000000
/-! Part T: defs; the table of all defs. -/
namespace Py
open PySem PySem.Spec PyProof.Rows L2
structure TabOk (M : Mo) (Φ : Fns) (k : Nat) (G : Tab) (P : Program) (w : World) (mg : Str → Option Value) (base : Heap) : Prop where
  kit : KitOk M
  con : ∀ x d, G.con.lookup x = some d → ∃ v u, mg x = some u ∧ RelV v u ∧ ∀ ρ H, Rep M ρ H d v
  free : ∀ x ∈ G.frees, mg x = none
  na : ∀ p ∈ G.na, NoAttr M.K (M.cl p.1) p.2
  fns : ∀ x f n, G.fns.lookup x = some (f, n) → mg x = some (.ref (M.fn f)) ∧ PySem.W.keepIn M.K (.ref (M.fn f)) = true ∧ ∃ fd ps, ps.length = n ∧ Binds M.K fd ps [] ∧ FnOk P w M.K mg base (L2.CX P w) k (M.fn f) fd ps (spD M (Φ f) n)
  cls : ∀ C f n, G.cls.lookup C = some (f, n) → mg C = some (.ref (M.cl C)) ∧ C ∈ M.cs ∧ PySem.W.keepIn M.K (.ref (M.cl C)) = true ∧ ∃ a, Mk M.K (M.cl C) a ∧ ∃ fd ps, ps.length = n ∧ Binds M.K fd ps [] ∧ FnOk P w M.K mg base (L2.CX P w) k a fd ps (spD M (Φ f) n)
  csI : ∀ C ∈ G.cs, C ∈ M.cs ∧ mg C = some (.ref (M.cl C))
  k2 : 2 ≤ k
  xsI : ∀ C ns, G.xs.lookup C = some ns → XAt M mg P w base G.xf C ns
  xcI : ∀ C, G.xc.contains C = true → XcAt M mg (G.xs.map (·.1)) C
  msI : ∀ C m f n, G.ms.lookup (C, m) = some (f, n) → C ∈ M.cs ∧ Meth M.K (M.cl C) m (M.fn f) ∧ ∃ fd ps, ps.length = n ∧ Binds M.K fd ps [] ∧ FnOk P w M.K mg base (L2.CX P w) k (M.fn f) fd ps (spD M (Φ f) n)
  psI : ∀ C x f, G.ps.lookup (C, x) = some f → C ∈ M.cs ∧ (∃ p', PropOf M.K (M.cl C) x p' (M.fn f)) ∧ ∃ fd ps, ps.length = 1 ∧ Binds M.K fd ps [] ∧ FnOk P w M.K mg base (L2.CX P w) k (M.fn f) fd ps (spD M (Φ f) 1)
  eqI : ∀ C ∈ G.eqs, EqAll M C
section
variable {M : Mo} {Φ : Fns} {k : Nat} {G : Tab} {P : Program} {w : World} {mg : Str → Option Value} {base : Heap}
theorem good_of {N : List Str} {X : Cx} (T : TabOk M Φ k G P w mg base) (eP : X.prog = P) (ew : X.w = w) (eK : X.K = M.K) (em : X.mg = mg) (eb : X.base = base) (eN : X.N = N) (nd : N.Nodup) (hc : X.calm = true) (hr : Room (k + 1) X.A) (hf : ∀ x, X.fn x = true) : GoodX M Φ k G N X X.env.scope where
  K := eK
  hN := eN
  nd := nd
  hsc := fun x => .inl rfl
  calm := hc
  room := hr
  fn := fun x _ => hf x
  kit := T.kit
  con := fun x d h => by rw [em]; exact T.con x d h
  free := fun x h => by rw [em]; exact T.free x h
  na := T.na
  fns := fun x f n h => by
    obtain ⟨h1, h2, fd, ps, h3, h4, h5⟩ := T.fns x f n h
    subst eP ew em eb
    exact ⟨h1, by rw [eK]; exact h2, fd, ps, h3, by rw [eK]; exact h4, by rw [eK]; exact h5⟩
  cls := fun C f n h => by
    obtain ⟨h1, h2, h3, a, h4, fd, ps, h5, h6, h7⟩ := T.cls C f n h
    subst eP ew em eb
    exact ⟨a, ⟨h1, by rw [eK]; exact h4, h2, fd, ps, h5, by rw [eK]; exact h6, by rw [eK]; exact h7⟩, by rw [eK]; exact h3⟩
  csI := fun C h => by rw [em]; exact T.csI C h
  k2 := T.k2
  xsI := fun C ns h => by subst eP ew em eb; exact T.xsI C ns h
  xcI := fun C h => by rw [em]; exact T.xcI C h
  msI := fun C m f n h => by
    obtain ⟨h1, h2, fd, ps, h3, h4, h5⟩ := T.msI C m f n h
    subst eP ew em eb
    exact ⟨h1, h2, fd, ps, h3, by rw [eK]; exact h4, by rw [eK]; exact h5⟩
  psI := fun C x f h => by
    obtain ⟨h1, h2, fd, ps, h3, h4, h5⟩ := T.psI C x f h
    subst eP ew em eb
    exact ⟨h1, h2, fd, ps, h3, by rw [eK]; exact h4, by rw [eK]; exact h5⟩
  eqI := T.eqI
theorem rep_start {ρ : Rho} {H : Hp} {N : List Str} {ds : List D} {vs : List V} {ns : Nat} (r : Reps M ρ H ds vs) (hn : N.length = ns) (hl : ds.length ≤ ns) : RepE M ρ H (ds.map some ++ List.replicate (ns - ds.length) none) (L2.start N vs) := by
  have hlen := r.length
  unfold L2.start
  refine ⟨by simp; omega, fun i d e => ?_⟩
  by_cases hi : i < ds.length
  · rw [List.getElem?_append_left (by rw [List.length_map]; exact hi), List.getElem?_map] at e
    obtain ⟨d', e1, e2⟩ := Option.map_eq_some_iff.mp e
    cases e2
    obtain ⟨v, e3, r3⟩ := r.get e1
    exact ⟨v, by rw [List.getElem?_append_left (by rw [List.length_map, ← hlen]; exact hi), List.getElem?_map, e3]; rfl, r3⟩
  · rw [List.getElem?_append_right (by rw [List.length_map]; omega), List.getElem?_replicate] at e
    split at e <;> cases e
/-- what is looked at of a def -/
def fscB (N ps : List Str) (sc : Scope) : Bool := decide (sc.kind = .function) && !sc.isCoroutine && !sc.isGenerator && decide N.Nodup && decide (N.take ps.length = ps) && ps.all (locB sc) && sc.names.all (fun y => decide (y.2 ≠ .free))
theorem fsc_ok {N ps : List Str} {sc : Scope} (h : fscB N ps sc = true) : FnScope N ps sc := by
  unfold fscB at h
  simp only [Bool.and_eq_true, decide_eq_true_eq, Bool.not_eq_true', List.all_eq_true] at h
  obtain ⟨⟨⟨⟨⟨⟨h1, h2⟩, h3⟩, h4⟩, h5⟩, h6⟩, h7⟩ := h
  refine ⟨h1, h2, h3, h4, h5, fun x hx => ?_, fun y hy => h7 y hy⟩
  have q := h6 x hx
  unfold locB at q
  split at q
  · exact .inl ‹_›
  · exact .inr ‹_›
  · cases q
/-- THE STEP: a def whose text the checker accepts -/
theorem def_ok (T : TabOk M Φ k G P w mg base) {x qual : Str} {params : Arguments} {body : List Stmt} {scope : Scope} {f : Addr} {fd : FuncData} {N ps : List Str} {d : FD} (F : FunD M.K x qual params body scope [] [] f fd) (hs : fscB N ps scope = true)
    (hp : ps.length = d.np) (hN : N.length = d.ns) (hle : d.np ≤ d.ns) (hb : cSs G N scope d.body body = true) : FnOk P w M.K mg base (L2.CX P w) (k + 2) f fd ps (spD M (runF Φ d) d.np) := by
  have S := fsc_ok hs
  refine F.ok S (fun vs H Q E h => by rw [hp]; exact h.1) fun cdv A outer s H vs Q E hr hsp => ?_
  obtain ⟨hl, ρ, S0, ds, hS, r, hP⟩ := hsp
  have g : GoodX M Φ k G N (cxOf (L2.CX P w) P w M.K mg base N qual scope f cdv A outer s H E) scope := good_of T rfl rfl rfl rfl rfl rfl S.nd rfl hr (fun _ => rfl)
  have tk : Takes (cxOf (L2.CX P w) P w M.K mg base N qual scope f cdv A outer s H E) (fun cls d _ H => E cls d H) := takes_of rfl rfl rfl rfl
  refine ⟨_, cSs_ok g tk rfl S.kind (passes_of rfl) rfl rfl d.body hb, ?_⟩
  have hd : ds.length = d.np := by rw [r.length]; exact hl
  refine ⟨ρ, ds.map some ++ List.replicate (d.ns - d.np) none, S0, hS, by rw [← hd]; exact rep_start r hN (by rw [hd]; exact hle), ?_⟩
  unfold runF at hP
  rw [if_pos hd] at hP
  cases e : evSs Φ d.body (ds.map some ++ List.replicate (d.ns - d.np) none) S0 with
  | stuck => rw [e] at hP; exact hP.elim
  | nxt δ' S' =>
    rw [e] at hP
    dsimp only at hP
    intro ρ' H' σ' s' hS' hE'
    by_cases ho : d.own = true
    · rw [if_pos ho] at hP; exact hP ρ' H' .non s' hS' rep_non
    · rw [if_neg ho] at hP; exact post_cut hS hP ρ' H' .non s' hS' rep_non
  | ret v S' =>
    rw [e] at hP
    dsimp only at hP
    intro ρ' H' u s' hS' ru
    by_cases ho : d.own = true
    · rw [if_pos ho] at hP; exact hP ρ' H' u s' hS' ru
    · rw [if_neg ho] at hP; exact post_cut hS hP ρ' H' u s' hS' ru
  | exc x' δ' S' =>
    rw [e] at hP
    dsimp only at hP
    intro ρ' H' σ' cls dd s' hS' _ hx
    exact post_cutX hS hP ρ' H' cls dd s' hS' hx
theorem stuck_ok {f : Addr} {fd : FuncData} {ps : List Str} {n k : Nat} : FnOk P w M.K mg base (L2.CX P w) k f fd ps (spD M (fun _ _ => .stuck) n) :=
  ⟨fun vs H Q E h => by obtain ⟨_, ρ, S, ds, _, _, hP⟩ := h; exact hP.elim, fun A outer s H args us vs Q E _ _ _ _ h => by obtain ⟨_, ρ, S, ds, _, _, hP⟩ := h; exact hP.elim⟩
/-- what is known of a def of the table -/
structure DefSt (M : Mo) (G : Tab) (f : Nat) (d : FD) : Prop where
  ex : ∃ (x qual : Str) (params : Arguments) (body : List Stmt) (scope : Scope) (fd : FuncData) (N ps : List Str), FunD M.K x qual params body scope [] [] (M.fn f) fd ∧ fscB N ps scope = true ∧
    ps.length = d.np ∧ N.length = d.ns ∧ d.np ≤ d.ns ∧ cSs G N scope d.body body = true ∧ Binds M.K fd ps []
structure Glob (M : Mo) (P : Program) (tbl : List (Nat × FD)) (G : Tab) (mg : Str → Option Value) : Prop where
  kit : KitOk M
  con : ∀ x d, G.con.lookup x = some d → ∃ v u, mg x = some u ∧ RelV v u ∧ ∀ ρ H, Rep M ρ H d v
  free : ∀ x ∈ G.frees, mg x = none
  na : ∀ p ∈ G.na, NoAttr M.K (M.cl p.1) p.2
  fns : ∀ x f n, G.fns.lookup x = some (f, n) → mg x = some (.ref (M.fn f)) ∧ PySem.W.keepIn M.K (.ref (M.fn f)) = true ∧ ∃ d, tbl.lookup f = some d ∧ d.np = n
  cls : ∀ C f n, G.cls.lookup C = some (f, n) → mg C = some (.ref (M.cl C)) ∧ C ∈ M.cs ∧ PySem.W.keepIn M.K (.ref (M.cl C)) = true ∧ Mk M.K (M.cl C) (M.fn f) ∧ ∃ d, tbl.lookup f = some d ∧ d.np = n
  csI : ∀ C ∈ G.cs, C ∈ M.cs ∧ mg C = some (.ref (M.cl C))
  xsI : ∀ C ns, G.xs.lookup C = some ns → ∀ (w : World) (base : Heap), XAt M mg P w base G.xf C ns
  xcI : ∀ C, G.xc.contains C = true → XcAt M mg (G.xs.map (·.1)) C
  dfs : ∀ f d, tbl.lookup f = some d → DefSt M G f d
  msI : ∀ C m f n, G.ms.lookup (C, m) = some (f, n) → C ∈ M.cs ∧ Meth M.K (M.cl C) m (M.fn f) ∧ ∃ d, tbl.lookup f = some d ∧ d.np = n
  psI : ∀ C x f, G.ps.lookup (C, x) = some f → C ∈ M.cs ∧ (∃ p', PropOf M.K (M.cl C) x p' (M.fn f)) ∧ ∃ d, tbl.lookup f = some d ∧ d.np = 1
  eqI : ∀ C ∈ G.eqs, EqAll M C
variable {tbl : List (Nat × FD)}
theorem phi_fn (g : Glob M P tbl G mg) {n : Nat} (T : TabOk M (Phi tbl n) (2 * n + 2) G P w mg base) {f : Nat} {d : FD} (h : tbl.lookup f = some d) :
    ∃ fd ps, ps.length = d.np ∧ Binds M.K fd ps [] ∧ FnOk P w M.K mg base (L2.CX P w) (2 * (n + 1) + 2) (M.fn f) fd ps (spD M (Phi tbl (n + 1) f) d.np) := by
  obtain ⟨x, qual, params, body, scope, fd, N, ps, F, h1, h2, h3, h4, h5, h6⟩ := (g.dfs f d h).ex
  refine ⟨fd, ps, h2, h6, ?_⟩
  have q := def_ok T F h1 h2 h3 h4 h5
  have e : Phi tbl (n + 1) f = runF (Phi tbl n) d := by
    funext ds S
    show (match tbl.lookup f with | some fd => runF (Phi tbl n) fd ds S | none => .stuck) = _
    rw [h]
  rw [e]
  exact q
theorem phi_ok (g : Glob M P tbl G mg) : ∀ n, TabOk M (Phi tbl n) (2 * n + 2) G P w mg base
  | 0 => ⟨g.kit, g.con, g.free, g.na, fun x f n h => by
      obtain ⟨h1, h2, d, h3, h4⟩ := g.fns x f n h
      obtain ⟨_, _, _, _, _, fd, N, ps, F, _, q2, _, _, _, q6⟩ := (g.dfs f d h3).ex
      exact ⟨h1, h2, fd, ps, by rw [q2, h4], q6, stuck_ok⟩, fun C f n h => by
      obtain ⟨h1, h2, h0, hm, d, h3, h4⟩ := g.cls C f n h
      obtain ⟨_, _, _, _, _, fd, N, ps, F, _, q2, _, _, _, q6⟩ := (g.dfs f d h3).ex
      exact ⟨h1, h2, h0, M.fn f, hm, fd, ps, by rw [q2, h4], q6, stuck_ok⟩, g.csI, by omega, fun C ns h => g.xsI C ns h w base, g.xcI, fun C m f n h => by
      obtain ⟨h1, h2, d, h3, h4⟩ := g.msI C m f n h
      obtain ⟨_, _, _, _, _, fd, N, ps, F, _, q2, _, _, _, q6⟩ := (g.dfs f d h3).ex
      exact ⟨h1, h2, fd, ps, by rw [q2, h4], q6, stuck_ok⟩, fun C x f h => by
      obtain ⟨h1, h2, d, h3, h4⟩ := g.psI C x f h
      obtain ⟨_, _, _, _, _, fd, N, ps, F, _, q2, _, _, _, q6⟩ := (g.dfs f d h3).ex
      exact ⟨h1, h2, fd, ps, by rw [q2, h4], q6, stuck_ok⟩, g.eqI⟩
  | n + 1 => by
    have T := phi_ok g n
    refine ⟨g.kit, g.con, g.free, g.na, fun x f m h => ?_, fun C f m h => ?_, g.csI, by omega, fun C ns h => g.xsI C ns h w base, g.xcI, fun C m f n' h => ?_, fun C x f h => ?_, g.eqI⟩
    · obtain ⟨h1, h2, d, h3, h4⟩ := g.fns x f m h
      obtain ⟨fd, ps, q1, q2, q3⟩ := phi_fn g T h3
      subst h4
      exact ⟨h1, h2, fd, ps, q1, q2, q3⟩
    · obtain ⟨h1, h2, h0, hm, d, h3, h4⟩ := g.cls C f m h
      obtain ⟨fd, ps, q1, q2, q3⟩ := phi_fn g T h3
      subst h4
      exact ⟨h1, h2, h0, M.fn f, hm, fd, ps, q1, q2, q3⟩
    · obtain ⟨h1, h2, d, h3, h4⟩ := g.msI C m f n' h
      obtain ⟨fd, ps, q1, q2, q3⟩ := phi_fn g T h3
      subst h4
      exact ⟨h1, h2, fd, ps, q1, q2, q3⟩
    · obtain ⟨h1, h2, d, h3, h4⟩ := g.psI C x f h
      obtain ⟨fd, ps, q1, q2, q3⟩ := phi_fn g T h3
      rw [h4] at q1 q3
      exact ⟨h1, h2, fd, ps, q1, q2, q3⟩
end
end Py

set_option Elab.async false
set_option linter.all false
set_option maxRecDepth 100000
set_option maxHeartbeats 4000000
/-! Part U: what the head tells. -/
namespace Py
open PySem PySem.Spec PyProof.Rows L2
theorem mem_lookN {β : Type} : ∀ {l : List (Nat × β)} {f : Nat} {d : β}, l.lookup f = some d → (f, d) ∈ l
  | [], _, _, h => by cases h
  | (g, e) :: l, f, d, h => by
    rw [List.lookup_cons] at h
    cases hf : f == g with
    | true =>
      rw [hf] at h
      cases h
      rw [beq_iff_eq] at hf
      subst hf
      exact List.mem_cons_self ..
    | false =>
      rw [hf] at h
      exact List.mem_cons_of_mem _ (mem_lookN h)
/-- how a def binds its arguments -/
def BindD (d : He.DefD) (ps : List Str) : Prop := ∀ (kV doc pm : Value) (an : Option Addr) (cdv ct : Value) (us : List Value), us.length = ps.length → bindArgs (PySem.W.fnOf d.name d.qual d.params d.body d.scope .none kV doc pm an cdv ct) ⟨us, []⟩ = pure (ps.zip us)
def dtsOf (cs : List Str) : List DT := [.non, .bl, .int, .str, .tup, .lst, .dict] ++ cs.map .cls
def tysOf (cs : List Str) : List Ty := [.int, .bool, .str, .tup, .lst] ++ cs.map .cls
/-- the address of a def: a property's getter too -/
def gad (K : PySem.W.Frag) (p : Str × Option Str) : Addr := match PySem.W.recIn K (He.fAd K p) "property" with
  | some (.ref g :: _) => g
  | _ => He.fAd K p
def toA (d : He.DefD) : He5.DefA := ⟨fun K => gad K d.at_, d.name, d.qual, d.params, d.body, d.scope, d.dfl, d.kwd⟩
def obsY (fa : List He.Fa) (fn : List He.DefD) (K : PySem.W.Frag) : He.AlD := ((fa.all fun f => f.ok K) && fn.all fun d => (toA d).ok K, fn.map fun d => He5.fnA K (gad K d.at_))
def SaysY (fa : List He.Fa) (fn : List He.DefD) (K : PySem.W.Frag) : Prop := obsY fa fn K = He.valD fn
theorem SaysY.defs {fa : List He.Fa} {fn : List He.DefD} {K : PySem.W.Frag} (c : SaysY fa fn K) {d : He.DefD} (h : d ∈ fn) : ∃ fd, FunD K d.name d.qual d.params d.body d.scope (d.dvs K) (d.kws K) (gad K d.at_) fd := by
  have c1 : ((fa.all fun f => f.ok K) && fn.all fun d => (toA d).ok K) = true := congrArg Prod.fst c
  have c2 : fn.map (fun d => He5.fnA K (gad K d.at_)) = fn.map He.DefD.val := congrArg Prod.snd c
  rw [Bool.and_eq_true] at c1
  have e := List.map_inj_left.mp c2 d h
  exact He5.DefA.funD (d := toA d) e (List.all_eq_true.mp c1.2 d h)
def mof (K : PySem.W.Frag) (fn : List (Nat × He.DefD)) (cs : List Str) : Mo := ⟨K, fun C => He.ga K C, fun f => (match fn.lookup f with
  | some d => gad K d.at_
  | none => 0), cs⟩
def insB (K : PySem.W.Frag) (C : Str) : Bool := (He.Fa.cls C).ok K && He.eqO (PySem.W.findIn K (.ref (He.ga K C)) "__class__") (some (some (.builtin "object.__class__"))) && He.eqO (PySem.W.specialIn K (.builtin "object.__class__") "__get__") (some (some (.builtin "getset_descriptor.__get__")))
  && decide (PySem.W.takesIn K (.builtin "object.__class__") = some true) && decide (PySem.W.mroIn K (He.ga K C) (.type "object") = some true)
def kitB (K : PySem.W.Frag) (fn : List (Nat × He.DefD)) (cs : List Str) : Bool := cs.all (insB K) && (dtsOf cs).all fun t => (tysOf cs).all fun u => decide (PySem.W.kitOne K (dtV (mof K fn cs) t) (tyW (mof K fn cs) u) = some (isTyT t u))
theorem kit_ok {K : PySem.W.Frag} {fn : List (Nat × He.DefD)} {cs : List Str} (h : kitB K fn cs = true) : KitOk (mof K fn cs) := by
  unfold kitB at h
  rw [Bool.and_eq_true, List.all_eq_true, List.all_eq_true] at h
  obtain ⟨h1, h2⟩ := h
  refine ⟨fun t u ht hu => ?_, fun C hC => ?_⟩
  · have q := h2 t (by
      unfold dtsOf
      cases t with
      | cls C => exact List.mem_append_right _ (List.mem_map.mpr ⟨C, ht, rfl⟩)
      | _ => simp)
    rw [List.all_eq_true] at q
    exact of_decide_eq_true (q u (by
      unfold tysOf
      cases u with
      | cls C => exact List.mem_append_right _ (List.mem_map.mpr ⟨C, hu, rfl⟩)
      | _ => simp))
  · have q := h1 C hC
    unfold insB at q
    simp only [Bool.and_eq_true, decide_eq_true_eq] at q
    obtain ⟨⟨⟨⟨q1, q2⟩, q3⟩, q4⟩, q5⟩ := q
    exact ⟨He.cls_ok q1, He.eqO_ok q2, He.eqO_ok q3, q4, q5⟩
/-- a constant of the module -/
def conB (K : PySem.W.Frag) (p : Str × D) : Bool := match p.2 with
  | .int i => (He.Fa.int p.1 i).ok K
  | .tup ds => (match intsD ds with
    | some is => (He.Fa.glo p.1).ok K && He.tupB K p.1 (is.map He.Dv.int) && (match K.lookup (He.ga K p.1) with
      | some o => o.dict.isNone
      | none => false)
    | none => false)
  | _ => false
theorem reps_of_ints {M : Mo} {ρ : Rho} {H : Hp} : ∀ {ds : List D} {is : List Int}, intsD ds = some is → Reps M ρ H ds (is.map V.int)
  | [], is, h => by rw [intsD] at h; cases h; exact Reps.nil
  | d :: ds, is, h => by
    cases d with
    | int i =>
      rw [intsD] at h
      obtain ⟨js, e1, rfl⟩ := Option.map_eq_some_iff.mp h
      exact Reps.cons rep_int (reps_of_ints e1)
    | _ => simp [intsD] at h
theorem con_of {K : PySem.W.Frag} {fn : List (Nat × He.DefD)} {cs : List Str} {h : Heap} {mg : Str → Option Value} (X : K.In h) (Gn : h.Ns mainGlobals mg) {x : Str} {d : D} (c : conB K (x, d) = true) :
    ∃ v u, mg x = some u ∧ RelV v u ∧ ∀ ρ H, Rep (mof K fn cs) ρ H d v := by
  unfold conB at c
  dsimp only at c
  split at c
  · obtain ⟨t, e⟩ := He.int_ok X Gn c
    exact ⟨.int _, _, e, ⟨t, rfl⟩, fun _ _ => rep_int⟩
  · split at c
    · rename_i ds is e1
      rw [Bool.and_eq_true, Bool.and_eq_true] at c
      obtain ⟨⟨c, c3⟩, c4⟩ := c
      refine ⟨.ref (He.ga K x), _, He.glo_ok X Gn c, rfl, fun ρ H => ?_⟩
      rw [Rep]
      refine ⟨He.ga K x, is.map V.int, rfl, .inr ⟨fun H' => ?_, ?_⟩, reps_of_ints e1⟩
      rotate_left
      · split at c4
        · rename_i o eo
          exact ⟨o, eo, Option.isNone_iff_eq_none.mp c4⟩
        · cases c4
      have q := He.tupB_ok c3 H'
      rw [List.map_map] at q
      exact q
    · cases c
  · cases c
/-! ### own error classes -/
def isNoneV : Value → Bool
  | .none => true
  | _ => false
def parB (ns : List Str) (a : Arguments) : Bool := a.posonlyargs.isEmpty && a.vararg.isNone && a.kwonlyargs.isEmpty && a.kw_defaults.isEmpty && a.kwarg.isNone && a.defaults.isEmpty && (match a.args, ns with
  | [x, y], [f] => decide (x.arg = ("self" : Str)) && x.annotation.isNone && decide (y.arg = ("index" : Str)) && y.annotation.isNone && decide (f = ("index" : Str))
  | [x, y, z], [f, g] => decide (x.arg = ("self" : Str)) && x.annotation.isNone && decide (y.arg = ("line" : Str)) && y.annotation.isNone && decide (z.arg = ("word" : Str)) && z.annotation.isNone && decide (f = ("line" : Str)) && decide (g = ("word" : Str))
  | _, _ => false)
theorem par_binds {K : PySem.W.Frag} {ns : List Str} {name qual : Str} {params : Arguments} {body : List Stmt} {scope : Scope} {kV doc pm cdv ct : Value} {an : Option Addr} {cc : Addr} (h : parB ns params = true) :
    Binds K (PySem.W.ksFn name qual params body scope .none kV doc pm an cdv ct cc) (("self" : Str) :: ns) [] ∧ (∃ ar : Arg, (params.posonlyargs ++ params.args).head? = some ar ∧ ar.arg = ("self" : Str)) ∧ (ns.length = 1 ∨ ns.length = 2) ∧ (ns = [("index" : Str)] ∨ ns = [("line" : Str), ("word" : Str)]) := by
  obtain ⟨po, as, va, ko, kd, kw, df⟩ := params
  unfold parB at h
  simp only [Bool.and_eq_true, List.isEmpty_iff, Option.isNone_iff_eq_none] at h
  obtain ⟨⟨⟨⟨⟨⟨rfl, rfl⟩, rfl⟩, rfl⟩, rfl⟩, rfl⟩, h⟩ := h
  split at h
  · rename_i x y f
    obtain ⟨xa, xn, xp⟩ := x
    obtain ⟨ya, yn, yp⟩ := y
    simp only [Bool.and_eq_true, decide_eq_true_eq, Option.isNone_iff_eq_none] at h
    obtain ⟨⟨⟨⟨rfl, rfl⟩, rfl⟩, rfl⟩, rfl⟩ := h
    exact ⟨.all fun us hl => match us, hl with | [_, _], _ => rfl, ⟨_, rfl, rfl⟩, .inl rfl, .inl rfl⟩
  · rename_i x y z f g
    obtain ⟨xa, xn, xp⟩ := x
    obtain ⟨ya, yn, yp⟩ := y
    obtain ⟨za, zn, zp⟩ := z
    simp only [Bool.and_eq_true, decide_eq_true_eq, Option.isNone_iff_eq_none] at h
    obtain ⟨⟨⟨⟨⟨⟨⟨rfl, rfl⟩, rfl⟩, rfl⟩, rfl⟩, rfl⟩, rfl⟩, rfl⟩ := h
    exact ⟨.all fun us hl => match us, hl with | [_, _, _], _ => rfl, ⟨_, rfl, rfl⟩, .inr rfl, .inr rfl⟩
  · cases h
def oexB (K : PySem.W.Frag) (C : Addr) : Bool := (match K.lookup C with
  | some ⟨.type "type", _, .cls cd, sl⟩ => (match cd.mro, sl.toList with
    | .ref C' :: bm, [_, _, _, _, some (.builtin n), _] => C' == C && n == "ValueError.__new__" && !cd.hasDel && cd.hasDict && PySem.HandSPX.refsVE bm
    | _, _ => false)
  | _ => false) && He.eqO (PySem.W.findIn K (.ref C) "__setattr__") (some (some (.builtin "object.__setattr__"))) && decide (PySem.W.subIn K (.ref C) (.type "BaseException") = some true) && decide (PySem.W.typeIn K (.ref C) = some (.type "type")) && PySem.W.keepIn K (.ref C)
theorem oex_of {K : PySem.W.Frag} {C : Addr} (q : oexB K C = true) : OexC K C := by
  unfold oexB at q
  simp only [Bool.and_eq_true, decide_eq_true_eq] at q
  obtain ⟨⟨⟨⟨q, q1⟩, q2⟩, q3⟩, q4⟩ := q
  refine ⟨?_, He.eqO_ok q1, q2, q3, q4⟩
  split at q
  · rename_i dd cd sl ho
    split at q
    · rename_i C' bm k0 k1 k2 k3 n k5 hm hs
      simp only [Bool.and_eq_true, beq_iff_eq, Bool.not_eq_true'] at q
      obtain ⟨⟨⟨⟨rfl, rfl⟩, hdel⟩, hdict⟩, ht⟩ := q
      obtain ⟨nm, bs, mro, ns, qn, hd, sn, sub, ab, col, del⟩ := cd
      dsimp only at hm hdel hdict
      subst hm hdel hdict
      have hsl : sl = #[k0, k1, k2, k3, some (.builtin "ValueError.__new__"), k5] := by
        obtain ⟨l⟩ := sl
        simp only at hs
        rw [hs]
      subst hsl
      exact ⟨nm, qn, ns, bs, bm, sn, sub, ab, col, dd, k0, k1, k2, k3, k5, ho, ht⟩
    · cases q
  · cases q
def asgsB : List Str → List Stmt → Bool
  | [], [] => true
  | f :: fs, st :: sts => SupX.isAsg "self" f f st && asgsB fs sts
  | _, _ => false
theorem asgs_ok : ∀ {fs : List Str} {sts : List Stmt}, asgsB fs sts = true → sts.length = fs.length ∧ ∀ (i : Nat) (st : Stmt) (f : Str), sts[i]? = some st → fs[i]? = some f → SupX.isAsg "self" f f st = true
  | [], [], _ => ⟨rfl, fun i st f h => by simp at h⟩
  | f :: fs, st :: sts, h => by
    simp only [asgsB, Bool.and_eq_true] at h
    obtain ⟨h1, h2⟩ := asgs_ok h.2
    refine ⟨by simp [h1], fun i s g e1 e2 => ?_⟩
    cases i with
    | zero => simp at e1 e2; subst e1 e2; exact h.1
    | succ i => exact h2 i s g (by simpa using e1) (by simpa using e2)
  | [], _ :: _, h => by simp [asgsB] at h
  | _ :: _, [], h => by simp [asgsB] at h
/-- the file of a code object -/
def fileB (P : Program) (K : PySem.W.Frag) (cda : Addr) : Bool := match K.lookup cda with
  | some ⟨_, _, .fields vs, _⟩ => (match (vs[2]? : Option Value) with
    | some (Value.str file _) => (P.main.file : Str) == file
    | _ => false)
  | _ => false
theorem file_ok {P : Program} {K : PySem.W.Frag} {cda : Addr} (h : fileB P K cda = true) : ∃ ccl cdd vs ccs file tf, K.lookup cda = some ⟨ccl, cdd, .fields vs, ccs⟩ ∧ vs[2]? = some (.str file tf) ∧ ((P.main.file : Str) == file) = true := by
  unfold fileB at h
  split at h
  · rename_i a b vs c e
    split at h
    · rename_i file tf e2
      exact ⟨a, b, vs, c, file, tf, e, e2, h⟩
    · cases h
  · cases h
def cellB (K : PySem.W.Frag) (cc C : Addr) : Bool := match K.lookup cc with
  | some ⟨_, _, .cell (some (.ref D)), _⟩ => D == C
  | _ => false
theorem cell_ok {K : PySem.W.Frag} {cc C : Addr} (h : cellB K cc C = true) : ∃ cl cld csl, K.lookup cc = some ⟨cl, cld, .cell (some (.ref C)), csl⟩ := by
  unfold cellB at h
  split at h
  · rename_i a b D c e
    rw [beq_iff_eq] at h
    subst h
    exact ⟨a, b, c, e⟩
  · cases h
/-- its __init__ -/
def fnB (P : Program) (K : PySem.W.Frag) (C : Addr) (ns fl : List Str) (fd : FuncData) : Bool := match fd.body, fd.closure, fd.code with
  | .stmts (s0 :: rest), [(cn, cc)], .ref cda => decide (cn = ("__class__" : Str)) && (fd.globals == mainGlobals) && (fd.builtins == builtinsNs) && isNoneV fd.defaults && PySem.W.codeIn K (.ref cda) fd.qualname && parB ns fd.params
    && NdefX.nscB ((("self" : Str) :: ns) ++ [("__class__" : Str)]) (("self" : Str) :: ns) ["__class__"] fd.scope && decide (fd.scope.names.lookup ("super" : Str) = some .globalImplicit) && SupX.isSup s0 && asgsB ns rest && fileB P K cda && cellB K cc C
    && decide (PySem.W.mroIn K C (.ref C) = some true) && (P.main.scope.names.lookup ("super" : Str)).isNone && He.eqO (PySem.W.ks_superIn K C C "__init__") (some (some (.builtin "ValueError.__init__"))) && He.eqO (PySem.W.nsIn K cStatics "thirdparty.any") (some none)
    && decide (PySem.W.subIn K (.ref C) (.type "ValueError") = some true) && oexB K C && ns.all fl.contains
  | _, _, _ => false
theorem fn_ok {P : Program} {w : World} {K : PySem.W.Frag} {mg : Str → Option Value} {base : Heap} {C fI : Addr} {ns fl : List Str} {fd : FuncData} (h : fnB P K C ns fl fd = true) (hl : ∃ oc od osl, K.lookup fI = some ⟨oc, od, .func fd, osl⟩) (hs : mg "super" = none)
    (hno : ∀ f ∈ fl, PySem.W.findIn K (.ref C) f = some none) : 1 ≤ ns.length ∧ ns.length ≤ 2 ∧ OexC K C ∧ Binds K fd (("self" : Str) :: ns) [] ∧ FnOk P w K mg base (L2.CX P w) 1 fI fd (("self" : Str) :: ns) (SupX.spSup C ns) := by
  unfold fnB at h
  split at h
  · rename_i s0 rest cn cc cda hb hc hd
    simp only [Bool.and_eq_true, decide_eq_true_eq, beq_iff_eq, Option.isNone_iff_eq_none] at h
    obtain ⟨⟨⟨⟨⟨⟨⟨⟨⟨⟨⟨⟨⟨⟨⟨⟨⟨⟨h1, h2⟩, h3⟩, h4⟩, h5⟩, h6⟩, h7⟩, h8⟩, h9⟩, h10⟩, h11⟩, h12⟩, h13⟩, h14⟩, h15⟩, h16⟩, h17⟩, h18⟩, h19⟩ := h
    obtain ⟨nm, qn, pa, bo, sc, gl, cl, df, kd, doc, pm, an, co, ct, bl⟩ := fd
    dsimp only at hb hc hd h2 h3 h4 h5 h6 h7 h8
    subst hb hc hd h1 h2 h3
    have hdf : df = .none := by unfold isNoneV at h4; split at h4 <;> first | rfl | cases h4
    subst hdf
    obtain ⟨b1, b2, b3, b4⟩ := par_binds (K := K) (name := nm) (qual := qn) (body := s0 :: rest) (scope := sc) (kV := kd) (doc := doc) (pm := pm) (cdv := .ref cda) (ct := ct) (an := an) (cc := cc) h6
    obtain ⟨a1, a2⟩ := asgs_ok h10
    have T : SupX.SupC P K mg C fI cc cda "self" (PySem.W.ksFn nm qn pa (s0 :: rest) sc .none kd doc pm an (.ref cda) ct cc) := ⟨oex_of h18, hl, b2, file_ok h11, cell_ok h12, h13, hs, by rw [h14]; rfl, He.eqO_ok h15, He.eqO_ok h16, h17⟩
    refine ⟨by omega, by omega, oex_of h18, b1, ?_⟩
    refine SupX.fn_sup T h5 (NdefX.nscope_by h7) h8 rfl b3 (fun f hf => hno f (List.contains_iff_mem.mp (List.all_eq_true.mp h19 f hf))) ?_ rfl h9 a1 a2
    intro x hx
    rcases b4 with rfl | rfl
    · simp at hx; rcases hx with rfl | rfl <;> exact ⟨by decide, by decide⟩
    · simp at hx; rcases hx with rfl | rfl | rfl <;> exact ⟨by decide, by decide⟩
  · cases h
def ecB (K : PySem.W.Frag) (C : Addr) : Bool := He.eqO (PySem.W.findIn K (.ref C) "__getattribute__") (some (some (.builtin "BaseException.__getattribute__"))) && He.eqO (PySem.W.findIn K (.ref C) "__getattr__") (some none) && decide (PySem.W.subIn K (.ref C) (.type "BaseException") = some true) && PySem.W.hasDictIn K C
  && He.eqO (PySem.W.findIn K (.ref C) "__class__") (some (some (.builtin "object.__class__"))) && He.eqO (PySem.W.specialIn K (.builtin "object.__class__") "__get__") (some (some (.builtin "getset_descriptor.__get__"))) && decide (PySem.W.takesIn K (.builtin "object.__class__") = some true) && decide (PySem.W.mroIn K C (.type "object") = some true)
theorem ec_ok {K : PySem.W.Frag} {C : Addr} (h : ecB K C = true) : ExcC K C ∧ XfC K C := by
  unfold ecB at h
  simp only [Bool.and_eq_true, decide_eq_true_eq] at h
  obtain ⟨⟨⟨⟨⟨⟨⟨h1, h2⟩, h3⟩, h4⟩, h5⟩, h6⟩, h7⟩, h8⟩ := h
  exact ⟨⟨He.eqO_ok h1, He.eqO_ok h2, h3, h4, He.eqO_ok h5, He.eqO_ok h6, h7, h8⟩, ⟨He.eqO_ok h1, He.eqO_ok h2, h3, h4⟩⟩
def xinB (P : Program) (K : PySem.W.Frag) (fl : List Str) (p : Str × List Str) : Bool := (He.Fa.glo p.1).ok K && PySem.W.keepIn K (.ref (He.ga K p.1)) && decide (PySem.W.subIn K (.ref (He.ga K p.1)) (.type "BaseException") = some true) && decide (PySem.W.typeIn K (.ref (He.ga K p.1)) = some (.type "type"))
  && ecB K (He.ga K p.1) && fl.all (fun f => He.eqO (PySem.W.findIn K (.ref (He.ga K p.1)) f) (some none))
  && (if p.2.isEmpty then PySem.W.excIn K (He.ga K p.1) [.type "ValueError", .type "Exception", .type "BaseException", .type "object"] "ValueError.__new__" else (He.Fa.free "super").ok K && (match PySem.W.findIn K (.ref (He.ga K p.1)) "__init__" with
    | some (some (.ref fI)) => decide (PySem.W.typeIn K (.ref fI) = some (.type "function")) && (match K.lookup fI with
      | some ⟨_, _, .func fd, _⟩ => fnB P K (He.ga K p.1) p.2 fl fd
      | _ => false)
    | _ => false))
theorem xin_ok {P : Program} {w : World} {K : PySem.W.Frag} {fn : List (Nat × He.DefD)} {cs : List Str} {fl : List Str} {h : Heap} {mg : Str → Option Value} {base : Heap} (X : K.In h) (Gn : h.Ns mainGlobals mg) {C : Str} {ns : List Str} (q : xinB P K fl (C, ns) = true) : XAt (mof K fn cs) mg P w base fl C ns := by
  unfold xinB at q
  simp only [Bool.and_eq_true, decide_eq_true_eq] at q
  obtain ⟨⟨⟨⟨⟨⟨q1, q2⟩, q3⟩, q4⟩, q5⟩, q6⟩, q7⟩ := q
  obtain ⟨e1, e2⟩ := ec_ok q5
  have nf : ∀ f ∈ fl, PySem.W.findIn K (.ref (He.ga K C)) f = some none := fun f hf => He.eqO_ok (List.all_eq_true.mp q6 f hf)
  refine ⟨He.glo_ok X Gn q1, q2, q3, q4, ?_, e1, e2, nf⟩
  by_cases hn : ns.isEmpty = true
  · rw [if_pos hn] at q7
    exact .inl ⟨List.isEmpty_iff.mp hn, q7⟩
  · rw [if_neg hn, Bool.and_eq_true] at q7
    obtain ⟨q7, q8⟩ := q7
    split at q8
    · rename_i fI hi
      simp only [Bool.and_eq_true, decide_eq_true_eq] at q8
      obtain ⟨q9, q8⟩ := q8
      split at q8
      · rename_i a b fd c hl
        obtain ⟨z1, z2, z3, z4, z5⟩ := fn_ok (w := w) (base := base) (fI := fI) q8 ⟨a, b, c, hl⟩ (He.free_ok X Gn q7) nf
        exact .inr ⟨z1, z2, fI, fd, _, z3, hi, q9, z4, z5⟩
      · cases q8
    · cases q8
def xciB (K : PySem.W.Frag) (xs : List Str) (C : Str) : Bool := (He.Fa.glo C).ok K && xs.all fun c => decide (PySem.W.exmOne K (.ref (He.ga K c)) (.ref (He.ga K C)) = some (subX c C)) && decide (PySem.W.kitOne K (.ref (He.ga K c)) (.ref (He.ga K C)) = some (subX c C))
theorem xci_ok {K : PySem.W.Frag} {fn : List (Nat × He.DefD)} {cs : List Str} {xs : List Str} {h : Heap} {mg : Str → Option Value} (X : K.In h) (Gn : h.Ns mainGlobals mg) {C : Str} (q : xciB K xs C = true) : XcAt (mof K fn cs) mg xs C := by
  unfold xciB at q
  rw [Bool.and_eq_true, List.all_eq_true] at q
  obtain ⟨q1, q2⟩ := q
  have q3 : ∀ c ∈ xs, PySem.W.exmOne K (.ref (He.ga K c)) (.ref (He.ga K C)) = some (subX c C) ∧ PySem.W.kitOne K (.ref (He.ga K c)) (.ref (He.ga K C)) = some (subX c C) := fun c hc => by
    have := q2 c hc
    simp only [Bool.and_eq_true, decide_eq_true_eq] at this
    exact this
  exact ⟨He.glo_ok X Gn q1, fun c hc => (q3 c hc).1, fun c hc => (q3 c hc).2⟩
def propB (K : PySem.W.Frag) (C : Addr) (x : Str) (g : Addr) : Bool := He.eqO (PySem.W.findIn K (.ref C) x) (some (some (.ref (He.ma K C x)))) && He.eqO (PySem.W.specialIn K (.ref (He.ma K C x)) "__get__") (some (some (.builtin "property.__get__")))
  && decide (PySem.W.takesIn K (.ref (He.ma K C x)) = some true) && (match PySem.W.recIn K (He.ma K C x) "property" with
    | some (.ref g' :: _) => g' == g
    | _ => false)
theorem prop_of {K : PySem.W.Frag} {C : Addr} {x : Str} {g : Addr} (h : propB K C x g = true) : PropOf K C x (He.ma K C x) g := by
  unfold propB at h
  simp only [Bool.and_eq_true, decide_eq_true_eq] at h
  obtain ⟨⟨⟨h1, h2⟩, h3⟩, h4⟩ := h
  refine ⟨He.eqO_ok h1, He.eqO_ok h2, h3, ?_⟩
  split at h4
  · rename_i g' rest e
    rw [beq_iff_eq] at h4
    subst h4
    exact ⟨rest, e⟩
  · cases h4
/-- all that is asked of the written part -/
def exB (P : Program) (G : Tab) (fn : List (Nat × He.DefD)) (K : PySem.W.Frag) : Bool := kitB K fn G.cs && G.con.all (conB K) && G.frees.all (fun x => (He.Fa.free x).ok K) && G.na.all (fun p => (He.Fa.noat p.1 p.2).ok K)
  && G.fns.all (fun p => match fn.lookup p.2.1 with
    | some d => (gad K d.at_ == He.ga K p.1) && (He.Fa.glo p.1).ok K && PySem.W.keepIn K (.ref (He.ga K p.1))
    | none => false)
  && G.cls.all (fun p => match fn.lookup p.2.1 with
    | some d => (gad K d.at_ == He.ma K (He.ga K p.1) "__init__") && (He.Fa.glo p.1).ok K && (He.Fa.mkr p.1).ok K && G.cs.contains p.1
    | none => false)
  && G.cs.all (fun C => (He.Fa.glo C).ok K)
  && G.xs.all (xinB P K G.xf) && G.xc.all (xciB K (G.xs.map (·.1)))
  && G.ms.all (fun q => match fn.lookup q.2.1 with
    | some d => (gad K d.at_ == He.ma K (He.ga K q.1.1) q.1.2) && (He.Fa.meth q.1.1 q.1.2).ok K && G.cs.contains q.1.1
    | none => false)
  && G.ps.all (fun q => match fn.lookup q.2 with
    | some d => propB K (He.ga K q.1.1) q.1.2 (gad K d.at_) && G.cs.contains q.1.1
    | none => false)
  && G.eqs.all (fun C => (dtsOf G.cs).all fun t => PySem.W.notFirst K (He.ga K C) (dtV (mof K fn G.cs) t))
/-- what is looked at of a def's text -/
structure DefC where
  N : List Str
  ps : List Str
  fd : FD
def defB (G : Tab) (d : He.DefD) (c : DefC) : Bool := d.dfl.isEmpty && d.kwd.isEmpty && fscB c.N c.ps d.scope && decide (c.ps.length = c.fd.np) && decide (c.N.length = c.fd.ns) && decide (c.fd.np ≤ c.fd.ns) && cSs G c.N d.scope c.fd.body d.body
theorem def_st {K : PySem.W.Frag} {fa : List He.Fa} {fn : List (Nat × He.DefD)} {cs : List Str} {G : Tab} (c : SaysY fa (fn.map (·.2)) K) {f : Nat} {d : He.DefD} {q : DefC} (hf : fn.lookup f = some d) (h : defB G d q = true) (hb : BindD d q.ps) : DefSt (mof K fn cs) G f q.fd := by
  unfold defB at h
  simp only [Bool.and_eq_true, decide_eq_true_eq, List.isEmpty_iff] at h
  obtain ⟨⟨⟨⟨⟨⟨h1, h2⟩, h4⟩, h5⟩, h6⟩, h7⟩, h8⟩ := h
  obtain ⟨fd, F⟩ := c.defs (List.mem_map.mpr ⟨(f, d), mem_lookN hf, rfl⟩)
  have e1 : d.dvs K = [] := by unfold He.DefD.dvs; rw [h1]; rfl
  have e2 : d.kws K = [] := by unfold He.DefD.kws; rw [h2]; rfl
  rw [e1, e2] at F
  have ef : (mof K fn cs).fn f = gad K d.at_ := by show (match fn.lookup f with | some d => gad K d.at_ | none => 0) = _; rw [hf]
  exact ⟨d.name, d.qual, d.params, d.body, d.scope, fd, q.N, q.ps, by rw [ef]; exact F, h4, h5, h6, h7, h8, FunD.bindsN F hb⟩
theorem all_lookup {α : Type} {l : List (Str × α)} {P : Str × α → Bool} (h : l.all P = true) : ∀ {x : Str} {a : α}, l.lookup x = some a → P (x, a) = true := fun {x a} e => List.all_eq_true.mp h _ (PySem.mem_of_lookup e)
theorem memX_lookup {β : Type} : ∀ {l : List ((Str × Str) × β)} {x : Str × Str} {a : β}, l.lookup x = some a → (x, a) ∈ l
  | [], _, _, h => by cases h
  | (y, b) :: l, x, a, h => by
    rw [List.lookup_cons] at h
    cases hf : x == y with
    | true =>
      rw [hf] at h
      cases h
      rw [beq_iff_eq] at hf
      subst hf
      exact List.mem_cons_self ..
    | false =>
      rw [hf] at h
      exact List.mem_cons_of_mem _ (memX_lookup h)
theorem allX_lookup {β : Type} {l : List ((Str × Str) × β)} {P : (Str × Str) × β → Bool} (h : l.all P = true) {x : Str × Str} {a : β} (e : l.lookup x = some a) : P (x, a) = true := List.all_eq_true.mp h _ (memX_lookup e)
theorem glob_of {P : Program} {K : PySem.W.Frag} {fa : List He.Fa} {fn : List (Nat × He.DefD)} {G : Tab} {h : Heap} {mg : Str → Option Value} {tbl : List (Nat × FD)} (X : K.In h) (Gn : h.Ns mainGlobals mg) (c : SaysY fa (fn.map (·.2)) K) (ex : exB P G fn K = true)
    (hd : ∀ f d, tbl.lookup f = some d → ∃ dd q, fn.lookup f = some dd ∧ q.fd = d ∧ defB G dd q = true ∧ BindD dd q.ps) (hf : G.fns.all (fun p => decide ((tbl.lookup p.2.1).map FD.np = some p.2.2)) = true) (hc : G.cls.all (fun p => decide ((tbl.lookup p.2.1).map FD.np = some p.2.2)) = true)
    (hm : G.ms.all (fun p => decide ((tbl.lookup p.2.1).map FD.np = some p.2.2)) = true) (hp : G.ps.all (fun p => decide ((tbl.lookup p.2).map FD.np = some 1)) = true) :
    Glob (mof K fn G.cs) P tbl G mg := by
  unfold exB at ex
  simp only [Bool.and_eq_true] at ex
  obtain ⟨⟨⟨⟨⟨⟨⟨⟨⟨⟨⟨e1, e2⟩, e3⟩, e4⟩, e5⟩, e6⟩, e7⟩, e8⟩, e9⟩, e10⟩, e11⟩, e12⟩ := ex
  refine ⟨kit_ok e1, fun x d hx => con_of X Gn (all_lookup e2 hx), fun x hx => He.free_ok X Gn (List.all_eq_true.mp e3 x hx), fun p hp => He.noat_ok (List.all_eq_true.mp e4 p hp), fun x f n hx => ?_, fun C f n hx => ?_, fun C hC => ⟨hC, He.glo_ok X Gn (List.all_eq_true.mp e7 C hC)⟩, fun C ns hx w base => xin_ok X Gn (all_lookup e8 hx), fun C hC => xci_ok X Gn (List.all_eq_true.mp e9 C (List.contains_iff_mem.mp hC)), fun f d hx => ?_, fun C m f n hx => ?_, fun C x f hx => ?_, fun C hC t ht => ?_⟩
  · have q := all_lookup e5 hx
    have q2 := of_decide_eq_true (all_lookup hf hx)
    dsimp only at q q2
    cases hd2 : fn.lookup f with
    | none => rw [hd2] at q; cases q
    | some d =>
      rw [hd2] at q
      simp only [Bool.and_eq_true, beq_iff_eq] at q
      obtain ⟨⟨q3, q4⟩, q5⟩ := q
      have ef : (mof K fn G.cs).fn f = He.ga K x := by
        show (match fn.lookup f with | some d => gad K d.at_ | none => 0) = _
        rw [hd2]
        exact q3
      rw [ef]
      obtain ⟨d', h1, h2⟩ := Option.map_eq_some_iff.mp q2
      exact ⟨He.glo_ok X Gn q4, q5, d', h1, h2⟩
  · have q := all_lookup e6 hx
    have q2 := of_decide_eq_true (all_lookup hc hx)
    dsimp only at q q2
    cases hd2 : fn.lookup f with
    | none => rw [hd2] at q; cases q
    | some d =>
      rw [hd2] at q
      simp only [Bool.and_eq_true, beq_iff_eq] at q
      obtain ⟨⟨⟨q3, q4⟩, q5⟩, q6⟩ := q
      have hm := He.mkr_ok q5
      have ef : (mof K fn G.cs).fn f = He.ma K (He.ga K C) "__init__" := by
        show (match fn.lookup f with | some d => gad K d.at_ | none => 0) = _
        rw [hd2]
        exact q3
      rw [ef]
      obtain ⟨d', h1, h2⟩ := Option.map_eq_some_iff.mp q2
      exact ⟨He.glo_ok X Gn q4, List.contains_iff_mem.mp q6, hm.kp, hm, d', h1, h2⟩
  · obtain ⟨dd, q, h1, rfl, h3, h4⟩ := hd f d hx
    exact def_st c h1 h3 h4
  · have q := allX_lookup e10 hx
    have q2 := of_decide_eq_true (allX_lookup hm hx)
    dsimp only at q q2
    cases hd2 : fn.lookup f with
    | none => rw [hd2] at q; cases q
    | some d =>
      rw [hd2] at q
      simp only [Bool.and_eq_true, beq_iff_eq] at q
      obtain ⟨⟨q3, q4⟩, q6⟩ := q
      have ef : (mof K fn G.cs).fn f = He.ma K (He.ga K C) m := by
        show (match fn.lookup f with | some d => gad K d.at_ | none => 0) = _
        rw [hd2]
        exact q3
      rw [ef]
      obtain ⟨d', h1, h2⟩ := Option.map_eq_some_iff.mp q2
      exact ⟨List.contains_iff_mem.mp q6, He.meth_ok q4, d', h1, h2⟩
  · have q := allX_lookup e11 hx
    have q2 := of_decide_eq_true (allX_lookup hp hx)
    dsimp only at q q2
    cases hd2 : fn.lookup f with
    | none => rw [hd2] at q; cases q
    | some d =>
      rw [hd2] at q
      simp only [Bool.and_eq_true] at q
      obtain ⟨q3, q6⟩ := q
      have ef : (mof K fn G.cs).fn f = gad K d.at_ := by
        show (match fn.lookup f with | some d => gad K d.at_ | none => 0) = _
        rw [hd2]
      rw [ef]
      obtain ⟨d', h1, h2⟩ := Option.map_eq_some_iff.mp q2
      exact ⟨List.contains_iff_mem.mp q6, ⟨_, prop_of q3⟩, d', h1, h2⟩
  · have q := List.all_eq_true.mp (List.all_eq_true.mp e12 C hC) t (by
      unfold dtsOf
      cases t with
      | cls C => exact List.mem_append_right _ (List.mem_map.mpr ⟨C, ht, rfl⟩)
      | _ => simp)
    exact q
/-- the addresses that are looked at: the cells of functions too -/
def asE (g : Addr → Option Obj) (n : Nat) : List Addr := cStatics :: He.asD g n ++ (He.asD g n).flatMap fun a => match g a with
  | some o => (match o.data with
    | .func fd => fd.closure.map (·.2)
    | _ => [])
  | none => []
/-- the head's hook with one more question -/
def hookE (n : Nat) (fa : List He.Fa) (fn : List He.DefD) (ex : PySem.W.Frag → Bool) : PySem.W.Hook where
  α := He.AlD × Bool
  obs := fun s => (obsY fa fn (He.frG s.heap.get? (asE s.heap.get? n)), ex (He.frG s.heap.get? (asE s.heap.get? n)))
  val := fun _ => (He.valD fn, true)
  says := fun _ h => ∃ K : PySem.W.Frag, K.In h ∧ SaysY fa fn K ∧ ex K = true
  of := fun _ _ e => ⟨_, He.frG_in, congrArg Prod.fst e, congrArg Prod.snd e⟩
  keeps := fun _ _ _ ⟨K, hK, c⟩ k => ⟨K, PySem.W.Frag.In.keeps hK k, c⟩
end Py

set_option Elab.async false
set_option linter.all false
set_option maxRecDepth 100000
set_option maxHeartbeats 4000000
/-! Part W: the end of a law's row. -/
namespace Py
open PySem PySem.Spec PyProof.Rows L2
theorem script_reps {M : Mo} {ρ : Rho} {H : Hp} : ∀ (ns : List Int), Reps M ρ H (ns.map D.int) (ns.map V.int)
  | [] => Reps.nil
  | n :: ns => Reps.cons rep_int (script_reps ns)
theorem script_rep {M : Mo} {K : PySem.W.Frag} (hK : M.K = K) {H : Hp} {a : Addr} {ns : List Int} (h : SqL K H a (ns.map V.int)) : ∃ d, (d = .scr (ns.map .int) ∨ d = .lst (ns.map .int)) ∧ Rep M ⟨[], []⟩ H d (.ref a) := by
  subst hK
  have na : a ∉ (⟨[], []⟩ : Rho) := fun z => by rcases z with z | z <;> cases z
  rcases h with (h | ⟨o, h⟩) | h
  · refine ⟨.lst (ns.map .int), .inr rfl, ?_⟩
    rw [Rep]
    exact ⟨a, _, rfl, ⟨na, h⟩, script_reps ns⟩
  · refine ⟨.scr (ns.map .int), .inl rfl, ?_⟩
    rw [Rep]
    exact ⟨a, _, rfl, .inl ⟨na, o, h⟩, script_reps ns⟩
  · refine ⟨.scr (ns.map .int), .inl rfl, ?_⟩
    rw [Rep]
    exact ⟨a, _, rfl, .inr fun H' => .inr h, script_reps ns⟩
theorem cx_false {P : Program} {w : World} {o : List PySem.Env} {H : Hp} {s s' : Shared} {e : Value} (h : L2.CX P w o H s (fun _ _ _ => False) e s') : False := by
  unfold L2.CX at h
  grind
end Py

set_option Elab.async false
set_option linter.all false
set_option maxRecDepth 100000
/-! the small syntax of every def. -/
namespace Lw
open PySem PySem.Spec PyProof.Rows L2 Py
def fd0 : FD := ⟨3, 3, false, (.cons (.ret (.and (.isi [.int] (.var 0)) (.and (.not (.isi [.bool] (.var 0))) (.cha .le .le (.var 1) (.var 0) (.var 2))))) .nil)⟩
def fb1_0 : Py.Sms := (.cons (.ite (.not (.call 0 (.cons (.var 3) (.cons (.con (.int 0)) (.cons (.var 1) .nil))))) (.cons (.rai "BadRates" ["index"] (.cons (.var 2) .nil)) .nil) .nil) (.cons (.asg (.nm 1) (.bin .Sub (.var 3) (.con (.int 1)))) .nil))
def fd1 : FD := ⟨1, 4, false, (.cons (.ite (.or (.not (.isi [.tup] (.var 0))) (.not (.cha .le .le (.con (.int 2)) (.bi .len (.cons (.var 0) .nil)) (.gco "MOST_STAGES" (.int 6))))) (.cons (.rai "BadRates" ["index"] (.cons (.con .non) .nil)) .nil) .nil) (.cons (.asg (.nm 1) (.gco "MOST_RATE" (.int 1000))) (.cons (.for_ (.tp (.cons (.nm 2) (.cons (.nm 3) .nil))) (.enum (.cons (.var 0) .nil)) fb1_0) .nil)))⟩
def fb2_0 : Py.Sms := (.cons (.ite (.not (.call 0 (.cons (.var 4) (.cons (.var 2) (.cons (.ite (.cmp .gt (.var 3) (.con (.int 0))) (.gco "MOST_PRICE" (.int 10000)) (.con (.int 0))) .nil))))) (.cons (.rai "BadPrices" ["index"] (.cons (.var 3) .nil)) .nil) .nil) (.cons (.asg (.nm 2) (.bin .Add (.var 4) (.con (.int 1)))) .nil))
def fd2 : FD := ⟨2, 5, false, (.cons (.ite (.or (.not (.isi [.tup] (.var 0))) (.cmp .ne (.bi .len (.cons (.var 0) .nil)) (.var 1))) (.cons (.rai "BadPrices" ["index"] (.cons (.con .non) .nil)) .nil) .nil) (.cons (.asg (.nm 2) (.con (.int 0))) (.cons (.for_ (.tp (.cons (.nm 3) (.cons (.nm 4) .nil))) (.enum (.cons (.var 0) .nil)) fb2_0) .nil)))⟩
def fb3_0 : Py.Sms := (.cons (.asg (.nm 2) (.bin .Mod (.bi .int (.cons (.bin .Add (.bin .Add (.bin .Mult (.var 2) (.con (.int 48271))) (.bin .Mod (.bi .int (.cons (.var 3) .nil)) (.con (.int 2147483629)))) (.con (.int 1))) .nil)) (.con (.int 2147483647)))) .nil)
def fd3 : FD := ⟨2, 4, true, (.cons (.asg (.nm 2) (.var 1)) (.cons (.for_ (.nm 3) (.val (.var 0)) fb3_0) (.cons (.ret (.lst true (.cons (.var 2) (.cons (.lof true (.var 0)) (.cons (.con (.int 0)) .nil))))) .nil)))⟩
def fd4 : FD := ⟨2, 3, false, (.cons (.asg (.nm 2) (.ix (.bin .Add (.ix (.var 0) (.con (.int 1))) (.lst false (.cons (.con (.int 0)) .nil))) (.bin .Mod (.bi .int (.cons (.ix (.var 0) (.con (.int 2))) .nil)) (.bi .max2 (.cons (.con (.int 1)) (.cons (.bi .len (.cons (.ix (.var 0) (.con (.int 1))) .nil)) .nil)))))) (.cons (.ite (.cmp .ge (.var 2) (.bin .Pow (.con (.int 10)) (.con (.int 18)))) (.cons (.sto (.ix (.var 0) (.con (.int 1))) (.bin .Mod (.bi .int (.cons (.ix (.var 0) (.con (.int 2))) .nil)) (.bi .len (.cons (.ix (.var 0) (.con (.int 1))) .nil))) (.bin .FloorDiv (.var 2) (.var 1))) (.cons (.ret (.bin .Mod (.bi .int (.cons (.var 2) .nil)) (.var 1))) .nil)) .nil) (.cons (.sto (.var 0) (.con (.int 0)) (.bin .Mod (.bi .int (.cons (.bin .Add (.bin .Add (.bin .Mult (.ix (.var 0) (.con (.int 0))) (.con (.int 48271))) (.bin .Mult (.var 2) (.con (.int 69621)))) (.con (.int 11))) .nil)) (.con (.int 2147483647)))) (.cons (.sto (.var 0) (.con (.int 2)) (.bin .Add (.ix (.var 0) (.con (.int 2))) (.con (.int 1)))) (.cons (.ret (.bin .Mod (.bi .int (.cons (.bin .FloorDiv (.ix (.var 0) (.con (.int 0))) (.con (.int 7))) .nil)) (.var 1))) .nil)))))⟩
def cc5_0 : Py.Tms := (.cons (.not (.call 5 (.cons (.ix (.var 0) (.var 2)) (.cons (.ix (.var 1) (.var 2)) .nil)))) .nil)
def ce5_1 : Py.Tm := (.var 2)
def fd5 : FD := ⟨2, 3, false, (.cons (.ite (.isi [.tup, .lst] (.var 1)) (.cons (.ite (.or (.not (.isi [.tup, .lst] (.var 0))) (.cmp .ne (.isi [.lst] (.var 0)) (.isi [.lst] (.var 1)))) (.cons (.ret (.con (.bl false))) .nil) .nil) (.cons (.ite (.cmp .ne (.bi .len (.cons (.var 0) .nil)) (.bi .len (.cons (.var 1) .nil))) (.cons (.ret (.con (.bl false))) .nil) .nil) (.cons (.ret (.cmp .eq (.comp false [2] (.nm 2) (.rng (.cons (.bi .len (.cons (.var 1) .nil)) .nil)) cc5_0 ce5_1) (.lst false .nil))) .nil))) .nil) (.cons (.ite (.or (.cmp .isN (.var 1) (.con .non)) (.isi [.str] (.var 1))) (.cons (.ret (.and (.cmp .eq (.var 0) (.var 1)) (.cmp .eq (.isi [.str] (.var 0)) (.isi [.str] (.var 1))))) .nil) .nil) (.cons (.ret (.and (.isi [.int] (.var 0)) (.and (.cmp .eq (.isi [.bool] (.var 0)) (.isi [.bool] (.var 1))) (.cmp .eq (.var 0) (.var 1))))) .nil)))⟩
def fd6 : FD := ⟨2, 2, false, (.cons (.ret (.ix (.var 1) (.call 4 (.cons (.var 0) (.cons (.bi .len (.cons (.var 1) .nil)) .nil))))) .nil)⟩
def fb7_0 : Py.Sms := (.cons (.ex (.bm .append (.var 5) (.cons (.bin .Add (.bin .Add (.ix (.var 5) (.var 2)) (.con (.int 1))) (.call 4 (.cons (.var 0) (.cons (.var 3) .nil)))) .nil))) (.cons (.ex (.bm .append (.var 6) (.cons (.bin .Add (.bin .Add (.ix (.var 6) (.var 2)) (.con (.int 1))) (.call 4 (.cons (.var 0) (.cons (.var 4) .nil)))) .nil))) .nil))
def fd7 : FD := ⟨1, 7, false, (.cons (.asg (.nm 1) (.bin .Add (.con (.int 2)) (.call 4 (.cons (.var 0) (.cons (.call 6 (.cons (.var 0) (.cons (.lst false (.cons (.con (.int 1)) (.cons (.con (.int 2)) (.cons (.con (.int 5)) .nil)))) .nil))) .nil))))) (.cons (.par [3, 4] (.cons (.call 6 (.cons (.var 0) (.cons (.lst false (.cons (.con (.int 3)) (.cons (.con (.int 12)) (.cons (.con (.int 190)) .nil)))) .nil))) (.cons (.call 6 (.cons (.var 0) (.cons (.lst false (.cons (.con (.int 6)) (.cons (.con (.int 60)) (.cons (.con (.int 1900)) .nil)))) .nil))) .nil))) (.cons (.par [5, 6] (.cons (.lst true (.cons (.call 6 (.cons (.var 0) (.cons (.lst false (.cons (.con (.int 0)) (.cons (.con (.int 0)) (.cons (.con (.int 1)) (.cons (.con (.int 5)) .nil))))) .nil))) .nil)) (.cons (.lst true (.cons (.con (.int 0)) .nil)) .nil))) (.cons (.for_ (.nm 2) (.rng (.cons (.bin .Sub (.var 1) (.con (.int 1))) .nil)) fb7_0) (.cons (.ret (.tup (.cons (.bi .tuple (.cons (.rev (.var 5)) .nil)) (.cons (.bi .tuple (.cons (.var 6) .nil)) .nil)))) .nil)))))⟩
def fd13 : FD := ⟨3, 3, false, (.cons (.ex (.call 1 (.cons (.var 1) .nil))) (.cons (.ex (.call 2 (.cons (.var 2) (.cons (.bi .len (.cons (.var 1) .nil)) .nil)))) (.cons (.sfl "Stages" "rows" (.var 0) (.tzip (.var 1) (.var 2))) .nil)))⟩
def wc18_0 : Py.Tm := (.cmp .gt (.var 1) (.con (.int 0)))
def wb18_1 : Py.Sms := (.cons (.par [0, 1] (.cons (.var 1) (.cons (.bin .Mod (.var 0) (.var 1)) .nil))) .nil)
def fd18 : FD := ⟨2, 2, false, (.cons (.par [0, 1] (.cons (.bi .abs (.cons (.var 0) .nil)) (.cons (.bi .abs (.cons (.var 1) .nil)) .nil))) (.cons (.whl wc18_0 wb18_1) (.cons (.ret (.var 0)) .nil)))⟩
def fd19 : FD := ⟨2, 3, false, (.cons (.asg (.nm 2) (.ite (.cmp .gt (.var 1) (.con (.int 0))) (.call 18 (.cons (.var 0) (.cons (.var 1) .nil))) (.neg (.call 18 (.cons (.var 0) (.cons (.var 1) .nil)))))) (.cons (.ret (.tup (.cons (.bin .FloorDiv (.var 0) (.var 2)) (.cons (.bin .FloorDiv (.var 1) (.var 2)) .nil)))) .nil))⟩
def fb20_0 : Py.Sms := (.cons (.ite (.or (.not (.isi [.int] (.var 1))) (.isi [.bool] (.var 1))) (.cons (.ret (.con (.bl false))) .nil) .nil) .nil)
def fd20 : FD := ⟨1, 2, false, (.cons (.ite (.or (.not (.isi [.tup] (.var 0))) (.cmp .ne (.bi .len (.cons (.var 0) .nil)) (.con (.int 2)))) (.cons (.ret (.con (.bl false))) .nil) .nil) (.cons (.for_ (.nm 1) (.val (.var 0)) fb20_0) (.cons (.ret (.and (.cmp .gt (.ix (.var 0) (.con (.int 1))) (.con (.int 0))) (.cmp .eq (.call 18 (.cons (.ix (.var 0) (.con (.int 0))) (.cons (.ix (.var 0) (.con (.int 1))) .nil))) (.con (.int 1))))) .nil)))⟩
def fd21 : FD := ⟨2, 2, false, (.cons (.ret (.call 19 (.cons (.bin .Add (.bin .Mult (.ix (.var 0) (.con (.int 0))) (.ix (.var 1) (.con (.int 1)))) (.bin .Mult (.ix (.var 1) (.con (.int 0))) (.ix (.var 0) (.con (.int 1))))) (.cons (.bin .Mult (.ix (.var 0) (.con (.int 1))) (.ix (.var 1) (.con (.int 1)))) .nil)))) .nil)⟩
def fd22 : FD := ⟨2, 2, false, (.cons (.ret (.call 19 (.cons (.bin .Mult (.ix (.var 0) (.con (.int 0))) (.ix (.var 1) (.con (.int 0)))) (.cons (.bin .Mult (.ix (.var 0) (.con (.int 1))) (.ix (.var 1) (.con (.int 1)))) .nil)))) .nil)⟩
def fd23 : FD := ⟨2, 2, false, (.cons (.ret (.cmp .lt (.bin .Mult (.ix (.var 0) (.con (.int 0))) (.ix (.var 1) (.con (.int 1)))) (.bin .Mult (.ix (.var 1) (.con (.int 0))) (.ix (.var 0) (.con (.int 1)))))) .nil)⟩
def fd25 : FD := ⟨1, 1, false, (.cons (.ret (.and (.call 20 (.cons (.var 0) .nil)) (.cha .le .le (.con (.int 0)) (.ix (.var 0) (.con (.int 0))) (.bin .Mult (.gco "MOST_WAIT" (.int 1000000000000000)) (.ix (.var 0) (.con (.int 1))))))) .nil)⟩
def fd26 : FD := ⟨1, 1, false, (.cons (.ite (.not (.call 25 (.cons (.var 0) .nil))) (.cons (.rai "BadWait" [] .nil) .nil) .nil) .nil)⟩
def fd27 : FD := ⟨2, 2, false, (.cons (.ret (.call 21 (.cons (.tup (.cons (.ix (.var 0) (.con (.int 1))) (.cons (.con (.int 1)) .nil))) (.cons (.call 22 (.cons (.tup (.cons (.ix (.var 0) (.con (.int 0))) (.cons (.con (.int 1)) .nil))) (.cons (.var 1) .nil))) .nil)))) .nil)⟩
def fb28_0 : Py.Sms := (.cons (.asg (.nm 6) (.call 27 (.cons (.var 5) (.cons (.var 1) .nil)))) (.cons (.ite (.call 23 (.cons (.var 6) (.cons (.var 3) .nil))) (.cons (.par [2, 3] (.cons (.var 4) (.cons (.var 6) .nil))) .nil) .nil) .nil))
def fd28 : FD := ⟨2, 7, false, (.cons (.par [2, 3] (.cons (.con (.int 0)) (.cons (.call 27 (.cons (.ix (.fld "Stages" "rows" (.var 0)) (.con (.int 0))) (.cons (.var 1) .nil))) .nil))) (.cons (.for_ (.tp (.cons (.nm 4) (.cons (.nm 5) .nil))) (.enum (.cons (.fld "Stages" "rows" (.var 0)) .nil)) fb28_0) (.cons (.ret (.tup (.cons (.var 3) (.cons (.var 2) .nil)))) .nil)))⟩
def fd29 : FD := ⟨2, 2, false, (.cons (.ex (.call 26 (.cons (.var 1) .nil))) (.cons (.ret (.ix (.call 28 (.cons (.var 0) (.cons (.var 1) .nil))) (.con (.int 0)))) .nil))⟩
def fd30 : FD := ⟨2, 2, false, (.cons (.ex (.call 26 (.cons (.var 1) .nil))) (.cons (.ret (.ix (.call 28 (.cons (.var 0) (.cons (.var 1) .nil))) (.con (.int 1)))) .nil))⟩
def fd31 : FD := ⟨2, 2, false, (.cons (.ret (.call 19 (.cons (.bin .Sub (.ix (.var 1) (.con (.int 1))) (.ix (.var 0) (.con (.int 1)))) (.cons (.bin .Sub (.ix (.var 0) (.con (.int 0))) (.ix (.var 1) (.con (.int 0)))) .nil)))) .nil)⟩
def wc32_0 : Py.Tm := (.con (.bl true))
def fb32_1 : Py.Sms := (.cons (.asg (.nm 5) (.call 31 (.cons (.ix (.fld "Stages" "rows" (.var 0)) (.var 2)) (.cons (.ix (.fld "Stages" "rows" (.var 0)) (.var 4)) .nil)))) (.cons (.ite (.or (.cmp .isN (.var 3) (.con .non)) (.not (.call 23 (.cons (.ix (.var 3) (.con (.int 0))) (.cons (.var 5) .nil))))) (.cons (.asg (.nm 3) (.tup (.cons (.var 5) (.cons (.var 4) .nil)))) .nil) .nil) .nil))
def wb32_2 : Py.Sms := (.cons (.asg (.nm 2) (.ix (.ix (.var 1) (.neg (.con (.int 1)))) (.con (.int 1)))) (.cons (.asg (.nm 3) (.con .non)) (.cons (.for_ (.nm 4) (.rng (.cons (.bin .Add (.var 2) (.con (.int 1))) (.cons (.bi .len (.cons (.fld "Stages" "rows" (.var 0)) .nil)) .nil))) fb32_1) (.cons (.ite (.cmp .isN (.var 3) (.con .non)) (.cons (.ret (.var 1)) .nil) .nil) (.cons (.ex (.bm .append (.var 1) (.cons (.var 3) .nil))) .nil)))))
def fd32 : FD := ⟨1, 6, false, (.cons (.asg (.nm 1) (.lst true (.cons (.tup (.cons (.tup (.cons (.con (.int 0)) (.cons (.con (.int 1)) .nil))) (.cons (.con (.int 0)) .nil))) .nil))) (.cons (.whl wc32_0 wb32_2) .nil))⟩
def fd33 : FD := ⟨1, 1, false, (.cons (.ret (.call 32 (.cons (.var 0) .nil))) .nil)⟩
def wc34_0 : Py.Tm := (.cmp .gt (.var 3) (.con (.int 0)))
def wb34_1 : Py.Sms := (.cons (.par [2, 3] (.cons (.var 3) (.cons (.bin .Mod (.bi .int (.cons (.var 2) .nil)) (.var 3)) .nil))) .nil)
def fd34 : FD := ⟨2, 4, false, (.cons (.par [2, 3] (.cons (.bi .abs (.cons (.var 0) .nil)) (.cons (.bi .abs (.cons (.var 1) .nil)) .nil))) (.cons (.whl wc34_0 wb34_1) (.cons (.ite (.cmp .lt (.var 1) (.con (.int 0))) (.cons (.asg (.nm 2) (.neg (.var 2))) .nil) .nil) (.cons (.ret (.tup (.cons (.bin .FloorDiv (.var 0) (.var 2)) (.cons (.bin .FloorDiv (.var 1) (.var 2)) .nil)))) .nil))))⟩
def fd35 : FD := ⟨2, 2, false, (.cons (.ret (.cmp .le (.bin .Mult (.ix (.var 0) (.con (.int 0))) (.ix (.var 1) (.con (.int 1)))) (.bin .Mult (.ix (.var 1) (.con (.int 0))) (.ix (.var 0) (.con (.int 1)))))) .nil)⟩
def fd37 : FD := ⟨1, 1, false, (.cons (.ret (.call 34 (.cons (.call 4 (.cons (.var 0) (.cons (.call 6 (.cons (.var 0) (.cons (.lst false (.cons (.con (.int 5)) (.cons (.con (.int 60)) (.cons (.con (.int 3000)) .nil)))) .nil))) .nil))) (.cons (.bin .Add (.con (.int 1)) (.call 4 (.cons (.var 0) (.cons (.call 6 (.cons (.var 0) (.cons (.lst false (.cons (.con (.int 1)) (.cons (.con (.int 4)) .nil))) .nil))) .nil)))) .nil)))) .nil)⟩
def ce38_0 : Py.Tm := (.bin .Add (.bin .Mult (.ix (.var 0) (.var 3)) (.ix (.var 2) (.con (.int 0)))) (.bin .Mult (.ix (.var 1) (.var 3)) (.ix (.var 2) (.con (.int 1)))))
def fd38 : FD := ⟨3, 4, false, (.cons (.ret (.call 34 (.cons (.bi .min1 (.cons (.comp false [3] (.nm 3) (.rng (.cons (.bi .len (.cons (.var 0) .nil)) .nil)) .nil ce38_0) .nil)) (.cons (.ix (.var 2) (.con (.int 1))) .nil)))) .nil)⟩
def fd39 : FD := ⟨4, 4, false, (.cons (.ret (.bin .Add (.bin .Mult (.ix (.var 0) (.var 2)) (.ix (.var 3) (.con (.int 0)))) (.bin .Mult (.ix (.var 1) (.var 2)) (.ix (.var 3) (.con (.int 1)))))) .nil)⟩
def fb40_0 : Py.Sms := (.cons (.asg (.tp (.cons (.nm 5) (.cons (.nm 12) .nil))) (.ix (.var 9) (.var 4))) (.cons (.ite (.or (.cmp .le (.var 12) (.ix (.ix (.var 9) (.bin .Sub (.var 4) (.con (.int 1)))) (.con (.int 1)))) (.call 35 (.cons (.var 5) (.cons (.ix (.ix (.var 9) (.bin .Sub (.var 4) (.con (.int 1)))) (.con (.int 0))) .nil)))) (.cons (.ret (.con (.bl false))) .nil) .nil) (.cons (.ite (.cmp .ne (.call 39 (.cons (.var 6) (.cons (.var 7) (.cons (.var 12) (.cons (.var 5) .nil))))) (.call 39 (.cons (.var 6) (.cons (.var 7) (.cons (.ix (.ix (.var 9) (.bin .Sub (.var 4) (.con (.int 1)))) (.con (.int 1))) (.cons (.var 5) .nil)))))) (.cons (.ret (.con (.bl false))) .nil) .nil) (.cons (.ite (.cmp .ne (.call 38 (.cons (.var 6) (.cons (.var 7) (.cons (.var 5) .nil)))) (.call 34 (.cons (.call 39 (.cons (.var 6) (.cons (.var 7) (.cons (.var 12) (.cons (.var 5) .nil))))) (.cons (.ix (.var 5) (.con (.int 1))) .nil)))) (.cons (.ret (.con (.bl false))) .nil) .nil) .nil))))
def ce40_1 : Py.Tm := (.call 39 (.cons (.var 6) (.cons (.var 7) (.cons (.var 12) (.cons (.var 5) .nil)))))
def cc40_2 : Py.Tms := (.cons (.call 35 (.cons (.ix (.var 13) (.con (.int 0))) (.cons (.var 5) .nil))) .nil)
def ce40_3 : Py.Tm := (.var 13)
def fb40_4 : Py.Sms := (.cons (.asg (.nm 10) (.comp false [12] (.nm 12) (.val (.var 8)) .nil ce40_1)) (.cons (.ite (.not (.call 5 (.cons (.call 29 (.cons (.var 3) (.cons (.var 5) .nil))) (.cons (.call 38 (.cons (.var 6) (.cons (.var 7) (.cons (.var 5) .nil)))) .nil)))) (.cons (.ret (.con (.bl false))) .nil) .nil) (.cons (.ite (.not (.call 5 (.cons (.call 30 (.cons (.var 3) (.cons (.var 5) .nil))) (.cons (.bm .index (.var 10) (.cons (.bi .min1 (.cons (.var 10) .nil)) .nil)) .nil)))) (.cons (.ret (.con (.bl false))) .nil) .nil) (.cons (.asg (.nm 11) (.comp false [13] (.nm 13) (.val (.var 9)) cc40_2 ce40_3)) (.cons (.ite (.cmp .ne (.ix (.var 10) (.ix (.ix (.var 11) (.bin .Sub (.bi .len (.cons (.var 11) .nil)) (.con (.int 1)))) (.con (.int 1)))) (.bi .min1 (.cons (.var 10) .nil))) (.cons (.ret (.con (.bl false))) .nil) .nil) .nil)))))
def fb40_5 : Py.Sms := (.cons (.asg (.tp (.cons (.nm 6) (.cons (.nm 7) .nil))) (.call 7 (.cons (.var 1) .nil))) (.cons (.asg (.nm 3) (.new "Stages" 13 true (.cons (.var 6) (.cons (.var 7) .nil)))) (.cons (.par [8, 9] (.cons (.lrg1 false (.bi .len (.cons (.var 6) .nil))) (.cons (.call 33 (.cons (.var 3) .nil)) .nil))) (.cons (.ite (.or (.not (.isi [.lst] (.var 9))) (.not (.call 5 (.cons (.ix (.var 9) (.con (.int 0))) (.cons (.tup (.cons (.tup (.cons (.con (.int 0)) (.cons (.con (.int 1)) .nil))) (.cons (.con (.int 0)) .nil))) .nil))))) (.cons (.ret (.con (.bl false))) .nil) .nil) (.cons (.for_ (.nm 4) (.rng (.cons (.con (.int 1)) (.cons (.bi .len (.cons (.var 9) .nil)) .nil))) fb40_0) (.cons (.ite (.cmp .ne (.ix (.ix (.var 9) (.bin .Sub (.bi .len (.cons (.var 9) .nil)) (.con (.int 1)))) (.con (.int 1))) (.bin .Sub (.bi .len (.cons (.var 6) .nil)) (.con (.int 1)))) (.cons (.ret (.con (.bl false))) .nil) .nil) (.cons (.for_ (.nm 5) (.val (.lst false (.cons (.call 37 (.cons (.var 1) .nil)) (.cons (.call 37 (.cons (.var 1) .nil)) (.cons (.ix (.call 6 (.cons (.var 1) (.cons (.var 9) .nil))) (.con (.int 0))) .nil))))) fb40_4) .nil)))))))
def fd40 : FD := ⟨1, 14, false, (.cons (.asg (.nm 1) (.call 3 (.cons (.var 0) (.cons (.con (.int 2)) .nil)))) (.cons (.for_ (.nm 2) (.rng (.cons (.con (.int 4)) .nil)) fb40_5) (.cons (.ret (.con (.bl true))) .nil)))⟩
def fd43 : FD := ⟨2, 2, false, (.cons (.ret (.call 19 (.cons (.bin .Sub (.bin .Mult (.ix (.var 0) (.con (.int 0))) (.ix (.var 1) (.con (.int 1)))) (.bin .Mult (.ix (.var 1) (.con (.int 0))) (.ix (.var 0) (.con (.int 1))))) (.cons (.bin .Mult (.ix (.var 0) (.con (.int 1))) (.ix (.var 1) (.con (.int 1)))) .nil)))) .nil)⟩
def fd44 : FD := ⟨2, 2, false, (.cons (.ite (.or (.not (.isi [.tup] (.var 1))) (.cmp .ne (.bi .len (.cons (.var 1) .nil)) (.con (.int 2)))) (.cons (.ret (.con (.bl false))) .nil) .nil) (.cons (.ret (.and (.call 25 (.cons (.ix (.var 1) (.con (.int 0))) .nil)) (.call 0 (.cons (.ix (.var 1) (.con (.int 1))) (.cons (.con (.int 1)) (.cons (.bin .Sub (.bi .len (.cons (.fld "Stages" "rows" (.var 0)) .nil)) (.con (.int 1))) .nil)))))) .nil))⟩
def fb45_0 : Py.Sms := (.cons (.ite (.or (.not (.call 44 (.cons (.var 0) (.cons (.var 5) .nil)))) (.or (.call 23 (.cons (.ix (.var 5) (.con (.int 0))) (.cons (.var 2) .nil))) (.cmp .le (.ix (.var 5) (.con (.int 1))) (.var 3)))) (.cons (.rai "BadPlan" ["index"] (.cons (.var 4) .nil)) .nil) .nil) (.cons (.asg (.tp (.cons (.nm 2) (.cons (.nm 3) .nil))) (.var 5)) .nil))
def fd45 : FD := ⟨2, 6, false, (.cons (.ite (.or (.not (.isi [.tup] (.var 1))) (.cmp .ge (.bi .len (.cons (.var 1) .nil)) (.bi .len (.cons (.fld "Stages" "rows" (.var 0)) .nil)))) (.cons (.rai "BadPlan" ["index"] (.cons (.con .non) .nil)) .nil) .nil) (.cons (.par [2, 3] (.cons (.gco "ZERO" (.tup [(.int 0), (.int 1)])) (.cons (.con (.int 0)) .nil))) (.cons (.for_ (.tp (.cons (.nm 4) (.cons (.nm 5) .nil))) (.enum (.cons (.var 1) .nil)) fb45_0) .nil)))⟩
def fb46_0 : Py.Sms := (.cons (.ite (.or (.call 23 (.cons (.var 4) (.cons (.var 1) .nil))) (.and (.var 2) (.cmp .eq (.var 4) (.var 1)))) (.cons (.asg (.nm 3) (.var 5)) .nil) .nil) .nil)
def fd46 : FD := ⟨3, 6, false, (.cons (.asg (.nm 3) (.con (.int 0))) (.cons (.for_ (.tp (.cons (.nm 4) (.cons (.nm 5) .nil))) (.val (.var 0)) fb46_0) (.cons (.ret (.var 3)) .nil)))⟩
def fb47_0 : Py.Sms := (.cons (.ite (.call 23 (.cons (.var 7) (.cons (.var 2) .nil))) (.cons (.asg (.nm 4) (.call 21 (.cons (.var 4) (.cons (.call 22 (.cons (.tup (.cons (.ix (.ix (.fld "Stages" "rows" (.var 0)) (.var 6)) (.con (.int 0))) (.cons (.con (.int 1)) .nil))) (.cons (.call 43 (.cons (.var 7) (.cons (.var 5) .nil))) .nil))) .nil)))) (.cons (.par [5, 6] (.cons (.var 7) (.cons (.var 8) .nil))) .nil)) .nil) .nil)
def fd47 : FD := ⟨4, 9, false, (.cons (.par [4, 5, 6] (.cons (.gco "ZERO" (.tup [(.int 0), (.int 1)])) (.cons (.gco "ZERO" (.tup [(.int 0), (.int 1)])) (.cons (.con (.int 0)) .nil)))) (.cons (.for_ (.tp (.cons (.nm 7) (.cons (.nm 8) .nil))) (.val (.var 1)) fb47_0) (.cons (.asg (.nm 4) (.call 21 (.cons (.var 4) (.cons (.call 22 (.cons (.tup (.cons (.ix (.ix (.fld "Stages" "rows" (.var 0)) (.var 6)) (.con (.int 0))) (.cons (.con (.int 1)) .nil))) (.cons (.call 43 (.cons (.var 2) (.cons (.var 5) .nil))) .nil))) .nil)))) (.cons (.ret (.call 21 (.cons (.var 4) (.cons (.tup (.cons (.ix (.ix (.fld "Stages" "rows" (.var 0)) (.call 46 (.cons (.var 1) (.cons (.var 2) (.cons (.var 3) .nil))))) (.con (.int 1))) (.cons (.con (.int 1)) .nil))) .nil)))) .nil))))⟩
def fd48 : FD := ⟨3, 3, false, (.cons (.ex (.call 45 (.cons (.var 0) (.cons (.var 1) .nil)))) (.cons (.ex (.call 26 (.cons (.var 2) .nil))) (.cons (.ret (.call 47 (.cons (.var 0) (.cons (.var 1) (.cons (.var 2) (.cons (.con (.bl false)) .nil)))))) .nil)))⟩
def fd49 : FD := ⟨2, 2, false, (.cons (.ret (.call 34 (.cons (.bin .Sub (.bin .Mult (.ix (.var 0) (.con (.int 0))) (.ix (.var 1) (.con (.int 1)))) (.bin .Mult (.ix (.var 1) (.con (.int 0))) (.ix (.var 0) (.con (.int 1))))) (.cons (.bin .Mult (.ix (.var 0) (.con (.int 1))) (.ix (.var 1) (.con (.int 1)))) .nil)))) .nil)⟩
def cc50_0 : Py.Tms := (.cons (.call 35 (.cons (.var 8) (.cons (.var 5) .nil))) .nil)
def ce50_1 : Py.Tm := (.var 8)
def fb50_2 : Py.Sms := (.cons (.ite (.cmp .eq (.call 4 (.cons (.var 0) (.cons (.con (.int 2)) .nil))) (.con (.int 0))) (.cons (.asg (.nm 5) (.call 37 (.cons (.var 0) .nil))) (.cons (.asg (.nm 6) (.bi .len (.cons (.comp false [8] (.nm 8) (.val (.var 3)) cc50_0 ce50_1) .nil))) (.cons (.asg (.nm 3) (.bin .Add (.bin .Add (.sl (.var 3) (.con .non) (.var 6)) (.lst false (.cons (.var 5) .nil))) (.sl (.var 3) (.var 6) (.con .non)))) (.cons (.ex (.bm .append (.var 4) (.cons (.var 2) .nil))) .nil)))) .nil) .nil)
def ce50_3 : Py.Tm := (.tup (.cons (.ix (.var 3) (.var 7)) (.cons (.ix (.var 4) (.var 7)) .nil)))
def fd50 : FD := ⟨2, 9, false, (.cons (.asg (.tp (.cons (.nm 3) (.cons (.nm 4) .nil))) (.tup (.cons (.lst false .nil) (.cons (.lst true .nil) .nil)))) (.cons (.for_ (.nm 2) (.rng (.cons (.con (.int 1)) (.cons (.var 1) .nil))) fb50_2) (.cons (.ret (.bi .tuple (.cons (.comp false [7] (.nm 7) (.rng (.cons (.bi .len (.cons (.var 4) .nil)) .nil)) .nil ce50_3) .nil))) .nil)))⟩
def fb51_0 : Py.Sms := (.cons (.ite (.or (.not (.call 35 (.cons (.var 3) (.cons (.var 10) .nil)))) (.and (.var 4) (.cmp .eq (.var 3) (.var 10)))) (.cons (.asg (.tp (.cons (.nm 5) (.cons (.nm 12) .nil))) (.call 49 (.cons (.var 10) (.cons (.var 8) .nil)))) (.cons (.asg (.nm 5) (.bin .Mult (.bin .Mult (.ix (.var 0) (.var 9)) (.var 5)) (.var 7))) (.cons (.asg (.tp (.cons (.nm 6) (.cons (.nm 7) .nil))) (.call 34 (.cons (.bin .Add (.bin .Mult (.var 6) (.var 12)) (.var 5)) (.cons (.bin .Mult (.var 7) (.var 12)) .nil)))) (.cons (.par [8, 9] (.cons (.var 10) (.cons (.var 11) .nil))) .nil)))) .nil) .nil)
def fd51 : FD := ⟨5, 13, false, (.cons (.asg (.tp (.cons (.nm 6) (.cons (.nm 7) (.cons (.nm 8) (.cons (.nm 9) .nil))))) (.tup (.cons (.con (.int 0)) (.cons (.con (.int 1)) (.cons (.tup (.cons (.con (.int 0)) (.cons (.con (.int 1)) .nil))) (.cons (.con (.int 0)) .nil)))))) (.cons (.for_ (.tp (.cons (.nm 10) (.cons (.nm 11) .nil))) (.val (.var 2)) fb51_0) (.cons (.asg (.tp (.cons (.nm 5) (.cons (.nm 12) .nil))) (.call 49 (.cons (.var 3) (.cons (.var 8) .nil)))) (.cons (.asg (.nm 5) (.bin .Mult (.bin .Mult (.ix (.var 0) (.var 9)) (.var 5)) (.var 7))) (.cons (.asg (.tp (.cons (.nm 6) (.cons (.nm 7) .nil))) (.call 34 (.cons (.bin .Add (.bin .Mult (.var 6) (.var 12)) (.var 5)) (.cons (.bin .Mult (.var 7) (.var 12)) .nil)))) (.cons (.ret (.call 34 (.cons (.bin .Add (.var 6) (.bin .Mult (.ix (.var 1) (.var 9)) (.var 7))) (.cons (.var 7) .nil)))) .nil))))))⟩
def ce52_0 : Py.Tm := (.var 8)
def fb52_1 : Py.Sms := (.cons (.ite (.not (.call 5 (.cons (.call 48 (.cons (.var 6) (.cons (.var 7) (.cons (.var 3) .nil)))) (.cons (.call 51 (.cons (.var 4) (.cons (.var 5) (.cons (.var 7) (.cons (.var 3) (.cons (.con (.bl false)) .nil)))))) .nil)))) (.cons (.ret (.con (.bl false))) .nil) .nil) .nil)
def fb52_2 : Py.Sms := (.cons (.asg (.tp (.cons (.nm 4) (.cons (.nm 5) .nil))) (.call 7 (.cons (.var 1) .nil))) (.cons (.par [6, 7] (.cons (.new "Stages" 13 true (.cons (.var 4) (.cons (.var 5) .nil))) (.cons (.call 50 (.cons (.var 1) (.cons (.bi .len (.cons (.var 4) .nil)) .nil))) .nil))) (.cons (.for_ (.nm 3) (.val (.bin .Add (.lst false (.cons (.call 37 (.cons (.var 1) .nil)) (.cons (.call 37 (.cons (.var 1) .nil)) (.cons (.tup (.cons (.bin .Pow (.con (.int 10)) (.con (.int 9))) (.cons (.con (.int 1)) .nil))) .nil)))) (.comp false [8, 9] (.tp (.cons (.nm 8) (.cons (.nm 9) .nil))) (.val (.var 7)) .nil ce52_0))) fb52_1) .nil)))
def fd52 : FD := ⟨1, 10, false, (.cons (.asg (.nm 1) (.call 3 (.cons (.var 0) (.cons (.con (.int 3)) .nil)))) (.cons (.for_ (.nm 2) (.rng (.cons (.con (.int 4)) .nil)) fb52_2) (.cons (.ret (.con (.bl true))) .nil)))⟩
def fd53 : FD := ⟨2, 2, false, (.cons (.ret (.call 19 (.cons (.bin .Mult (.ix (.var 0) (.con (.int 0))) (.ix (.var 1) (.con (.int 1)))) (.cons (.bin .Mult (.ix (.var 0) (.con (.int 1))) (.ix (.var 1) (.con (.int 0)))) .nil)))) .nil)⟩
def ce55_0 : Py.Tm := (.var 6)
def ce55_1 : Py.Tm := (.var 8)
def cc55_2 : Py.Tms := (.cons (.call 23 (.cons (.var 9) (.cons (.var 4) .nil))) .nil)
def ce55_3 : Py.Tm := (.var 9)
def fb55_4 : Py.Sms := (.cons (.asg (.nm 5) (.bi .len (.cons (.comp false [9] (.nm 9) (.val (.var 3)) cc55_2 ce55_3) .nil))) (.cons (.ite (.and (.cmp .gt (.ix (.var 4) (.con (.int 0))) (.con (.int 0))) (.cmp .notIn (.var 4) (.var 3))) (.cons (.ex (.bm .insert (.var 3) (.cons (.var 5) (.cons (.var 4) .nil)))) .nil) .nil) .nil))
def fd55 : FD := ⟨2, 10, false, (.cons (.asg (.nm 2) (.bin .Add (.comp false [6, 7] (.tp (.cons (.nm 6) (.cons (.nm 7) .nil))) (.val (.var 1)) .nil ce55_0) (.comp false [8, 7] (.tp (.cons (.nm 8) (.cons (.nm 7) .nil))) (.val (.call 32 (.cons (.var 0) .nil))) .nil ce55_1))) (.cons (.asg (.nm 3) (.lst true .nil)) (.cons (.for_ (.nm 4) (.val (.var 2)) fb55_4) (.cons (.ret (.var 3)) .nil))))⟩
def fb56_0 : Py.Sms := (.cons (.asg (.nm 7) (.call 53 (.cons (.call 47 (.cons (.var 0) (.cons (.var 1) (.cons (.var 2) (.cons (.var 6) .nil))))) (.cons (.ix (.call 28 (.cons (.var 0) (.cons (.var 2) .nil))) (.con (.int 0))) .nil)))) (.cons (.ite (.call 23 (.cons (.ix (.var 4) (.con (.int 0))) (.cons (.var 7) .nil))) (.cons (.asg (.nm 4) (.tup (.cons (.var 7) (.cons (.var 2) .nil)))) .nil) .nil) .nil))
def fb56_1 : Py.Sms := (.cons (.for_ (.nm 6) (.val (.tup (.cons (.con (.bl false)) (.cons (.con (.bl true)) .nil)))) fb56_0) .nil)
def fd56 : FD := ⟨2, 8, false, (.cons (.ite (.and (.cmp .ne (.var 1) (.tup .nil)) (.cmp .eq (.ix (.ix (.var 1) (.con (.int 0))) (.con (.int 0))) (.gco "ZERO" (.tup [(.int 0), (.int 1)])))) (.cons (.ret (.con .non)) .nil) .nil) (.cons (.par [4, 5] (.cons (.tup (.cons (.gco "ONE" (.tup [(.int 1), (.int 1)])) (.cons (.gco "ZERO" (.tup [(.int 0), (.int 1)])) .nil))) (.cons (.ix (.ix (.fld "Stages" "rows" (.var 0)) (.neg (.con (.int 1)))) (.con (.int 0))) .nil))) (.cons (.for_ (.nm 2) (.val (.call 55 (.cons (.var 0) (.cons (.var 1) .nil)))) fb56_1) (.cons (.asg (.nm 3) (.ix (.ix (.fld "Stages" "rows" (.var 0)) (.ite (.cmp .ne (.var 1) (.tup .nil)) (.ix (.ix (.var 1) (.neg (.con (.int 1)))) (.con (.int 1))) (.con (.int 0)))) (.con (.int 0)))) (.cons (.ite (.and (.cmp .eq (.var 5) (.con (.int 0))) (.cmp .gt (.var 3) (.con (.int 0)))) (.cons (.ret (.con .non)) .nil) .nil) (.cons (.ite (.and (.cmp .gt (.var 5) (.con (.int 0))) (.call 23 (.cons (.ix (.var 4) (.con (.int 0))) (.cons (.call 19 (.cons (.var 3) (.cons (.var 5) .nil))) .nil)))) (.cons (.asg (.nm 4) (.tup (.cons (.call 19 (.cons (.var 3) (.cons (.var 5) .nil))) (.cons (.con .non) .nil)))) .nil) .nil) (.cons (.ret (.var 4)) .nil)))))))⟩
def fd57 : FD := ⟨2, 2, false, (.cons (.ex (.call 45 (.cons (.var 0) (.cons (.var 1) .nil)))) (.cons (.ret (.call 56 (.cons (.var 0) (.cons (.var 1) .nil)))) .nil))⟩
def ce58_0 : Py.Tm := (.var 6)
def fb58_1 : Py.Sms := (.cons (.ex (.bm .append (.var 3) (.cons (.call 34 (.cons (.bin .Sub (.ix (.var 1) (.var 5)) (.ix (.var 1) (.var 4))) (.cons (.bin .Sub (.ix (.var 0) (.var 4)) (.ix (.var 0) (.var 5))) .nil))) .nil))) .nil)
def fb58_2 : Py.Sms := (.cons (.for_ (.nm 5) (.rng (.cons (.bin .Add (.var 4) (.con (.int 1))) (.cons (.bi .len (.cons (.var 0) .nil)) .nil))) fb58_1) .nil)
def cc58_3 : Py.Tms := (.cons (.cmp .gt (.ix (.var 4) (.con (.int 0))) (.con (.int 0))) .nil)
def ce58_4 : Py.Tm := (.var 4)
def fd58 : FD := ⟨3, 8, false, (.cons (.asg (.nm 3) (.comp true [6, 7] (.tp (.cons (.nm 6) (.cons (.nm 7) .nil))) (.val (.var 2)) .nil ce58_0)) (.cons (.for_ (.nm 4) (.rng (.cons (.bi .len (.cons (.var 0) .nil)) .nil)) fb58_2) (.cons (.ret (.comp false [4] (.nm 4) (.val (.var 3)) cc58_3 ce58_4)) .nil)))⟩
def fb59_0 : Py.Sms := (.cons (.par [9, 10] (.cons (.call 51 (.cons (.var 0) (.cons (.var 1) (.cons (.var 2) (.cons (.var 6) (.cons (.var 7) .nil)))))) (.cons (.call 38 (.cons (.var 0) (.cons (.var 1) (.cons (.var 6) .nil)))) .nil))) (.cons (.asg (.nm 8) (.call 34 (.cons (.bin .Mult (.ix (.var 9) (.con (.int 0))) (.ix (.var 10) (.con (.int 1)))) (.cons (.bin .Mult (.ix (.var 9) (.con (.int 1))) (.ix (.var 10) (.con (.int 0)))) .nil)))) (.cons (.asg (.nm 5) (.ite (.not (.call 35 (.cons (.var 8) (.cons (.var 5) .nil)))) (.var 8) (.var 5))) .nil)))
def fb59_1 : Py.Sms := (.cons (.for_ (.nm 7) (.val (.lst false (.cons (.con (.bl false)) (.cons (.con (.bl true)) .nil)))) fb59_0) .nil)
def fd59 : FD := ⟨3, 11, false, (.cons (.asg (.nm 3) (.ix (.var 0) (.ite (.cmp .ne (.var 2) (.tup .nil)) (.ix (.ix (.var 2) (.bin .Sub (.bi .len (.cons (.var 2) .nil)) (.con (.int 1)))) (.con (.int 1))) (.con (.int 0))))) (.cons (.asg (.nm 4) (.ix (.var 0) (.bin .Sub (.bi .len (.cons (.var 0) .nil)) (.con (.int 1))))) (.cons (.ite (.or (.and (.cmp .ne (.var 2) (.tup .nil)) (.cmp .eq (.ix (.ix (.var 2) (.con (.int 0))) (.con (.int 0))) (.tup (.cons (.con (.int 0)) (.cons (.con (.int 1)) .nil))))) (.and (.cmp .eq (.var 4) (.con (.int 0))) (.cmp .gt (.var 3) (.con (.int 0))))) (.cons (.ret (.con .non)) .nil) .nil) (.cons (.asg (.nm 5) (.tup (.cons (.con (.int 1)) (.cons (.con (.int 1)) .nil)))) (.cons (.for_ (.nm 6) (.val (.call 58 (.cons (.var 0) (.cons (.var 1) (.cons (.var 2) .nil))))) fb59_1) (.cons (.ite (.and (.cmp .gt (.var 4) (.con (.int 0))) (.not (.call 35 (.cons (.call 34 (.cons (.var 3) (.cons (.var 4) .nil))) (.cons (.var 5) .nil))))) (.cons (.ret (.tup (.cons (.call 34 (.cons (.var 3) (.cons (.var 4) .nil))) (.cons (.con (.bl false)) .nil)))) .nil) .nil) (.cons (.ret (.tup (.cons (.var 5) (.cons (.con (.bl true)) .nil)))) .nil)))))))⟩
def ce60_0 : Py.Tm := (.call 51 (.cons (.var 3) (.cons (.var 4) (.cons (.var 6) (.cons (.var 10) (.cons (.var 16) .nil))))))
def ce60_1 : Py.Tm := (.call 34 (.cons (.bin .Mult (.ix (.var 14) (.con (.int 0))) (.ix (.var 13) (.con (.int 1)))) (.cons (.bin .Mult (.ix (.var 14) (.con (.int 1))) (.ix (.var 13) (.con (.int 0)))) .nil)))
def fb60_2 : Py.Sms := (.cons (.asg (.nm 12) (.comp false [16] (.nm 16) (.val (.lst false (.cons (.con (.bl false)) (.cons (.con (.bl true)) .nil)))) .nil ce60_0)) (.cons (.asg (.nm 13) (.call 38 (.cons (.var 3) (.cons (.var 4) (.cons (.var 10) .nil))))) (.cons (.ite (.cmp .inS (.ix (.var 7) (.con (.int 0))) (.comp false [14] (.nm 14) (.val (.var 12)) .nil ce60_1)) (.cons (.ex (.bm .append (.var 9) (.cons (.var 10) .nil))) .nil) .nil) .nil)))
def cc60_3 : Py.Tms := (.cons (.not (.call 35 (.cons (.ix (.var 8) (.con (.int 1))) (.cons (.var 14) .nil)))) .nil)
def ce60_4 : Py.Tm := (.var 14)
def fb60_5 : Py.Sms := (.cons (.par [14, 15] (.cons (.call 51 (.cons (.var 3) (.cons (.var 4) (.cons (.var 6) (.cons (.var 11) (.cons (.con (.bl false)) .nil)))))) (.cons (.call 38 (.cons (.var 3) (.cons (.var 4) (.cons (.var 11) .nil)))) .nil))) (.cons (.ite (.cmp .gt (.bin .Mult (.bin .Mult (.ix (.var 14) (.con (.int 0))) (.ix (.var 15) (.con (.int 1)))) (.ix (.ix (.var 7) (.con (.int 0))) (.con (.int 1)))) (.bin .Mult (.bin .Mult (.ix (.ix (.var 7) (.con (.int 0))) (.con (.int 0))) (.ix (.var 15) (.con (.int 0)))) (.ix (.var 14) (.con (.int 1))))) (.cons (.ret (.con (.bl false))) .nil) .nil) .nil))
def fb60_6 : Py.Sms := (.cons (.asg (.tp (.cons (.nm 3) (.cons (.nm 4) .nil))) (.call 7 (.cons (.var 1) .nil))) (.cons (.asg (.tp (.cons (.nm 5) (.cons (.nm 6) .nil))) (.tup (.cons (.new "Stages" 13 true (.cons (.var 3) (.cons (.var 4) .nil))) (.cons (.call 50 (.cons (.var 1) (.cons (.bi .len (.cons (.var 3) .nil)) .nil))) .nil)))) (.cons (.asg (.tp (.cons (.nm 7) (.cons (.nm 8) .nil))) (.tup (.cons (.call 59 (.cons (.var 3) (.cons (.var 4) (.cons (.var 6) .nil)))) (.cons (.call 57 (.cons (.var 5) (.cons (.var 6) .nil))) .nil)))) (.cons (.ite (.cmp .ne (.cmp .isN (.var 8) (.con .non)) (.cmp .isN (.var 7) (.con .non))) (.cons (.ret (.con (.bl false))) .nil) .nil) (.cons (.ite (.cmp .notN (.var 8) (.con .non)) (.cons (.ite (.or (.not (.isi [.tup] (.var 8))) (.or (.cmp .ne (.bi .len (.cons (.var 8) .nil)) (.con (.int 2))) (.not (.call 5 (.cons (.ix (.var 8) (.con (.int 0))) (.cons (.ix (.var 7) (.con (.int 0))) .nil)))))) (.cons (.ret (.con (.bl false))) .nil) .nil) (.cons (.asg (.nm 9) (.lst true .nil)) (.cons (.for_ (.nm 10) (.val (.call 58 (.cons (.var 3) (.cons (.var 4) (.cons (.var 6) .nil))))) fb60_2) (.cons (.ite (.cmp .eq (.ix (.var 7) (.con (.int 0))) (.tup (.cons (.con (.int 1)) (.cons (.con (.int 1)) .nil)))) (.cons (.ite (.not (.call 5 (.cons (.ix (.var 8) (.con (.int 1))) (.cons (.tup (.cons (.con (.int 0)) (.cons (.con (.int 1)) .nil))) .nil)))) (.cons (.ret (.con (.bl false))) .nil) .nil) .nil) (.cons (.ite (.not (.ix (.var 7) (.con (.int 1)))) (.cons (.ite (.cmp .notN (.ix (.var 8) (.con (.int 1))) (.con .non)) (.cons (.ret (.con (.bl false))) .nil) .nil) .nil) (.cons (.ite (.or (.cmp .notIn (.ix (.var 8) (.con (.int 1))) (.var 9)) (.cmp .ne (.comp false [14] (.nm 14) (.val (.var 9)) cc60_3 ce60_4) (.lst false .nil))) (.cons (.ret (.con (.bl false))) .nil) .nil) .nil)) .nil)) (.cons (.for_ (.nm 11) (.val (.lst false (.cons (.call 37 (.cons (.var 1) .nil)) (.cons (.call 37 (.cons (.var 1) .nil)) (.cons (.call 37 (.cons (.var 1) .nil)) .nil))))) fb60_5) .nil))))) .nil) .nil)))))
def fd60 : FD := ⟨1, 17, false, (.cons (.asg (.nm 1) (.call 3 (.cons (.var 0) (.cons (.con (.int 4)) .nil)))) (.cons (.for_ (.nm 2) (.rng (.cons (.con (.int 4)) .nil)) fb60_6) (.cons (.ret (.con (.bl true))) .nil)))⟩
def fd61 : FD := ⟨1, 1, false, (.cons (.ret (.bi .tuple (.cons (.sl (.call 32 (.cons (.var 0) .nil)) (.con (.int 1)) (.con .non)) .nil))) .nil)⟩
def fb66_0 : Py.Sms := (.cons (.asg (.tp (.cons (.nm 6) (.cons (.nm 7) .nil))) (.call 7 (.cons (.var 1) .nil))) (.cons (.asg (.nm 3) (.new "Stages" 13 true (.cons (.var 6) (.cons (.var 7) .nil)))) (.cons (.asg (.nm 4) (.call 61 (.cons (.var 3) .nil))) (.cons (.ite (.not (.call 5 (.cons (.var 4) (.cons (.bi .tuple (.cons (.sl (.call 33 (.cons (.var 3) .nil)) (.con (.int 1)) (.con .non)) .nil)) .nil)))) (.cons (.ret (.con (.bl false))) .nil) .nil) (.cons (.asg (.nm 5) (.call 57 (.cons (.var 3) (.cons (.var 4) .nil)))) (.cons (.ite (.or (.cmp .isN (.var 5) (.con .non)) (.cmp .gt (.ix (.ix (.var 5) (.con (.int 0))) (.con (.int 0))) (.bin .Mult (.con (.int 2)) (.ix (.ix (.var 5) (.con (.int 0))) (.con (.int 1)))))) (.cons (.ret (.con (.bl false))) .nil) .nil) (.cons (.ite (.not (.call 5 (.cons (.ix (.var 5) (.con (.int 0))) (.cons (.ix (.call 59 (.cons (.var 6) (.cons (.var 7) (.cons (.var 4) .nil)))) (.con (.int 0))) .nil)))) (.cons (.ret (.con (.bl false))) .nil) .nil) .nil)))))))
def fd66 : FD := ⟨1, 8, false, (.cons (.asg (.nm 1) (.call 3 (.cons (.var 0) (.cons (.con (.int 5)) .nil)))) (.cons (.for_ (.nm 2) (.rng (.cons (.con (.int 5)) .nil)) fb66_0) (.cons (.ret (.con (.bl true))) .nil)))⟩
def fd67 : FD := ⟨1, 1, false, (.cons (.ite (.or (.not (.call 20 (.cons (.var 0) .nil))) (.or (.cmp .gt (.ix (.var 0) (.con (.int 1))) (.gco "MOST_UNDER" (.int 100))) (.not (.cha .le .le (.ix (.var 0) (.con (.int 1))) (.ix (.var 0) (.con (.int 0))) (.bin .Mult (.con (.int 3)) (.ix (.var 0) (.con (.int 1)))))))) (.cons (.rai "BadShare" [] .nil) .nil) .nil) .nil)⟩
def fb68_0 : Py.Sms := (.cons (.asg (.tp (.cons (.nm 10) (.cons (.nm 11) .nil))) (.ix (.fld "Stages" "rows" (.var 0)) (.var 9))) (.cons (.asg (.nm 6) (.call 43 (.cons (.call 22 (.cons (.var 3) (.cons (.call 27 (.cons (.tup (.cons (.var 10) (.cons (.var 11) .nil))) (.cons (.var 8) .nil))) .nil))) (.cons (.call 21 (.cons (.var 2) (.cons (.call 22 (.cons (.tup (.cons (.var 1) (.cons (.con (.int 1)) .nil))) (.cons (.var 8) .nil))) .nil))) .nil)))) (.cons (.ite (.cmp .ge (.ix (.var 6) (.con (.int 0))) (.con (.int 0))) (.cons (.ret (.var 8)) .nil) .nil) (.cons (.asg (.nm 7) (.call 43 (.cons (.call 22 (.cons (.var 3) (.cons (.tup (.cons (.var 10) (.cons (.con (.int 1)) .nil))) .nil))) (.cons (.tup (.cons (.var 1) (.cons (.con (.int 1)) .nil))) .nil)))) (.cons (.ite (.cmp .gt (.ix (.var 7) (.con (.int 0))) (.con (.int 0))) (.cons (.asg (.nm 12) (.call 21 (.cons (.var 8) (.cons (.call 53 (.cons (.call 43 (.cons (.gco "ZERO" (.tup [(.int 0), (.int 1)])) (.cons (.var 6) .nil))) (.cons (.var 7) .nil))) .nil)))) (.cons (.ite (.or (.cmp .eq (.bin .Add (.var 5) (.con (.int 1))) (.bi .len (.cons (.var 4) .nil))) (.not (.call 23 (.cons (.ix (.ix (.var 4) (.bin .Add (.var 5) (.con (.int 1)))) (.con (.int 0))) (.cons (.var 12) .nil))))) (.cons (.ret (.var 12)) .nil) .nil) .nil)) .nil) .nil)))))
def fd68 : FD := ⟨4, 13, false, (.cons (.asg (.nm 4) (.call 32 (.cons (.var 0) .nil))) (.cons (.for_ (.tp (.cons (.nm 5) (.cons (.tp (.cons (.nm 8) (.cons (.nm 9) .nil))) .nil))) (.enum (.cons (.var 4) .nil)) fb68_0) (.cons (.ret (.con .non)) .nil)))⟩
def fb69_0 : Py.Sms := (.cons (.ite (.cmp .notN (.ix (.var 2) (.var 5)) (.con .non)) (.cons (.asg (.nm 8) (.ix (.ix (.fld "Stages" "rows" (.var 0)) (.var 5)) (.con (.int 0)))) (.cons (.asg (.nm 9) (.call 68 (.cons (.var 0) (.cons (.var 8) (.cons (.call 21 (.cons (.ix (.ix (.var 2) (.var 5)) (.con (.int 1))) (.cons (.tup (.cons (.var 7) (.cons (.con (.int 1)) .nil))) .nil))) (.cons (.var 1) .nil)))))) (.cons (.ite (.cmp .notN (.var 9) (.con .non)) (.cons (.asg (.nm 10) (.call 21 (.cons (.ix (.ix (.var 2) (.var 5)) (.con (.int 1))) (.cons (.call 22 (.cons (.tup (.cons (.bin .Sub (.var 8) (.var 6)) (.cons (.con (.int 1)) .nil))) (.cons (.var 9) .nil))) .nil)))) (.cons (.ite (.or (.cmp .isN (.var 4) (.con .non)) (.call 23 (.cons (.var 10) (.cons (.ix (.var 4) (.con (.int 1))) .nil)))) (.cons (.asg (.nm 4) (.tup (.cons (.var 9) (.cons (.var 10) (.cons (.var 5) .nil))))) .nil) .nil) .nil)) .nil) .nil))) .nil) .nil)
def fb69_1 : Py.Sms := (.cons (.asg (.tp (.cons (.nm 6) (.cons (.nm 7) .nil))) (.ix (.fld "Stages" "rows" (.var 0)) (.var 3))) (.cons (.asg (.nm 4) (.con .non)) (.cons (.for_ (.nm 5) (.rng (.cons (.var 3) .nil)) fb69_0) (.cons (.ex (.bm .append (.var 2) (.cons (.var 4) .nil))) .nil))))
def fd69 : FD := ⟨2, 11, false, (.cons (.asg (.nm 2) (.lst true (.cons (.tup (.cons (.gco "ZERO" (.tup [(.int 0), (.int 1)])) (.cons (.gco "ZERO" (.tup [(.int 0), (.int 1)])) (.cons (.con .non) .nil)))) .nil))) (.cons (.for_ (.nm 3) (.rng (.cons (.con (.int 1)) (.cons (.bi .len (.cons (.fld "Stages" "rows" (.var 0)) .nil)) .nil))) fb69_1) (.cons (.ret (.var 2)) .nil)))⟩
def fd70 : FD := ⟨3, 3, false, (.cons (.ret (.not (.call 23 (.cons (.call 22 (.cons (.var 2) (.cons (.tup (.cons (.ix (.ix (.fld "Stages" "rows" (.var 0)) (.neg (.con (.int 1)))) (.con (.int 0))) (.cons (.con (.int 1)) .nil))) .nil))) (.cons (.tup (.cons (.ix (.ix (.fld "Stages" "rows" (.var 0)) (.var 1)) (.con (.int 0))) (.cons (.con (.int 1)) .nil))) .nil))))) .nil)⟩
def wc71_0 : Py.Tm := (.cmp .notN (.ix (.ix (.var 2) (.var 6)) (.con (.int 2))) (.con .non))
def wb71_1 : Py.Sms := (.cons (.ex (.bm .append (.var 5) (.cons (.tup (.cons (.ix (.ix (.var 2) (.var 6)) (.con (.int 0))) (.cons (.var 6) .nil))) .nil))) (.cons (.asg (.nm 6) (.ix (.ix (.var 2) (.var 6)) (.con (.int 2)))) .nil))
def fb71_2 : Py.Sms := (.cons (.ite (.and (.cmp .notN (.var 4) (.con .non)) (.call 70 (.cons (.var 0) (.cons (.var 3) (.cons (.var 1) .nil))))) (.cons (.par [5, 6] (.cons (.lst true .nil) (.cons (.var 3) .nil))) (.cons (.whl wc71_0 wb71_1) (.cons (.ret (.bi .tuple (.cons (.rev (.var 5)) .nil))) .nil))) .nil) .nil)
def fd71 : FD := ⟨2, 7, false, (.cons (.asg (.nm 2) (.call 69 (.cons (.var 0) (.cons (.var 1) .nil)))) (.cons (.for_ (.tp (.cons (.nm 3) (.cons (.nm 4) .nil))) (.enum (.cons (.var 2) .nil)) fb71_2) (.cons (.ret (.con .non)) .nil)))⟩
def fd72 : FD := ⟨2, 2, false, (.cons (.ex (.call 67 (.cons (.var 1) .nil))) (.cons (.ret (.call 71 (.cons (.var 0) (.cons (.var 1) .nil)))) .nil))⟩
def fb73_0 : Py.Sms := (.cons (.ex (.bm .append (.var 5) (.cons (.call 34 (.cons (.bin .Sub (.ix (.var 1) (.var 9)) (.ix (.var 1) (.var 6))) (.cons (.bin .Sub (.ix (.var 0) (.var 6)) (.ix (.var 0) (.var 9))) .nil))) .nil))) .nil)
def fb73_1 : Py.Sms := (.cons (.for_ (.nm 9) (.rng (.cons (.bin .Add (.var 6) (.con (.int 1))) (.cons (.bi .len (.cons (.var 0) .nil)) .nil))) fb73_0) (.cons (.asg (.nm 10) (.bin .Sub (.bin .Mult (.ix (.var 3) (.con (.int 0))) (.ix (.var 4) (.con (.int 1)))) (.bin .Mult (.bin .Mult (.ix (.var 4) (.con (.int 0))) (.ix (.var 1) (.var 6))) (.ix (.var 3) (.con (.int 1)))))) (.cons (.asg (.nm 11) (.bin .Mult (.bin .Sub (.bin .Mult (.ix (.var 4) (.con (.int 0))) (.ix (.var 0) (.var 6))) (.bin .Mult (.var 2) (.ix (.var 4) (.con (.int 1))))) (.ix (.var 3) (.con (.int 1))))) (.cons (.ite (.cmp .ne (.var 11) (.con (.int 0))) (.cons (.ex (.bm .append (.var 5) (.cons (.call 34 (.cons (.var 10) (.cons (.var 11) .nil))) .nil))) .nil) .nil) .nil))))
def fb73_2 : Py.Sms := (.cons (.asg (.nm 12) (.ite (.cmp .ge (.ix (.var 8) (.con (.int 0))) (.con (.int 0))) (.call 38 (.cons (.var 0) (.cons (.var 1) (.cons (.var 8) .nil)))) (.con .non))) (.cons (.ite (.cmp .notN (.var 12) (.con .non)) (.cons (.asg (.nm 13) (.call 34 (.cons (.bin .Add (.bin .Mult (.ix (.var 3) (.con (.int 0))) (.ix (.var 8) (.con (.int 1)))) (.bin .Mult (.bin .Mult (.var 2) (.ix (.var 8) (.con (.int 0)))) (.ix (.var 3) (.con (.int 1))))) (.cons (.bin .Mult (.ix (.var 3) (.con (.int 1))) (.ix (.var 8) (.con (.int 1)))) .nil)))) (.cons (.asg (.nm 14) (.cmp .le (.bin .Mult (.bin .Mult (.ix (.var 13) (.con (.int 0))) (.ix (.var 12) (.con (.int 1)))) (.ix (.var 4) (.con (.int 1)))) (.bin .Mult (.bin .Mult (.ix (.var 4) (.con (.int 0))) (.ix (.var 12) (.con (.int 0)))) (.ix (.var 13) (.con (.int 1)))))) (.cons (.ite (.and (.var 14) (.or (.cmp .isN (.var 7) (.con .non)) (.not (.call 35 (.cons (.var 7) (.cons (.var 8) .nil)))))) (.cons (.asg (.nm 7) (.var 8)) .nil) .nil) .nil))) .nil) .nil))
def fd73 : FD := ⟨5, 15, false, (.cons (.asg (.nm 5) (.lst true (.cons (.tup (.cons (.con (.int 0)) (.cons (.con (.int 1)) .nil))) .nil))) (.cons (.for_ (.nm 6) (.rng (.cons (.bi .len (.cons (.var 0) .nil)) .nil)) fb73_1) (.cons (.asg (.nm 7) (.con .non)) (.cons (.for_ (.nm 8) (.val (.var 5)) fb73_2) (.cons (.ret (.var 7)) .nil)))))⟩
def ce74_0 : Py.Tm := (.bin .Add (.var 5) (.lst false (.cons (.tup (.cons (.var 4) (.cons (.con .non) .nil))) .nil)))
def fb74_1 : Py.Sms := (.cons (.asg (.nm 3) (.bin .Add (.var 3) (.comp false [5] (.nm 5) (.val (.var 3)) .nil ce74_0))) .nil)
def fb74_2 : Py.Sms := (.cons (.asg (.nm 10) (.call 34 (.cons (.bin .Add (.ix (.var 7) (.con (.int 0))) (.bin .Mult (.ix (.var 1) (.var 4)) (.ix (.var 7) (.con (.int 1))))) (.cons (.ix (.var 7) (.con (.int 1))) .nil)))) (.cons (.asg (.nm 11) (.ite (.var 8) (.call 73 (.cons (.var 0) (.cons (.var 1) (.cons (.ix (.var 0) (.var 6)) (.cons (.var 10) (.cons (.var 2) .nil)))))) (.con .non))) (.cons (.asg (.nm 8) (.cmp .notN (.var 11) (.con .non))) (.cons (.ite (.var 8) (.cons (.asg (.nm 12) (.bin .Mult (.bin .Sub (.ix (.var 0) (.var 6)) (.ix (.var 0) (.var 4))) (.ix (.var 11) (.con (.int 0))))) (.cons (.asg (.nm 7) (.call 34 (.cons (.bin .Add (.bin .Mult (.ix (.var 7) (.con (.int 0))) (.ix (.var 11) (.con (.int 1)))) (.bin .Mult (.var 12) (.ix (.var 7) (.con (.int 1))))) (.cons (.bin .Mult (.ix (.var 7) (.con (.int 1))) (.ix (.var 11) (.con (.int 1)))) .nil)))) (.cons (.asg (.nm 6) (.var 4)) .nil))) .nil) .nil))))
def fb74_3 : Py.Sms := (.cons (.asg (.tp (.cons (.nm 6) (.cons (.nm 7) (.cons (.nm 8) .nil)))) (.tup (.cons (.con (.int 0)) (.cons (.tup (.cons (.con (.int 0)) (.cons (.con (.int 1)) .nil))) (.cons (.con (.bl true)) .nil))))) (.cons (.for_ (.tp (.cons (.nm 4) (.cons (.nm 9) .nil))) (.val (.sl (.var 5) (.con (.int 1)) (.con .non))) fb74_2) (.cons (.ite (.and (.var 8) (.cmp .le (.bin .Mult (.ix (.var 0) (.var 6)) (.ix (.var 2) (.con (.int 1)))) (.bin .Mult (.ix (.var 2) (.con (.int 0))) (.ix (.var 0) (.bin .Sub (.bi .len (.cons (.var 0) .nil)) (.con (.int 1))))))) (.cons (.ret (.con (.bl true))) .nil) .nil) .nil)))
def fd74 : FD := ⟨3, 13, false, (.cons (.asg (.nm 3) (.lst false (.cons (.lst false (.cons (.tup (.cons (.con (.int 0)) (.cons (.tup (.cons (.con (.int 0)) (.cons (.con (.int 1)) .nil))) .nil))) .nil)) .nil))) (.cons (.for_ (.nm 4) (.rng (.cons (.con (.int 1)) (.cons (.bi .len (.cons (.var 0) .nil)) .nil))) fb74_1) (.cons (.for_ (.nm 5) (.val (.var 3)) fb74_3) (.cons (.ret (.con (.bl false))) .nil))))⟩
def fb75_0 : Py.Sms := (.cons (.asg (.nm 9) (.call 59 (.cons (.var 5) (.cons (.var 6) (.cons (.call 50 (.cons (.var 1) (.cons (.bi .len (.cons (.var 5) .nil)) .nil))) .nil))))) (.cons (.ite (.and (.cmp .notN (.var 9) (.con .non)) (.call 35 (.cons (.ix (.var 9) (.con (.int 0))) (.cons (.var 3) .nil)))) (.cons (.ret (.con (.bl false))) .nil) .nil) .nil))
def fb75_1 : Py.Sms := (.cons (.asg (.tp (.cons (.nm 5) (.cons (.nm 6) .nil))) (.call 7 (.cons (.var 1) .nil))) (.cons (.par [7, 8] (.cons (.new "Stages" 13 true (.cons (.var 5) (.cons (.var 6) .nil))) (.cons (.bin .Add (.con (.int 1)) (.call 4 (.cons (.var 1) (.cons (.call 6 (.cons (.var 1) (.cons (.lst false (.cons (.con (.int 3)) (.cons (.con (.int 20)) (.cons (.con (.int 100)) .nil)))) .nil))) .nil)))) .nil))) (.cons (.asg (.nm 3) (.call 34 (.cons (.bin .Add (.var 8) (.call 4 (.cons (.var 1) (.cons (.call 6 (.cons (.var 1) (.cons (.lst false (.cons (.bin .Add (.var 8) (.con (.int 1))) (.cons (.bin .Add (.bin .Mult (.con (.int 2)) (.var 8)) (.con (.int 1))) .nil))) .nil))) .nil)))) (.cons (.var 8) .nil)))) (.cons (.asg (.nm 4) (.call 72 (.cons (.var 7) (.cons (.var 3) .nil)))) (.cons (.ite (.cmp .ne (.cmp .notN (.var 4) (.con .non)) (.call 74 (.cons (.var 5) (.cons (.var 6) (.cons (.var 3) .nil))))) (.cons (.ret (.con (.bl false))) .nil) .nil) (.cons (.ite (.cmp .notN (.var 4) (.con .non)) (.cons (.asg (.nm 9) (.call 59 (.cons (.var 5) (.cons (.var 6) (.cons (.var 4) .nil))))) (.cons (.ite (.or (.cmp .isN (.var 9) (.con .non)) (.or (.not (.call 35 (.cons (.ix (.var 9) (.con (.int 0))) (.cons (.var 3) .nil)))) (.cmp .isN (.call 57 (.cons (.var 7) (.cons (.var 4) .nil))) (.con .non)))) (.cons (.ret (.con (.bl false))) .nil) .nil) .nil)) (.cons (.for_ (.nm 10) (.rng (.cons (.con (.int 4)) .nil)) fb75_0) .nil)) .nil))))))
def fd75 : FD := ⟨1, 11, false, (.cons (.asg (.nm 1) (.call 3 (.cons (.var 0) (.cons (.con (.int 6)) .nil)))) (.cons (.for_ (.nm 2) (.rng (.cons (.con (.int 3)) .nil)) fb75_1) (.cons (.ret (.con (.bl true))) .nil)))⟩
def ce109_0 : Py.Tm := (.cmp .inS (.var 6) (.con (.str "0123456789")))
def fd109 : FD := ⟨5, 7, false, (.cons (.asg (.nm 5) (.ite (.cmp .lt (.var 1) (.bi .len (.cons (.var 0) .nil))) (.ix (.var 0) (.var 1)) (.con (.str "")))) (.cons (.ite (.or (.not (.cha .le .le (.con (.int 1)) (.bi .len (.cons (.var 5) .nil)) (.gco "MOST_FIGURES" (.int 7)))) (.not (.bi .all (.cons (.comp false [6] (.nm 6) (.txt (.var 5)) .nil ce109_0) .nil)))) (.cons (.rai "InvalidText" ["line", "word"] (.cons (.var 4) (.cons (.bin .Add (.var 1) (.con (.int 1))) .nil))) .nil) .nil) (.cons (.ite (.or (.cmp .ne (.sti (.ist (.var 5))) (.var 5)) (.not (.cha .le .le (.var 2) (.ist (.var 5)) (.var 3)))) (.cons (.rai "InvalidText" ["line", "word"] (.cons (.var 4) (.cons (.bin .Add (.var 1) (.con (.int 1))) .nil))) .nil) .nil) (.cons (.ret (.ist (.var 5))) .nil))))⟩
def cc110_0 : Py.Tms := (.cons (.cmp .ne (.var 7) (.con (.str ""))) .nil)
def ce110_1 : Py.Tm := (.var 7)
def fb110_2 : Py.Sms := (.cons (.asg (.nm 5) (.comp false [7] (.nm 7) (.val (.tsp (.var 4) (.con (.str " ")))) cc110_0 ce110_1)) (.cons (.ite (.or (.cmp .gt (.var 3) (.gco "MOST_STAGES" (.int 6))) (.cmp .ne (.sl (.var 5) (.con .non) (.con (.int 1))) (.lst false (.cons (.con (.str "stage")) .nil)))) (.cons (.rai "InvalidText" ["line", "word"] (.cons (.var 3) (.cons (.con (.int 1)) .nil))) .nil) .nil) (.cons (.ex (.bm .append (.var 1) (.cons (.call 109 (.cons (.var 5) (.cons (.con (.int 1)) (.cons (.con (.int 0)) (.cons (.ite (.cmp .ne (.var 1) (.lst false .nil)) (.bin .Sub (.ix (.var 1) (.neg (.con (.int 1)))) (.con (.int 1))) (.gco "MOST_RATE" (.int 1000))) (.cons (.var 3) .nil)))))) .nil))) (.cons (.asg (.nm 6) (.ite (.cmp .ne (.var 2) (.lst false .nil)) (.bin .Add (.ix (.var 2) (.neg (.con (.int 1)))) (.con (.int 1))) (.con (.int 0)))) (.cons (.ex (.bm .append (.var 2) (.cons (.call 109 (.cons (.var 5) (.cons (.con (.int 2)) (.cons (.var 6) (.cons (.ite (.cmp .ne (.var 2) (.lst false .nil)) (.gco "MOST_PRICE" (.int 10000)) (.con (.int 0))) (.cons (.var 3) .nil)))))) .nil))) (.cons (.ite (.cmp .gt (.bi .len (.cons (.var 5) .nil)) (.con (.int 3))) (.cons (.rai "InvalidText" ["line", "word"] (.cons (.var 3) (.cons (.con (.int 4)) .nil))) .nil) .nil) .nil))))))
def fd110 : FD := ⟨1, 8, false, (.cons (.par [1, 2] (.cons (.lst true .nil) (.cons (.lst true .nil) .nil))) (.cons (.for_ (.tp (.cons (.nm 3) (.cons (.nm 4) .nil))) (.enk (.tsp (.var 0) (.con (.str "\n"))) (.con (.int 1))) fb110_2) (.cons (.ite (.cmp .lt (.bi .len (.cons (.var 1) .nil)) (.con (.int 2))) (.cons (.rai "InvalidText" ["line", "word"] (.cons (.con (.int 2)) (.cons (.con (.int 1)) .nil))) .nil) .nil) (.cons (.ret (.new "Stages" 13 true (.cons (.bi .tuple (.cons (.var 1) .nil)) (.cons (.bi .tuple (.cons (.var 2) .nil)) .nil)))) .nil))))⟩
def cc113_0 : Py.Tms := (.cons (.cmp .notIn (.var 3) (.con (.str "0123456789"))) .nil)
def ce113_1 : Py.Tm := (.var 3)
def fd113 : FD := ⟨3, 4, false, (.cons (.ite (.or (.cmp .eq (.var 0) (.con (.str ""))) (.or (.cmp .gt (.bi .len (.cons (.var 0) .nil)) (.con (.int 7))) (.cmp .ne (.comp false [3] (.nm 3) (.txt (.var 0)) cc113_0 ce113_1) (.lst false .nil)))) (.cons (.ret (.con (.bl false))) .nil) .nil) (.cons (.ret (.and (.or (.cmp .eq (.var 0) (.con (.str "0"))) (.cmp .ne (.ixs (.var 0) (.con (.int 0))) (.con (.str "0")))) (.cha .le .le (.var 1) (.ist (.var 0)) (.var 2)))) .nil))⟩
def fd114 : FD := ⟨4, 4, false, (.cons (.ite (.or (.cmp .gt (.var 0) (.con (.int 5))) (.or (.cmp .eq (.var 1) (.lst false .nil)) (.cmp .ne (.ix (.var 1) (.con (.int 0))) (.con (.str "stage"))))) (.cons (.ret (.con (.int 1))) .nil) .nil) (.cons (.ite (.or (.cmp .lt (.bi .len (.cons (.var 1) .nil)) (.con (.int 2))) (.not (.call 113 (.cons (.ix (.var 1) (.con (.int 1))) (.cons (.con (.int 0)) (.cons (.bin .Sub (.var 2) (.con (.int 1))) .nil)))))) (.cons (.ret (.con (.int 2))) .nil) .nil) (.cons (.ite (.or (.cmp .lt (.bi .len (.cons (.var 1) .nil)) (.con (.int 3))) (.not (.call 113 (.cons (.ix (.var 1) (.con (.int 2))) (.cons (.bin .Add (.var 3) (.con (.int 1))) (.cons (.ite (.cmp .gt (.var 0) (.con (.int 0))) (.con (.int 10000)) (.con (.int 0))) .nil)))))) (.cons (.ret (.con (.int 3))) .nil) .nil) (.cons (.ret (.ite (.cmp .gt (.bi .len (.cons (.var 1) .nil)) (.con (.int 3))) (.con (.int 4)) (.con .non))) .nil))))⟩
def cc115_0 : Py.Tms := (.cons (.cmp .ne (.var 6) (.con (.str ""))) .nil)
def ce115_1 : Py.Tm := (.var 6)
def fb115_2 : Py.Sms := (.cons (.asg (.nm 4) (.comp false [6] (.nm 6) (.val (.tsp (.ix (.var 0) (.var 1)) (.con (.str " ")))) cc115_0 ce115_1)) (.cons (.asg (.nm 5) (.call 114 (.cons (.var 1) (.cons (.var 4) (.cons (.var 2) (.cons (.var 3) .nil)))))) (.cons (.ite (.cmp .notN (.var 5) (.con .non)) (.cons (.ret (.tup (.cons (.bin .Add (.var 1) (.con (.int 1))) (.cons (.var 5) .nil)))) .nil) .nil) (.cons (.par [2, 3] (.cons (.ist (.ix (.var 4) (.con (.int 1)))) (.cons (.ist (.ix (.var 4) (.con (.int 2)))) .nil))) .nil))))
def fd115 : FD := ⟨1, 7, false, (.cons (.asg (.tp (.cons (.nm 2) (.cons (.nm 3) .nil))) (.tup (.cons (.con (.int 1001)) (.cons (.neg (.con (.int 1))) .nil)))) (.cons (.for_ (.nm 1) (.rng (.cons (.bi .len (.cons (.var 0) .nil)) .nil)) fb115_2) (.cons (.ret (.ite (.cmp .lt (.bi .len (.cons (.var 0) .nil)) (.con (.int 2))) (.tup (.cons (.con (.int 2)) (.cons (.con (.int 1)) .nil))) (.con .non))) .nil)))⟩
def fd116 : FD := ⟨1, 3, false, (.cons (.asg (.nm 1) (.con .non)) (.cons (.try_ (.cons (.ex (.call 110 (.cons (.var 0) .nil))) .nil) (some 2) ["BadPrices", "BadRates", "InvalidText"] [("InvalidText", (.asg 1 (.isi "StageError" (.tup [(.fld "line"), (.fld "word")]) (.tup []))))]) (.cons (.ret (.var 1)) .nil)))⟩
def fd117 : FD := ⟨3, 8, false, (.cons (.par [5, 6] (.cons (.call 4 (.cons (.var 0) (.cons (.bi .len (.cons (.var 1) .nil)) .nil))) (.cons (.call 4 (.cons (.var 0) (.cons (.con (.int 7)) .nil))) .nil))) (.cons (.asg (.nm 3) (.tsp (.ix (.var 1) (.var 5)) (.con (.str " ")))) (.cons (.asg (.nm 4) (.call 4 (.cons (.var 0) (.cons (.bin .Add (.bi .len (.cons (.var 3) .nil)) (.con (.int 1))) .nil)))) (.cons (.ite (.cmp .lt (.var 6) (.con (.int 3))) (.cons (.asg (.nm 7) (.tjn (.con (.str " ")) (.bin .Add (.bin .Add (.sl (.var 3) (.con .non) (.var 4)) (.lst false (.cons (.call 6 (.cons (.var 0) (.cons (.var 2) .nil))) .nil))) (.sl (.var 3) (.bin .Add (.var 4) (.bi .min2 (.cons (.var 6) (.cons (.con (.int 1)) .nil)))) (.con .non))))) (.cons (.ret (.bin .Add (.bin .Add (.sl (.var 1) (.con .non) (.var 5)) (.lst false (.cons (.var 7) .nil))) (.sl (.var 1) (.bin .Add (.var 5) (.con (.int 1))) (.con .non)))) .nil)) .nil) (.cons (.ite (.cmp .eq (.var 6) (.con (.int 3))) (.cons (.ret (.bin .Add (.bin .Add (.sl (.var 1) (.con .non) (.var 5)) (.lst false (.cons (.tjn (.con (.str " ")) (.sl (.var 3) (.con .non) (.var 4))) .nil))) (.sl (.var 1) (.bin .Add (.var 5) (.con (.int 1))) (.con .non)))) .nil) .nil) (.cons (.ite (.cmp .eq (.var 6) (.con (.int 4))) (.cons (.ret (.bin .Add (.bin .Add (.sl (.var 1) (.con .non) (.bin .Add (.var 5) (.con (.int 1)))) (.lst false (.cons (.call 6 (.cons (.var 0) (.cons (.lst false (.cons (.con (.str "")) (.cons (.con (.str "stage")) (.cons (.ix (.var 1) (.var 5)) (.cons (.con (.str "stage 0 9999")) .nil))))) .nil))) .nil))) (.sl (.var 1) (.bin .Add (.var 5) (.con (.int 1))) (.con .non)))) .nil) .nil) (.cons (.ret (.ite (.cmp .eq (.var 6) (.con (.int 5))) (.sl (.var 1) (.con .non) (.bi .max2 (.cons (.con (.int 1)) (.cons (.var 5) .nil)))) (.bin .Add (.sl (.var 1) (.var 5) (.con .non)) (.sl (.var 1) (.con .non) (.var 5))))) .nil)))))))⟩
def ce118_0 : Py.Tm := (.bin .Add (.bin .Add (.bin .Add (.con (.str "stage ")) (.sti (.ix (.var 8) (.var 10)))) (.con (.str " "))) (.sti (.ix (.var 9) (.var 10))))
def fb118_1 : Py.Sms := (.cons (.asg (.nm 6) (.call 117 (.cons (.var 1) (.cons (.var 6) (.cons (.var 2) .nil))))) .nil)
def fb118_2 : Py.Sms := (.cons (.asg (.tp (.cons (.nm 8) (.cons (.nm 9) .nil))) (.call 7 (.cons (.var 1) .nil))) (.cons (.asg (.nm 6) (.comp false [10] (.nm 10) (.rng (.cons (.bi .len (.cons (.var 8) .nil)) .nil)) .nil ce118_0)) (.cons (.for_ (.nm 7) (.rng (.cons (.call 6 (.cons (.var 1) (.cons (.lst false (.cons (.con (.int 0)) (.cons (.con (.int 1)) (.cons (.con (.int 1)) (.cons (.con (.int 2)) .nil))))) .nil))) .nil)) fb118_1) (.cons (.ite (.not (.call 5 (.cons (.call 116 (.cons (.tjn (.con (.str "\n")) (.var 6)) .nil)) (.cons (.call 115 (.cons (.var 6) .nil)) .nil)))) (.cons (.ret (.con (.bl false))) .nil) .nil) .nil))))
def ce118_3 : Py.Tm := (.bin .Add (.bin .Add (.bin .Add (.con (.str "stage ")) (.sti (.bin .Sub (.con (.int 9)) (.var 10)))) (.con (.str " "))) (.sti (.var 10)))
def ce118_4 : Py.Tm := (.call 116 (.cons (.var 11) .nil))
def fd118 : FD := ⟨1, 12, false, (.cons (.asg (.nm 1) (.call 3 (.cons (.var 0) (.cons (.con (.int 11)) .nil)))) (.cons (.asg (.nm 2) (.lst false (.cons (.con (.str "")) (.cons (.con (.str "0")) (.cons (.con (.str "1")) (.cons (.con (.str "7")) (.cons (.con (.str "02")) (.cons (.con (.str "-1")) (.cons (.con (.str "1000")) (.cons (.con (.str "1001")) (.cons (.con (.str "10000")) (.cons (.con (.str "10001")) (.cons (.con (.str "x")) (.cons (.con (.str "+1")) (.cons (.con (.str "1.0")) (.cons (.con (.str "stage")) (.cons (.con (.str "Stage")) (.cons (.con (.str "	")) .nil)))))))))))))))))) (.cons (.for_ (.nm 3) (.rng (.cons (.con (.int 6)) .nil)) fb118_2) (.cons (.asg (.nm 4) (.lst true (.cons (.con (.str "")) (.cons (.con (.str "stage")) (.cons (.con (.str "stage 5")) (.cons (.con (.str "stage 5 0")) (.cons (.con (.str "stage 5 1")) (.cons (.con (.str "stage 5 0\nstage 5 1")) (.cons (.con (.str "stage 5 0\nstage 4 0")) .nil))))))))) (.cons (.ex (.bm .append (.var 4) (.cons (.tjn (.con (.str "\n")) (.comp false [10] (.nm 10) (.rng (.cons (.con (.int 7)) .nil)) .nil ce118_3)) .nil))) (.cons (.asg (.nm 5) (.lst false (.cons (.tup (.cons (.con (.int 1)) (.cons (.con (.int 1)) .nil))) (.cons (.tup (.cons (.con (.int 1)) (.cons (.con (.int 2)) .nil))) (.cons (.tup (.cons (.con (.int 1)) (.cons (.con (.int 3)) .nil))) (.cons (.tup (.cons (.con (.int 2)) (.cons (.con (.int 1)) .nil))) (.cons (.tup (.cons (.con (.int 1)) (.cons (.con (.int 3)) .nil))) (.cons (.tup (.cons (.con (.int 2)) (.cons (.con (.int 2)) .nil))) (.cons (.tup (.cons (.con (.int 2)) (.cons (.con (.int 3)) .nil))) (.cons (.tup (.cons (.con (.int 7)) (.cons (.con (.int 1)) .nil))) .nil)))))))))) (.cons (.ret (.cmp .eq (.comp false [11] (.nm 11) (.val (.var 4)) .nil ce118_4) (.var 5))) .nil)))))))⟩
def fd146 : FD := ⟨1, 1, false, (.cons (.ite (.or (.not (.call 25 (.cons (.var 0) .nil))) (.cmp .eq (.ix (.var 0) (.con (.int 0))) (.con (.int 0)))) (.cons (.rai "BadWait" [] .nil) .nil) .nil) .nil)⟩
def fd147 : FD := ⟨3, 3, false, (.cons (.ret (.call 53 (.cons (.call 47 (.cons (.var 0) (.cons (.var 1) (.cons (.var 2) (.cons (.con (.bl false)) .nil))))) (.cons (.ix (.call 28 (.cons (.var 0) (.cons (.var 2) .nil))) (.con (.int 0))) .nil)))) .nil)⟩
def fd148 : FD := ⟨3, 3, false, (.cons (.ex (.call 45 (.cons (.var 0) (.cons (.var 1) .nil)))) (.cons (.ex (.call 146 (.cons (.var 2) .nil))) (.cons (.ret (.call 147 (.cons (.var 0) (.cons (.var 1) (.cons (.var 2) .nil))))) .nil)))⟩
def fd149 : FD := ⟨5, 5, false, (.cons (.ret (.call 43 (.cons (.call 22 (.cons (.var 3) (.cons (.ix (.call 28 (.cons (.var 0) (.cons (.var 4) .nil))) (.con (.int 0))) .nil))) (.cons (.call 21 (.cons (.var 2) (.cons (.call 22 (.cons (.tup (.cons (.var 1) (.cons (.con (.int 1)) .nil))) (.cons (.var 4) .nil))) .nil))) .nil)))) .nil)⟩
def fd150 : FD := ⟨5, 6, false, (.cons (.asg (.nm 5) (.call 68 (.cons (.var 0) (.cons (.var 1) (.cons (.var 2) (.cons (.var 3) .nil)))))) (.cons (.ite (.or (.cmp .isN (.var 5) (.con .non)) (.not (.call 23 (.cons (.var 5) (.cons (.var 4) .nil))))) (.cons (.ret (.var 5)) .nil) .nil) (.cons (.ret (.ite (.cmp .ge (.ix (.call 149 (.cons (.var 0) (.cons (.var 1) (.cons (.var 2) (.cons (.var 3) (.cons (.var 4) .nil)))))) (.con (.int 0))) (.con (.int 0))) (.var 4) (.con .non))) .nil)))⟩
def fb151_0 : Py.Sms := (.cons (.asg (.tp (.cons (.nm 8) (.cons (.nm 9) .nil))) (.ix (.fld "Stages" "rows" (.var 0)) (.var 6))) (.cons (.asg (.nm 7) (.call 150 (.cons (.var 0) (.cons (.var 5) (.cons (.call 21 (.cons (.var 3) (.cons (.tup (.cons (.var 9) (.cons (.con (.int 1)) .nil))) .nil))) (.cons (.var 1) (.cons (.var 4) .nil))))))) (.cons (.ite (.cmp .notN (.var 7) (.con .non)) (.cons (.asg (.nm 10) (.call 151 (.cons (.var 0) (.cons (.var 1) (.cons (.var 6) (.cons (.call 21 (.cons (.var 3) (.cons (.call 22 (.cons (.tup (.cons (.bin .Sub (.var 5) (.var 8)) (.cons (.con (.int 1)) .nil))) (.cons (.var 7) .nil))) .nil))) (.cons (.var 7) .nil))))))) (.cons (.ite (.cmp .notN (.var 10) (.con .non)) (.cons (.ret (.bin .Add (.tup (.cons (.tup (.cons (.var 7) (.cons (.var 6) .nil))) .nil)) (.var 10))) .nil) .nil) .nil)) .nil) .nil)))
def fd151 : FD := ⟨5, 11, false, (.cons (.ite (.call 70 (.cons (.var 0) (.cons (.var 2) (.cons (.var 1) .nil)))) (.cons (.ret (.tup .nil)) .nil) .nil) (.cons (.asg (.nm 5) (.ix (.ix (.fld "Stages" "rows" (.var 0)) (.var 2)) (.con (.int 0)))) (.cons (.for_ (.nm 6) (.rng (.cons (.bin .Add (.var 2) (.con (.int 1))) (.cons (.bi .len (.cons (.fld "Stages" "rows" (.var 0)) .nil)) .nil))) fb151_0) (.cons (.ret (.con .non)) .nil))))⟩
def wc152_0 : Py.Tm := (.cmp .notN (.ix (.ix (.var 0) (.var 3)) (.con (.int 2))) (.con .non))
def wb152_1 : Py.Sms := (.cons (.ex (.bm .append (.var 2) (.cons (.tup (.cons (.ix (.ix (.var 0) (.var 3)) (.con (.int 0))) (.cons (.var 3) .nil))) .nil))) (.cons (.asg (.nm 3) (.ix (.ix (.var 0) (.var 3)) (.con (.int 2)))) .nil))
def fd152 : FD := ⟨2, 4, false, (.cons (.par [2, 3] (.cons (.lst true .nil) (.cons (.var 1) .nil))) (.cons (.whl wc152_0 wb152_1) (.cons (.ret (.bi .tuple (.cons (.rev (.var 2)) .nil))) .nil)))⟩
def fb153_0 : Py.Sms := (.cons (.ite (.and (.cmp .notN (.var 6) (.con .non)) (.or (.cmp .eq (.var 5) (.con (.int 0))) (.call 23 (.cons (.ix (.var 6) (.con (.int 0))) (.cons (.var 2) .nil))))) (.cons (.asg (.tp (.cons (.nm 7) (.cons (.nm 8) .nil))) (.ix (.fld "Stages" "rows" (.var 0)) (.var 5))) (.cons (.ite (.cmp .ge (.ix (.call 149 (.cons (.var 0) (.cons (.var 7) (.cons (.call 21 (.cons (.ix (.var 6) (.con (.int 1))) (.cons (.tup (.cons (.var 8) (.cons (.con (.int 1)) .nil))) .nil))) (.cons (.var 1) (.cons (.var 2) .nil)))))) (.con (.int 0))) (.con (.int 0))) (.cons (.asg (.nm 9) (.call 151 (.cons (.var 0) (.cons (.var 1) (.cons (.var 5) (.cons (.ix (.var 6) (.con (.int 1))) (.cons (.var 2) .nil))))))) (.cons (.asg (.nm 10) (.call 21 (.cons (.call 21 (.cons (.ix (.var 6) (.con (.int 1))) (.cons (.tup (.cons (.var 8) (.cons (.con (.int 1)) .nil))) .nil))) (.cons (.call 22 (.cons (.tup (.cons (.var 7) (.cons (.con (.int 1)) .nil))) (.cons (.var 2) .nil))) .nil)))) (.cons (.ite (.and (.cmp .notN (.var 9) (.con .non)) (.or (.cmp .isN (.var 4) (.con .non)) (.call 23 (.cons (.var 10) (.cons (.ix (.var 4) (.con (.int 1))) .nil))))) (.cons (.asg (.nm 4) (.tup (.cons (.bin .Add (.call 152 (.cons (.var 3) (.cons (.var 5) .nil))) (.var 9)) (.cons (.var 10) .nil)))) .nil) .nil) .nil))) .nil) .nil)) .nil) .nil)
def fd153 : FD := ⟨3, 11, false, (.cons (.ex (.call 67 (.cons (.var 1) .nil))) (.cons (.ex (.call 26 (.cons (.var 2) .nil))) (.cons (.par [3, 4] (.cons (.call 69 (.cons (.var 0) (.cons (.var 1) .nil))) (.cons (.con .non) .nil))) (.cons (.for_ (.tp (.cons (.nm 5) (.cons (.nm 6) .nil))) (.enum (.cons (.var 3) .nil)) fb153_0) (.cons (.ret (.var 4)) .nil)))))⟩
def fd165 : FD := ⟨4, 6, false, (.cons (.par [4, 5] (.cons (.call 51 (.cons (.var 0) (.cons (.var 1) (.cons (.var 2) (.cons (.var 3) (.cons (.con (.bl false)) .nil)))))) (.cons (.call 38 (.cons (.var 0) (.cons (.var 1) (.cons (.var 3) .nil)))) .nil))) (.cons (.ret (.call 34 (.cons (.bin .Mult (.ix (.var 4) (.con (.int 0))) (.ix (.var 5) (.con (.int 1)))) (.cons (.bin .Mult (.ix (.var 4) (.con (.int 1))) (.ix (.var 5) (.con (.int 0)))) .nil)))) .nil))⟩
end Lw


set_option Elab.async false
set_option linter.all false
set_option maxRecDepth 100000
set_option maxHeartbeats 0
namespace Lh
open PySem PySem.Spec PyProof.Rows L2 Py Lw
abbrev top (i : Nat) : Stmt := PySem.Challenge.pw_openshut_k11_texts_refused.main.body.getD i (.Pass ⟨0, 0, 0, 0⟩)
abbrev mem (i j : Nat) : Stmt := match top i with
  | .ClassDef _ _ _ b _ _ _ _ _ _ _ => b.getD j (.Pass ⟨0, 0, 0, 0⟩)
  | _ => .Pass ⟨0, 0, 0, 0⟩
def dd0 : He.DefD := ⟨("is_integer", none), "is_integer", "is_integer", defArgs (top 6), defBody (top 6), defScope (top 6), [], []⟩
def dc0 : DefC := ⟨["thing", "low", "high"], ["thing", "low", "high"], fd0⟩
def dd1 : He.DefD := ⟨("check_rates", none), "check_rates", "check_rates", defArgs (top 11), defBody (top 11), defScope (top 11), [], []⟩
def dc1 : DefC := ⟨["thing", "most", "index", "rate"], ["thing"], fd1⟩
def dd2 : He.DefD := ⟨("check_prices", none), "check_prices", "check_prices", defArgs (top 12), defBody (top 12), defScope (top 12), [], []⟩
def dc2 : DefC := ⟨["thing", "many", "least", "index", "price"], ["thing", "many"], fd2⟩
def dd109 : He.DefD := ⟨("number_in", none), "number_in", "number_in", defArgs (top 16), defBody (top 16), defScope (top 16), [], []⟩
def dc109 : DefC := ⟨["words", "at", "low", "high", "line", "word", "sign"], ["words", "at", "low", "high", "line"], fd109⟩
def dd110 : He.DefD := ⟨("read", none), "read", "read", defArgs (top 17), defBody (top 17), defScope (top 17), [], []⟩
def dc110 : DefC := ⟨["text", "rates", "prices", "at", "line", "words", "low", "word"], ["text"], fd110⟩
def dd3 : He.DefD := ⟨("_law_mix", none), "_law_mix", "_law_mix", defArgs (top 19), defBody (top 19), defScope (top 19), [], []⟩
def dc3 : DefC := ⟨["_law_script", "_law_seed", "_law_state", "_law_cell"], ["_law_script", "_law_seed"], fd3⟩
def dd4 : He.DefD := ⟨("_law_next", none), "_law_next", "_law_next", defArgs (top 20), defBody (top 20), defScope (top 20), [], []⟩
def dc4 : DefC := ⟨["_law_h", "_law_cap", "_law_cell"], ["_law_h", "_law_cap"], fd4⟩
def dd5 : He.DefD := ⟨("_law_alike", none), "_law_alike", "_law_alike", defArgs (top 21), defBody (top 21), defScope (top 21), [], []⟩
def dc5 : DefC := ⟨["_law_found", "_law_due_here", "_law_k"], ["_law_found", "_law_due_here"], fd5⟩
def dd6 : He.DefD := ⟨("_law_pick", none), "_law_pick", "_law_pick", defArgs (top 22), defBody (top 22), defScope (top 22), [], []⟩
def dc6 : DefC := ⟨["_law_h", "_law_things"], ["_law_h", "_law_things"], fd6⟩
def dd7 : He.DefD := ⟨("_law_stages", none), "_law_stages", "_law_stages", defArgs (top 23), defBody (top 23), defScope (top 23), [], []⟩
def dc7 : DefC := ⟨["_law_h", "_law_many", "_law_k", "_law_cap", "_law_most", "_law_rates", "_law_prices"], ["_law_h"], fd7⟩
def dd113 : He.DefD := ⟨("_law_number", none), "_law_number", "_law_number", defArgs (top 24), defBody (top 24), defScope (top 24), [], []⟩
def dc113 : DefC := ⟨["_law_text", "_law_low", "_law_high", "_law_sign"], ["_law_text", "_law_low", "_law_high"], fd113⟩
def dd114 : He.DefD := ⟨("_law_wrong", none), "_law_wrong", "_law_wrong", defArgs (top 25), defBody (top 25), defScope (top 25), [], []⟩
def dc114 : DefC := ⟨["_law_k", "_law_row", "_law_rate", "_law_price"], ["_law_k", "_law_row", "_law_rate", "_law_price"], fd114⟩
def dd115 : He.DefD := ⟨("_law_due", none), "_law_due", "_law_due", defArgs (top 26), defBody (top 26), defScope (top 26), [], []⟩
def dc115 : DefC := ⟨["_law_lines", "_law_k", "_law_rate", "_law_price", "_law_row", "_law_wrong_here", "_law_one"], ["_law_lines"], fd115⟩
def dd116 : He.DefD := ⟨("_law_answer", none), "_law_answer", "_law_answer", defArgs (top 27), defBody (top 27), defScope (top 27), [], []⟩
def dc116 : DefC := ⟨["_law_text", "_law_found", "error"], ["_law_text"], fd116⟩
def dd117 : He.DefD := ⟨("_law_changed", none), "_law_changed", "_law_changed", defArgs (top 28), defBody (top 28), defScope (top 28), [], []⟩
def dc117 : DefC := ⟨["_law_h", "_law_lines", "_law_odd", "_law_row", "_law_k", "_law_spot", "_law_kind", "_law_one"], ["_law_h", "_law_lines", "_law_odd"], fd117⟩
def dd118 : He.DefD := ⟨("law", none), "law", "law", defArgs (top 29), defBody (top 29), defScope (top 29), [], []⟩
def dc118 : DefC := ⟨["_law_script", "_law_h", "_law_odd", "_law_turn", "_law_some", "_law_due_here", "_law_lines", "_law_change", "_law_rates", "_law_prices", "_law_k", "_law_text"], ["_law_script"], fd118⟩
def dd13 : He.DefD := ⟨("Stages", some "__init__"), "__init__", "Stages.__init__", defArgs (mem 13 0), defBody (mem 13 0), defScope (mem 13 0), [], []⟩
def dc13 : DefC := ⟨["self", "rates", "prices"], ["self", "rates", "prices"], fd13⟩
def dfl : List (Nat × He.DefD) := ([(0, dd0), (1, dd1), (2, dd2), (109, dd109), (110, dd110), (3, dd3), (4, dd4), (5, dd5), (6, dd6), (7, dd7), (113, dd113), (114, dd114), (115, dd115), (116, dd116), (117, dd117), (118, dd118), (13, dd13)] : List (Nat × He.DefD))
abbrev fn : List He.DefD := dfl.map (·.2)
def tbl : List (Nat × FD) := ([(0, fd0), (1, fd1), (2, fd2), (109, fd109), (110, fd110), (3, fd3), (4, fd4), (5, fd5), (6, fd6), (7, fd7), (113, fd113), (114, fd114), (115, fd115), (116, fd116), (117, fd117), (118, fd118), (13, fd13)] : List (Nat × FD))
def G : Tab where
  con := ([("MOST_FIGURES", (.int 7)), ("MOST_PRICE", (.int 10000)), ("MOST_RATE", (.int 1000)), ("MOST_STAGES", (.int 6))] : List (Str × Py.D))
  fns := ([("is_integer", 0, 3), ("check_rates", 1, 1), ("check_prices", 2, 2), ("number_in", 109, 5), ("read", 110, 1), ("_law_mix", 3, 2), ("_law_next", 4, 2), ("_law_alike", 5, 2), ("_law_pick", 6, 2), ("_law_stages", 7, 1), ("_law_number", 113, 3), ("_law_wrong", 114, 4), ("_law_due", 115, 1), ("_law_answer", 116, 1), ("_law_changed", 117, 3), ("law", 118, 1)] : List (Str × Nat × Nat))
  cls := ([("Stages", 13, 3)] : List (Str × Nat × Nat))
  na := ([("Stages", "rows")] : List (Str × Str))
  frees := (["len", "abs", "int", "min", "max", "sum", "any", "all", "tuple", "list", "range", "enumerate", "zip", "isinstance", "bool", "str"] : List (Str))
  cs := (["Stages"] : List (Str))
  xs := ([("BadPrices", (["index"] : List Str)), ("BadRates", (["index"] : List Str)), ("InvalidText", (["line", "word"] : List Str))] : List (Str × List Str))
  xc := (["InvalidText", "StageError"] : List (Str))
  xf := (["index", "line", "word"] : List (Str))
  ms := []
  ps := []
  eqs := []
theorem ok0 : defB G dd0 dc0 = true := by decide +kernel
theorem bd0 : BindD dd0 dc0.ps := fun _ _ _ _ _ _ us hl => match us, hl with | [_, _, _], _ => rfl
theorem ok1 : defB G dd1 dc1 = true := by decide +kernel
theorem bd1 : BindD dd1 dc1.ps := fun _ _ _ _ _ _ us hl => match us, hl with | [_], _ => rfl
theorem ok2 : defB G dd2 dc2 = true := by decide +kernel
theorem bd2 : BindD dd2 dc2.ps := fun _ _ _ _ _ _ us hl => match us, hl with | [_, _], _ => rfl
theorem ok109 : defB G dd109 dc109 = true := by decide +kernel
theorem bd109 : BindD dd109 dc109.ps := fun _ _ _ _ _ _ us hl => match us, hl with | [_, _, _, _, _], _ => rfl
theorem ok110 : defB G dd110 dc110 = true := by decide +kernel
theorem bd110 : BindD dd110 dc110.ps := fun _ _ _ _ _ _ us hl => match us, hl with | [_], _ => rfl
theorem ok3 : defB G dd3 dc3 = true := by decide +kernel
theorem bd3 : BindD dd3 dc3.ps := fun _ _ _ _ _ _ us hl => match us, hl with | [_, _], _ => rfl
theorem ok4 : defB G dd4 dc4 = true := by decide +kernel
theorem bd4 : BindD dd4 dc4.ps := fun _ _ _ _ _ _ us hl => match us, hl with | [_, _], _ => rfl
theorem ok5 : defB G dd5 dc5 = true := by decide +kernel
theorem bd5 : BindD dd5 dc5.ps := fun _ _ _ _ _ _ us hl => match us, hl with | [_, _], _ => rfl
theorem ok6 : defB G dd6 dc6 = true := by decide +kernel
theorem bd6 : BindD dd6 dc6.ps := fun _ _ _ _ _ _ us hl => match us, hl with | [_, _], _ => rfl
theorem ok7 : defB G dd7 dc7 = true := by decide +kernel
theorem bd7 : BindD dd7 dc7.ps := fun _ _ _ _ _ _ us hl => match us, hl with | [_], _ => rfl
theorem ok113 : defB G dd113 dc113 = true := by decide +kernel
theorem bd113 : BindD dd113 dc113.ps := fun _ _ _ _ _ _ us hl => match us, hl with | [_, _, _], _ => rfl
theorem ok114 : defB G dd114 dc114 = true := by decide +kernel
theorem bd114 : BindD dd114 dc114.ps := fun _ _ _ _ _ _ us hl => match us, hl with | [_, _, _, _], _ => rfl
theorem ok115 : defB G dd115 dc115 = true := by decide +kernel
theorem bd115 : BindD dd115 dc115.ps := fun _ _ _ _ _ _ us hl => match us, hl with | [_], _ => rfl
theorem ok116 : defB G dd116 dc116 = true := by decide +kernel
theorem bd116 : BindD dd116 dc116.ps := fun _ _ _ _ _ _ us hl => match us, hl with | [_], _ => rfl
theorem ok117 : defB G dd117 dc117 = true := by decide +kernel
theorem bd117 : BindD dd117 dc117.ps := fun _ _ _ _ _ _ us hl => match us, hl with | [_, _, _], _ => rfl
theorem ok118 : defB G dd118 dc118 = true := by decide +kernel
theorem bd118 : BindD dd118 dc118.ps := fun _ _ _ _ _ _ us hl => match us, hl with | [_], _ => rfl
theorem ok13 : defB G dd13 dc13 = true := by decide +kernel
theorem bd13 : BindD dd13 dc13.ps := fun _ _ _ _ _ _ us hl => match us, hl with | [_, _, _], _ => rfl
theorem dfs : ∀ p ∈ tbl, ∃ dd q, dfl.lookup p.1 = some dd ∧ q.fd = p.2 ∧ defB G dd q = true ∧ BindD dd q.ps := List.forall_mem_cons.mpr ⟨⟨dd0, dc0, rfl, rfl, ok0, bd0⟩, List.forall_mem_cons.mpr ⟨⟨dd1, dc1, rfl, rfl, ok1, bd1⟩, List.forall_mem_cons.mpr ⟨⟨dd2, dc2, rfl, rfl, ok2, bd2⟩, List.forall_mem_cons.mpr ⟨⟨dd109, dc109, rfl, rfl, ok109, bd109⟩, List.forall_mem_cons.mpr ⟨⟨dd110, dc110, rfl, rfl, ok110, bd110⟩, List.forall_mem_cons.mpr ⟨⟨dd3, dc3, rfl, rfl, ok3, bd3⟩, List.forall_mem_cons.mpr ⟨⟨dd4, dc4, rfl, rfl, ok4, bd4⟩, List.forall_mem_cons.mpr ⟨⟨dd5, dc5, rfl, rfl, ok5, bd5⟩, List.forall_mem_cons.mpr ⟨⟨dd6, dc6, rfl, rfl, ok6, bd6⟩, List.forall_mem_cons.mpr ⟨⟨dd7, dc7, rfl, rfl, ok7, bd7⟩, List.forall_mem_cons.mpr ⟨⟨dd113, dc113, rfl, rfl, ok113, bd113⟩, List.forall_mem_cons.mpr ⟨⟨dd114, dc114, rfl, rfl, ok114, bd114⟩, List.forall_mem_cons.mpr ⟨⟨dd115, dc115, rfl, rfl, ok115, bd115⟩, List.forall_mem_cons.mpr ⟨⟨dd116, dc116, rfl, rfl, ok116, bd116⟩, List.forall_mem_cons.mpr ⟨⟨dd117, dc117, rfl, rfl, ok117, bd117⟩, List.forall_mem_cons.mpr ⟨⟨dd118, dc118, rfl, rfl, ok118, bd118⟩, List.forall_mem_cons.mpr ⟨⟨dd13, dc13, rfl, rfl, ok13, bd13⟩, fun p hp => absurd hp (by simp)⟩⟩⟩⟩⟩⟩⟩⟩⟩⟩⟩⟩⟩⟩⟩⟩⟩
def fa : List He.Fa := [.glo "law"]
def loose : List PySem.Str := (["StageError", "BadRates", "BadPrices", "InvalidText", "is_integer", "MOST_STAGES", "MOST_RATE", "MOST_PRICE", "check_rates", "check_prices", "Stages", "MOST_FIGURES", "number_in", "read", "_law_mix", "_law_next", "_law_alike", "_law_pick", "_law_stages", "_law_number", "_law_wrong", "_law_due", "_law_answer", "_law_changed"] : List PySem.Str)
abbrev R : PySem.W.OpenRow := PySem.W.OpenLaw.row PySem.Challenge.rw_openshut_k11_texts_refused
abbrev hk : PySem.W.Hook := hookE 4 fa fn (exB (PySem.Challenge.rw_openshut_k11_texts_refused).prog G dfl)
def ob (s : PySem.W.SharedT) : He.AlD × Bool := (obsY fa fn (He.frG (HandSHeadRun.getT s) (asE (HandSHeadRun.getT s) 4)), exB (PySem.Challenge.rw_openshut_k11_texts_refused).prog G dfl (He.frG (HandSHeadRun.getT s) (asE (HandSHeadRun.getT s) 4)))
theorem ob_eq (s : PySem.W.SharedT) : ob s = hk.obs s.abs := by
  have e : HandSHeadRun.getT s = s.abs.heap.get? := funext (HandSHeadRun.getT_eq s)
  unfold ob
  rw [e]; rfl
theorem run (w : World) : HandSHeadRun.RunEq R (PySem.W.view R.prog [29]) hk ob 20000 loose w := by
  intro os
  kernel_rfl
end Lh

set_option Elab.async false
set_option linter.all false
/-! which tables hold a def and all that it calls. -/
namespace Lw
open PySem PySem.Spec PyProof.Rows L2 Py
theorem phi_eq {tbl : List (Nat × FD)} {f : Nat} {d : FD} (h : tbl.lookup f = some d) (n : Nat) (ds : List Py.D) (S : Sto) : Phi tbl (n + 1) f ds S = runF (Phi tbl n) d ds S := by
  show (match tbl.lookup f with | some fd => runF (Phi tbl n) fd ds S | none => .stuck) = _
  rw [h]
class K0 (tbl : List (Nat × FD)) : Prop where
  h0 : tbl.lookup 0 = some fd0
theorem phi0 {tbl : List (Nat × FD)} [K0 tbl] (n : Nat) (ds : List Py.D) (S : Sto) : Phi tbl (n + 1) 0 ds S = runF (Phi tbl n) fd0 ds S := phi_eq K0.h0 n ds S
class K1 (tbl : List (Nat × FD)) : Prop extends K0 tbl where
  h1 : tbl.lookup 1 = some fd1
theorem phi1 {tbl : List (Nat × FD)} [K1 tbl] (n : Nat) (ds : List Py.D) (S : Sto) : Phi tbl (n + 1) 1 ds S = runF (Phi tbl n) fd1 ds S := phi_eq K1.h1 n ds S
class K2 (tbl : List (Nat × FD)) : Prop extends K0 tbl where
  h2 : tbl.lookup 2 = some fd2
theorem phi2 {tbl : List (Nat × FD)} [K2 tbl] (n : Nat) (ds : List Py.D) (S : Sto) : Phi tbl (n + 1) 2 ds S = runF (Phi tbl n) fd2 ds S := phi_eq K2.h2 n ds S
class K3 (tbl : List (Nat × FD)) : Prop where
  h3 : tbl.lookup 3 = some fd3
theorem phi3 {tbl : List (Nat × FD)} [K3 tbl] (n : Nat) (ds : List Py.D) (S : Sto) : Phi tbl (n + 1) 3 ds S = runF (Phi tbl n) fd3 ds S := phi_eq K3.h3 n ds S
class K4 (tbl : List (Nat × FD)) : Prop where
  h4 : tbl.lookup 4 = some fd4
theorem phi4 {tbl : List (Nat × FD)} [K4 tbl] (n : Nat) (ds : List Py.D) (S : Sto) : Phi tbl (n + 1) 4 ds S = runF (Phi tbl n) fd4 ds S := phi_eq K4.h4 n ds S
class K5 (tbl : List (Nat × FD)) : Prop where
  h5 : tbl.lookup 5 = some fd5
theorem phi5 {tbl : List (Nat × FD)} [K5 tbl] (n : Nat) (ds : List Py.D) (S : Sto) : Phi tbl (n + 1) 5 ds S = runF (Phi tbl n) fd5 ds S := phi_eq K5.h5 n ds S
class K6 (tbl : List (Nat × FD)) : Prop extends K4 tbl where
  h6 : tbl.lookup 6 = some fd6
theorem phi6 {tbl : List (Nat × FD)} [K6 tbl] (n : Nat) (ds : List Py.D) (S : Sto) : Phi tbl (n + 1) 6 ds S = runF (Phi tbl n) fd6 ds S := phi_eq K6.h6 n ds S
class K7 (tbl : List (Nat × FD)) : Prop extends K4 tbl, K6 tbl where
  h7 : tbl.lookup 7 = some fd7
theorem phi7 {tbl : List (Nat × FD)} [K7 tbl] (n : Nat) (ds : List Py.D) (S : Sto) : Phi tbl (n + 1) 7 ds S = runF (Phi tbl n) fd7 ds S := phi_eq K7.h7 n ds S
class K13 (tbl : List (Nat × FD)) : Prop extends K1 tbl, K2 tbl where
  h13 : tbl.lookup 13 = some fd13
theorem phi13 {tbl : List (Nat × FD)} [K13 tbl] (n : Nat) (ds : List Py.D) (S : Sto) : Phi tbl (n + 1) 13 ds S = runF (Phi tbl n) fd13 ds S := phi_eq K13.h13 n ds S
class K18 (tbl : List (Nat × FD)) : Prop where
  h18 : tbl.lookup 18 = some fd18
class K19 (tbl : List (Nat × FD)) : Prop extends K18 tbl where
  h19 : tbl.lookup 19 = some fd19
class K20 (tbl : List (Nat × FD)) : Prop extends K18 tbl where
  h20 : tbl.lookup 20 = some fd20
class K21 (tbl : List (Nat × FD)) : Prop extends K19 tbl where
  h21 : tbl.lookup 21 = some fd21
class K22 (tbl : List (Nat × FD)) : Prop extends K19 tbl where
  h22 : tbl.lookup 22 = some fd22
class K23 (tbl : List (Nat × FD)) : Prop where
  h23 : tbl.lookup 23 = some fd23
class K25 (tbl : List (Nat × FD)) : Prop extends K20 tbl where
  h25 : tbl.lookup 25 = some fd25
class K26 (tbl : List (Nat × FD)) : Prop extends K25 tbl where
  h26 : tbl.lookup 26 = some fd26
class K27 (tbl : List (Nat × FD)) : Prop extends K21 tbl, K22 tbl where
  h27 : tbl.lookup 27 = some fd27
class K28 (tbl : List (Nat × FD)) : Prop extends K23 tbl, K27 tbl where
  h28 : tbl.lookup 28 = some fd28
class K29 (tbl : List (Nat × FD)) : Prop extends K26 tbl, K28 tbl where
  h29 : tbl.lookup 29 = some fd29
class K30 (tbl : List (Nat × FD)) : Prop extends K26 tbl, K28 tbl where
  h30 : tbl.lookup 30 = some fd30
class K31 (tbl : List (Nat × FD)) : Prop extends K19 tbl where
  h31 : tbl.lookup 31 = some fd31
class K32 (tbl : List (Nat × FD)) : Prop extends K23 tbl, K31 tbl where
  h32 : tbl.lookup 32 = some fd32
class K33 (tbl : List (Nat × FD)) : Prop extends K32 tbl where
  h33 : tbl.lookup 33 = some fd33
class K34 (tbl : List (Nat × FD)) : Prop where
  h34 : tbl.lookup 34 = some fd34
class K35 (tbl : List (Nat × FD)) : Prop where
  h35 : tbl.lookup 35 = some fd35
class K37 (tbl : List (Nat × FD)) : Prop extends K4 tbl, K6 tbl, K34 tbl where
  h37 : tbl.lookup 37 = some fd37
class K38 (tbl : List (Nat × FD)) : Prop extends K34 tbl where
  h38 : tbl.lookup 38 = some fd38
class K39 (tbl : List (Nat × FD)) : Prop where
  h39 : tbl.lookup 39 = some fd39
class K40 (tbl : List (Nat × FD)) : Prop extends K3 tbl, K5 tbl, K6 tbl, K7 tbl, K13 tbl, K29 tbl, K30 tbl, K33 tbl, K34 tbl, K35 tbl, K37 tbl, K38 tbl, K39 tbl where
  h40 : tbl.lookup 40 = some fd40
class K43 (tbl : List (Nat × FD)) : Prop extends K19 tbl where
  h43 : tbl.lookup 43 = some fd43
class K44 (tbl : List (Nat × FD)) : Prop extends K0 tbl, K25 tbl where
  h44 : tbl.lookup 44 = some fd44
class K45 (tbl : List (Nat × FD)) : Prop extends K23 tbl, K44 tbl where
  h45 : tbl.lookup 45 = some fd45
class K46 (tbl : List (Nat × FD)) : Prop extends K23 tbl where
  h46 : tbl.lookup 46 = some fd46
class K47 (tbl : List (Nat × FD)) : Prop extends K21 tbl, K22 tbl, K23 tbl, K43 tbl, K46 tbl where
  h47 : tbl.lookup 47 = some fd47
class K48 (tbl : List (Nat × FD)) : Prop extends K26 tbl, K45 tbl, K47 tbl where
  h48 : tbl.lookup 48 = some fd48
class K49 (tbl : List (Nat × FD)) : Prop extends K34 tbl where
  h49 : tbl.lookup 49 = some fd49
class K50 (tbl : List (Nat × FD)) : Prop extends K4 tbl, K35 tbl, K37 tbl where
  h50 : tbl.lookup 50 = some fd50
class K51 (tbl : List (Nat × FD)) : Prop extends K34 tbl, K35 tbl, K49 tbl where
  h51 : tbl.lookup 51 = some fd51
class K52 (tbl : List (Nat × FD)) : Prop extends K3 tbl, K5 tbl, K7 tbl, K13 tbl, K37 tbl, K48 tbl, K50 tbl, K51 tbl where
  h52 : tbl.lookup 52 = some fd52
class K53 (tbl : List (Nat × FD)) : Prop extends K19 tbl where
  h53 : tbl.lookup 53 = some fd53
class K55 (tbl : List (Nat × FD)) : Prop extends K23 tbl, K32 tbl where
  h55 : tbl.lookup 55 = some fd55
class K56 (tbl : List (Nat × FD)) : Prop extends K19 tbl, K23 tbl, K28 tbl, K47 tbl, K53 tbl, K55 tbl where
  h56 : tbl.lookup 56 = some fd56
class K57 (tbl : List (Nat × FD)) : Prop extends K45 tbl, K56 tbl where
  h57 : tbl.lookup 57 = some fd57
class K58 (tbl : List (Nat × FD)) : Prop extends K34 tbl where
  h58 : tbl.lookup 58 = some fd58
class K59 (tbl : List (Nat × FD)) : Prop extends K34 tbl, K35 tbl, K38 tbl, K51 tbl, K58 tbl where
  h59 : tbl.lookup 59 = some fd59
class K60 (tbl : List (Nat × FD)) : Prop extends K3 tbl, K5 tbl, K7 tbl, K13 tbl, K34 tbl, K35 tbl, K37 tbl, K38 tbl, K50 tbl, K51 tbl, K57 tbl, K58 tbl, K59 tbl where
  h60 : tbl.lookup 60 = some fd60
class K61 (tbl : List (Nat × FD)) : Prop extends K32 tbl where
  h61 : tbl.lookup 61 = some fd61
class K66 (tbl : List (Nat × FD)) : Prop extends K3 tbl, K5 tbl, K7 tbl, K13 tbl, K33 tbl, K57 tbl, K59 tbl, K61 tbl where
  h66 : tbl.lookup 66 = some fd66
class K67 (tbl : List (Nat × FD)) : Prop extends K20 tbl where
  h67 : tbl.lookup 67 = some fd67
class K68 (tbl : List (Nat × FD)) : Prop extends K21 tbl, K22 tbl, K23 tbl, K27 tbl, K32 tbl, K43 tbl, K53 tbl where
  h68 : tbl.lookup 68 = some fd68
class K69 (tbl : List (Nat × FD)) : Prop extends K21 tbl, K22 tbl, K23 tbl, K68 tbl where
  h69 : tbl.lookup 69 = some fd69
class K70 (tbl : List (Nat × FD)) : Prop extends K22 tbl, K23 tbl where
  h70 : tbl.lookup 70 = some fd70
class K71 (tbl : List (Nat × FD)) : Prop extends K69 tbl, K70 tbl where
  h71 : tbl.lookup 71 = some fd71
class K72 (tbl : List (Nat × FD)) : Prop extends K67 tbl, K71 tbl where
  h72 : tbl.lookup 72 = some fd72
class K73 (tbl : List (Nat × FD)) : Prop extends K34 tbl, K35 tbl, K38 tbl where
  h73 : tbl.lookup 73 = some fd73
class K74 (tbl : List (Nat × FD)) : Prop extends K34 tbl, K73 tbl where
  h74 : tbl.lookup 74 = some fd74
class K75 (tbl : List (Nat × FD)) : Prop extends K3 tbl, K4 tbl, K6 tbl, K7 tbl, K13 tbl, K34 tbl, K35 tbl, K50 tbl, K57 tbl, K59 tbl, K72 tbl, K74 tbl where
  h75 : tbl.lookup 75 = some fd75
class K109 (tbl : List (Nat × FD)) : Prop where
  h109 : tbl.lookup 109 = some fd109
theorem phi109 {tbl : List (Nat × FD)} [K109 tbl] (n : Nat) (ds : List Py.D) (S : Sto) : Phi tbl (n + 1) 109 ds S = runF (Phi tbl n) fd109 ds S := phi_eq K109.h109 n ds S
class K110 (tbl : List (Nat × FD)) : Prop extends K13 tbl, K109 tbl where
  h110 : tbl.lookup 110 = some fd110
theorem phi110 {tbl : List (Nat × FD)} [K110 tbl] (n : Nat) (ds : List Py.D) (S : Sto) : Phi tbl (n + 1) 110 ds S = runF (Phi tbl n) fd110 ds S := phi_eq K110.h110 n ds S
class K113 (tbl : List (Nat × FD)) : Prop where
  h113 : tbl.lookup 113 = some fd113
theorem phi113 {tbl : List (Nat × FD)} [K113 tbl] (n : Nat) (ds : List Py.D) (S : Sto) : Phi tbl (n + 1) 113 ds S = runF (Phi tbl n) fd113 ds S := phi_eq K113.h113 n ds S
class K114 (tbl : List (Nat × FD)) : Prop extends K113 tbl where
  h114 : tbl.lookup 114 = some fd114
theorem phi114 {tbl : List (Nat × FD)} [K114 tbl] (n : Nat) (ds : List Py.D) (S : Sto) : Phi tbl (n + 1) 114 ds S = runF (Phi tbl n) fd114 ds S := phi_eq K114.h114 n ds S
class K115 (tbl : List (Nat × FD)) : Prop extends K114 tbl where
  h115 : tbl.lookup 115 = some fd115
theorem phi115 {tbl : List (Nat × FD)} [K115 tbl] (n : Nat) (ds : List Py.D) (S : Sto) : Phi tbl (n + 1) 115 ds S = runF (Phi tbl n) fd115 ds S := phi_eq K115.h115 n ds S
class K116 (tbl : List (Nat × FD)) : Prop extends K110 tbl where
  h116 : tbl.lookup 116 = some fd116
theorem phi116 {tbl : List (Nat × FD)} [K116 tbl] (n : Nat) (ds : List Py.D) (S : Sto) : Phi tbl (n + 1) 116 ds S = runF (Phi tbl n) fd116 ds S := phi_eq K116.h116 n ds S
class K117 (tbl : List (Nat × FD)) : Prop extends K4 tbl, K6 tbl where
  h117 : tbl.lookup 117 = some fd117
theorem phi117 {tbl : List (Nat × FD)} [K117 tbl] (n : Nat) (ds : List Py.D) (S : Sto) : Phi tbl (n + 1) 117 ds S = runF (Phi tbl n) fd117 ds S := phi_eq K117.h117 n ds S
class K118 (tbl : List (Nat × FD)) : Prop extends K3 tbl, K5 tbl, K6 tbl, K7 tbl, K115 tbl, K116 tbl, K117 tbl where
  h118 : tbl.lookup 118 = some fd118
theorem phi118 {tbl : List (Nat × FD)} [K118 tbl] (n : Nat) (ds : List Py.D) (S : Sto) : Phi tbl (n + 1) 118 ds S = runF (Phi tbl n) fd118 ds S := phi_eq K118.h118 n ds S
class K146 (tbl : List (Nat × FD)) : Prop extends K25 tbl where
  h146 : tbl.lookup 146 = some fd146
class K147 (tbl : List (Nat × FD)) : Prop extends K28 tbl, K47 tbl, K53 tbl where
  h147 : tbl.lookup 147 = some fd147
class K148 (tbl : List (Nat × FD)) : Prop extends K45 tbl, K146 tbl, K147 tbl where
  h148 : tbl.lookup 148 = some fd148
class K149 (tbl : List (Nat × FD)) : Prop extends K21 tbl, K22 tbl, K28 tbl, K43 tbl where
  h149 : tbl.lookup 149 = some fd149
class K150 (tbl : List (Nat × FD)) : Prop extends K23 tbl, K68 tbl, K149 tbl where
  h150 : tbl.lookup 150 = some fd150
class K151 (tbl : List (Nat × FD)) : Prop extends K21 tbl, K22 tbl, K70 tbl, K150 tbl where
  h151 : tbl.lookup 151 = some fd151
class K152 (tbl : List (Nat × FD)) : Prop where
  h152 : tbl.lookup 152 = some fd152
class K153 (tbl : List (Nat × FD)) : Prop extends K21 tbl, K22 tbl, K23 tbl, K26 tbl, K67 tbl, K69 tbl, K149 tbl, K151 tbl, K152 tbl where
  h153 : tbl.lookup 153 = some fd153
class K165 (tbl : List (Nat × FD)) : Prop extends K34 tbl, K38 tbl, K51 tbl where
  h165 : tbl.lookup 165 = some fd165
end Lw

set_option Elab.async false
set_option linter.all false
namespace Lw
/-- bits of a fraction -/
def ht (r : Rat) : Nat := max r.num.natAbs r.den
def bz (r : Rat) : Nat := Nat.log2 (ht r)
theorem ht_pos (r : Rat) : 0 < ht r := by have := r.den_pos; unfold ht; omega
theorem ht_lt (r : Rat) : ht r < 2 ^ (bz r + 1) := Nat.lt_log2_self
theorem bz_le {r : Rat} {k : Nat} (h : ht r < 2 ^ (k + 1)) : bz r ≤ k := by
  have := (Nat.log2_lt (Nat.pos_iff_ne_zero.mp (ht_pos r))).mpr h
  unfold bz; omega
theorem ht_divInt {a b : Int} {m : Nat} (hb : b ≠ 0) (h1 : a.natAbs ≤ m) (h2 : b.natAbs ≤ m) : ht (Rat.divInt a b) ≤ m := by
  unfold ht
  rw [Rat.num_divInt, Rat.den_divInt, if_neg hb]
  have e1 : (b.sign * a / (b.gcd a : Int)).natAbs ≤ (b.sign * a).natAbs := Int.natAbs_ediv_le_natAbs _ _
  have e2 : (b.sign * a).natAbs ≤ a.natAbs := by
    rw [Int.natAbs_mul, Int.natAbs_sign_of_ne_zero hb, Nat.one_mul]; exact Nat.le_refl _
  have e3 : b.natAbs / b.gcd a ≤ b.natAbs := Nat.div_le_self _ _
  omega
theorem mul_eq (p q : Rat) : p * q = Rat.divInt (p.num * q.num) (p.den * q.den) := by
  rw [← Rat.divInt_mul_divInt, Rat.num_divInt_den, Rat.num_divInt_den]
theorem den_ne (p : Rat) : (p.den : Int) ≠ 0 := by have := p.den_pos; omega
theorem add_eq (p q : Rat) : p + q = Rat.divInt (p.num * q.den + q.num * p.den) (p.den * q.den) := by
  rw [← Rat.divInt_add_divInt _ _ (den_ne p) (den_ne q), Rat.num_divInt_den, Rat.num_divInt_den]
theorem sub_eq (p q : Rat) : p - q = Rat.divInt (p.num * q.den - q.num * p.den) (p.den * q.den) := by
  rw [← Rat.divInt_sub_divInt _ _ (den_ne p) (den_ne q), Rat.num_divInt_den, Rat.num_divInt_den]
theorem dd_ne (p q : Rat) : (p.den * q.den : Int) ≠ 0 := Int.mul_ne_zero (den_ne p) (den_ne q)
theorem le_mul {a b c d : Nat} (h1 : a ≤ c) (h2 : b ≤ d) : a * b ≤ c * d := Nat.mul_le_mul h1 h2
theorem num_le (p : Rat) : p.num.natAbs ≤ ht p := by unfold ht; omega
theorem den_le (p : Rat) : p.den ≤ ht p := by unfold ht; omega
theorem ht_mul (p q : Rat) : ht (p * q) ≤ ht p * ht q := by
  rw [mul_eq]
  refine ht_divInt (dd_ne p q) ?_ ?_
  · rw [Int.natAbs_mul]; exact le_mul (num_le p) (num_le q)
  · rw [Int.natAbs_mul, Int.natAbs_natCast, Int.natAbs_natCast]; exact le_mul (den_le p) (den_le q)
theorem nat2 {a b c d : Int} {m : Nat} (h1 : (a * b).natAbs ≤ m) (h2 : (c * d).natAbs ≤ m) : (a * b + c * d).natAbs ≤ 2 * m ∧ (a * b - c * d).natAbs ≤ 2 * m := by omega
theorem ht_add2 (p q : Rat) : (p.num * q.den).natAbs ≤ ht p * ht q ∧ (q.num * p.den).natAbs ≤ ht p * ht q := by
  refine ⟨?_, ?_⟩
  · rw [Int.natAbs_mul, Int.natAbs_natCast]; exact le_mul (num_le p) (den_le q)
  · rw [Int.natAbs_mul, Int.natAbs_natCast, Nat.mul_comm]; exact le_mul (den_le p) (num_le q)
theorem dd_le (p q : Rat) : (p.den * q.den : Int).natAbs ≤ ht p * ht q := by
  rw [Int.natAbs_mul, Int.natAbs_natCast, Int.natAbs_natCast]; exact le_mul (den_le p) (den_le q)
theorem ht_add (p q : Rat) : ht (p + q) ≤ 2 * (ht p * ht q) := by
  rw [add_eq]
  exact ht_divInt (dd_ne p q) (nat2 (ht_add2 p q).1 (ht_add2 p q).2).1 (by have := dd_le p q; omega)
theorem ht_sub (p q : Rat) : ht (p - q) ≤ 2 * (ht p * ht q) := by
  rw [sub_eq]
  exact ht_divInt (dd_ne p q) (nat2 (ht_add2 p q).1 (ht_add2 p q).2).2 (by have := dd_le p q; omega)
theorem prod_lt (p q : Rat) : ht p * ht q < 2 ^ (bz p + bz q + 2) := by
  have h1 := ht_lt p
  have h2 := ht_lt q
  have : ht p * ht q < 2 ^ (bz p + 1) * 2 ^ (bz q + 1) := Nat.mul_lt_mul'' h1 h2
  rw [← Nat.pow_add] at this
  rw [show bz p + bz q + 2 = bz p + 1 + (bz q + 1) by omega]
  exact this
theorem bz_mul (p q : Rat) : bz (p * q) ≤ bz p + bz q + 1 := bz_le (Nat.lt_of_le_of_lt (ht_mul p q) (prod_lt p q))
theorem bz_add (p q : Rat) : bz (p + q) ≤ bz p + bz q + 2 := bz_le (Nat.lt_of_le_of_lt (ht_add p q) (by have := prod_lt p q; rw [show bz p + bz q + 2 + 1 = (bz p + bz q + 2) + 1 from rfl, Nat.pow_succ]; omega))
theorem bz_sub (p q : Rat) : bz (p - q) ≤ bz p + bz q + 2 := bz_le (Nat.lt_of_le_of_lt (ht_sub p q) (by have := prod_lt p q; rw [show bz p + bz q + 2 + 1 = (bz p + bz q + 2) + 1 from rfl, Nat.pow_succ]; omega))
theorem bz_int (i : Int) (k : Nat) (h : i.natAbs < 2 ^ (k + 1)) : bz (i : Rat) ≤ k := bz_le (by
  have h1 : (i : Rat).num = i := Rat.num_intCast i
  have h2 : (i : Rat).den = 1 := Rat.den_intCast i
  unfold ht; rw [h1, h2]
  have : 2 ≤ 2 ^ (k + 1) := by have := Nat.pow_le_pow_right (n := 2) (by omega) (show 1 ≤ k + 1 by omega); simpa using this
  omega)
theorem bz_quo (a b : Int) (k : Nat) (hb : b ≠ 0) (h1 : a.natAbs < 2 ^ (k + 1)) (h2 : b.natAbs < 2 ^ (k + 1)) : bz ((a : Rat) / (b : Rat)) ≤ k := by
  rw [← Rat.divInt_eq_div]
  have := ht_divInt (a := a) (m := 2 ^ (k + 1) - 1) hb (by omega) (by omega)
  exact bz_le (by omega)
theorem bz_zero : bz 0 = 0 := by decide +kernel
end Lw

set_option Elab.async false
set_option linter.all false
namespace Lw
/-! the envelope of the rows -/
def ln (q : Int × Int) (w : Rat) : Rat := (q.2 : Rat) + (q.1 : Rat) * w
def crs (a q : Int × Int) : Rat := ((q.2 - a.2 : Int) : Rat) / ((a.1 - q.1 : Int) : Rat)
abbrev Rows := List (Int × Int)
def row (L : Rows) (k : Nat) : Int × Int := L.getD k (0, 0)
theorem row_eq {L : Rows} {k : Nat} (h : k < L.length) : row L k = L[k] := by unfold row; simp [h]
theorem mem_row {L : Rows} {q : Int × Int} (h : q ∈ L) : ∃ k, k < L.length ∧ q = row L k := by
  obtain ⟨k, hk, e⟩ := List.mem_iff_getElem.mp h
  exact ⟨k, hk, by rw [row_eq hk, e]⟩
/-- rows of stages -/
structure Vs (L : Rows) : Prop where
  lo : 2 ≤ L.length
  hi : L.length ≤ 6
  pw : ∀ i j, i < j → j < L.length → (row L j).1 < (row L i).1 ∧ (row L i).2 < (row L j).2
  r0 : ∀ i, i < L.length → 0 ≤ (row L i).1 ∧ (row L i).1 ≤ 1000
  p0 : ∀ i, i < L.length → 0 ≤ (row L i).2 ∧ (row L i).2 ≤ 10000
  z : (row L 0).2 = 0
theorem Vs.pwR {L : Rows} (v : Vs L) {i j : Nat} (h : i < j) (hj : j < L.length) : ((row L j).1 : Rat) < (row L i).1 ∧ ((row L i).2 : Rat) < (row L j).2 := by
  obtain ⟨a, b⟩ := v.pw i j h hj
  exact ⟨by exact_mod_cast a, by exact_mod_cast b⟩
theorem Vs.rR {L : Rows} (v : Vs L) {i : Nat} (hj : i < L.length) : (0 : Rat) ≤ (row L i).1 ∧ (0 : Rat) ≤ (row L i).2 := by
  exact ⟨by exact_mod_cast (v.r0 i hj).1, by exact_mod_cast (v.p0 i hj).1⟩
theorem Vs.zR {L : Rows} (v : Vs L) : ((row L 0).2 : Rat) = 0 := by exact_mod_cast v.z
/-- the turn towards one more stage -/
def stepT (L : Rows) (s : Nat) (b : Option (Rat × Nat)) (k : Nat) : Option (Rat × Nat) := match b with
  | none => some (crs (row L s) (row L k), k)
  | some (c, i) => if c < crs (row L s) (row L k) then some (c, i) else some (crs (row L s) (row L k), k)
def turnT (L : Rows) (s : Nat) : Option (Rat × Nat) := (List.range' (s + 1) (L.length - (s + 1))).foldl (stepT L s) none
def turnsGo (L : Rows) : Nat → Nat → List (Rat × Nat)
  | 0, _ => []
  | f + 1, s => match turnT L s with
    | none => []
    | some (c, i) => (c, i) :: turnsGo L f i
def turns (L : Rows) : List (Rat × Nat) := (0, 0) :: turnsGo L L.length 0
structure Low (L : Rows) (s m : Nat) (c : Rat) (i : Nat) : Prop where
  a : s < i
  b : i < m
  e : c = crs (row L s) (row L i)
  f : ∀ k, s < k → k < m → c ≤ crs (row L s) (row L k)
  g : ∀ k, i < k → k < m → c < crs (row L s) (row L k)
theorem turn_fold {L : Rows} {s : Nat} : ∀ (j m : Nat) (b : Option (Rat × Nat)), s < m → (match b with | none => m = s + 1 | some (c, i) => Low L s m c i) →
    (match (List.range' m j).foldl (stepT L s) b with | none => m + j = s + 1 | some (c, i) => Low L s (m + j) c i)
  | 0, m, b, hs, h => h
  | j + 1, m, b, hs, h => by
    rw [List.range'_succ, List.foldl_cons, show m + (j + 1) = m + 1 + j by omega]
    refine turn_fold j (m + 1) _ (by omega) ?_
    cases b with
    | none =>
      have h : m = s + 1 := h
      subst h
      exact ⟨by omega, by omega, rfl, fun k h1 h2 => by rw [show k = s + 1 by omega]; exact Rat.le_refl, fun k h1 h2 => by omega⟩
    | some b =>
      obtain ⟨c, i⟩ := b
      have h : Low L s m c i := h
      show (match (if c < crs (row L s) (row L m) then some (c, i) else some (crs (row L s) (row L m), m)) with | none => m + 1 = s + 1 | some (c, i) => Low L s (m + 1) c i)
      by_cases hc : c < crs (row L s) (row L m)
      · rw [if_pos hc]
        refine ⟨h.a, by have := h.b; omega, h.e, fun k h1 h2 => ?_, fun k h1 h2 => ?_⟩
        · by_cases hk : k = m
          · subst hk; exact Rat.le_of_lt hc
          · exact h.f k h1 (by omega)
        · by_cases hk : k = m
          · subst hk; exact hc
          · exact h.g k h1 (by omega)
      · rw [if_neg hc]
        refine ⟨by omega, by omega, rfl, fun k h1 h2 => ?_, fun k h1 h2 => by omega⟩
        by_cases hk : k = m
        · subst hk; exact Rat.le_refl
        · have := h.f k h1 (by omega); grind
theorem turnT_none {L : Rows} {s : Nat} (hs : s < L.length) (h : turnT L s = none) : s + 1 = L.length := by
  have := turn_fold (L := L) (s := s) (L.length - (s + 1)) (s + 1) none (by omega) rfl
  rw [show (List.range' (s + 1) (L.length - (s + 1))).foldl (stepT L s) none = none from h] at this
  have this : s + 1 + (L.length - (s + 1)) = s + 1 := this
  omega
theorem turnT_some {L : Rows} {s : Nat} {c : Rat} {i : Nat} (hs : s < L.length) (h : turnT L s = some (c, i)) : Low L s L.length c i := by
  have := turn_fold (L := L) (s := s) (L.length - (s + 1)) (s + 1) none (by omega) rfl
  rw [show (List.range' (s + 1) (L.length - (s + 1))).foldl (stepT L s) none = some (c, i) from h] at this
  rw [show s + 1 + (L.length - (s + 1)) = L.length by omega] at this
  exact this
/-- what a crossing tells -/
theorem crs_le {a q : Int × Int} (h : (q.1 : Rat) < a.1) {w : Rat} : w ≤ crs a q ↔ ln a w ≤ ln q w := by
  unfold crs ln
  rw [Rat.intCast_sub, Rat.intCast_sub]
  have hd : (0 : Rat) < (a.1 : Rat) - q.1 := by grind
  generalize (a.1 : Rat) = x at *
  generalize (q.1 : Rat) = y at *
  generalize (a.2 : Rat) = u at *
  generalize (q.2 : Rat) = v at *
  have e : (v - u) / (x - y) * (x - y) = v - u := by grind
  generalize (v - u) / (x - y) = t at *
  constructor
  · intro h1
    have := Rat.mul_le_mul_of_nonneg_right h1 (Rat.le_of_lt hd)
    grind
  · intro h1
    refine Rat.le_of_mul_le_mul_right ?_ hd
    grind
theorem crs_lt {a q : Int × Int} (h : (q.1 : Rat) < a.1) {w : Rat} : w < crs a q ↔ ln a w < ln q w := by
  unfold crs ln
  rw [Rat.intCast_sub, Rat.intCast_sub]
  have hd : (0 : Rat) < (a.1 : Rat) - q.1 := by grind
  generalize (a.1 : Rat) = x at *
  generalize (q.1 : Rat) = y at *
  generalize (a.2 : Rat) = u at *
  generalize (q.2 : Rat) = v at *
  have e : (v - u) / (x - y) * (x - y) = v - u := by grind
  generalize (v - u) / (x - y) = t at *
  constructor
  · intro h1
    have := Rat.mul_lt_mul_of_pos_right h1 hd
    grind
  · intro h1
    refine Rat.lt_of_mul_lt_mul_right (c := x - y) ?_ (Rat.le_of_lt hd)
    grind
theorem crs_eq {a q : Int × Int} (h : (q.1 : Rat) < a.1) : ln a (crs a q) = ln q (crs a q) := by
  have h1 := (crs_le h (w := crs a q)).mp Rat.le_refl
  have h2 := mt (crs_lt h (w := crs a q)).mpr (by grind)
  grind
/-- lower rates win later -/
theorem ln_later {a q : Int × Int} (h : (a.1 : Rat) ≤ q.1) {T w : Rat} (hw : T ≤ w) (h1 : ln a T ≤ ln q T) : ln a w ≤ ln q w := by
  unfold ln at *
  have : (q.1 - a.1 : Rat) * T ≤ (q.1 - a.1 : Rat) * w := Rat.mul_le_mul_of_nonneg_left hw (by grind)
  grind
/-- stage s is least at T, alone of those behind it -/
structure At (L : Rows) (T : Rat) (s : Nat) : Prop where
  l : s < L.length
  n : 0 ≤ T
  a : ∀ k, k < L.length → ln (row L s) T ≤ ln (row L k) T
  b : ∀ k, s < k → k < L.length → ln (row L s) T < ln (row L k) T
theorem At.zero {L : Rows} (v : Vs L) : At L 0 0 := by
  have h2 := v.lo
  refine ⟨by omega, Rat.le_refl, fun k hk => ?_, fun k h hk => ?_⟩
  · have := (v.rR hk).2; have := v.zR; unfold ln; grind
  · have := (v.pwR h hk).2; unfold ln; grind
theorem At.step {L : Rows} (v : Vs L) {T : Rat} {s : Nat} (A : At L T s) {c : Rat} {i : Nat} (h : Low L s L.length c i) :
    T < c ∧ ln (row L s) c = ln (row L i) c ∧ (∀ w, T ≤ w → w ≤ c → ∀ k, k < L.length → ln (row L s) w ≤ ln (row L k) w) ∧ At L c i := by
  have hT : T < c := by rw [h.e, crs_lt (v.pwR h.a h.b).1]; exact A.b i h.a h.b
  have he : ln (row L s) c = ln (row L i) c := by rw [h.e]; exact crs_eq (v.pwR h.a h.b).1
  have hb : ∀ w, T ≤ w → w ≤ c → ∀ k, k < L.length → ln (row L s) w ≤ ln (row L k) w := fun w h1 h2 k hk => by
    rcases Nat.lt_trichotomy k s with q | q | q
    · exact ln_later (Rat.le_of_lt (v.pwR q A.l).1) h1 (A.a k hk)
    · subst q; exact Rat.le_refl
    · rw [← crs_le (v.pwR q hk).1]
      have := h.f k q hk
      grind
  refine ⟨hT, he, hb, h.b, ?_, fun k hk => ?_, fun k h1 hk => ?_⟩
  · have := A.n; grind
  · rw [← he]; exact hb c (Rat.le_of_lt hT) Rat.le_refl k hk
  · rw [← he, ← crs_lt (v.pwR (Nat.lt_trans h.a h1) hk).1]
    exact h.g k h1 hk
/-- the envelope, from T on, where s begins -/
def Envl (L : Rows) : Rat → Nat → List (Rat × Nat) → Prop
  | T, s, [] => At L T s ∧ s + 1 = L.length ∧ (∀ w, T ≤ w → ∀ k, k < L.length → ln (row L s) w ≤ ln (row L k) w)
  | T, s, (c, i) :: r => At L T s ∧ T < c ∧ s < i ∧ ln (row L s) c = ln (row L i) c ∧ (∀ w, T ≤ w → w ≤ c → ∀ k, k < L.length → ln (row L s) w ≤ ln (row L k) w) ∧ c = crs (row L s) (row L i) ∧ Envl L c i r
theorem Envl.at {L : Rows} {T : Rat} {s : Nat} {r : List (Rat × Nat)} (h : Envl L T s r) : At L T s := by
  cases r with
  | nil => exact h.1
  | cons p r => exact h.1
theorem turnsGo_env {L : Rows} (v : Vs L) : ∀ (f s : Nat) (T : Rat), L.length - s ≤ f → At L T s → Envl L T s (turnsGo L f s)
  | 0, s, T, h, A => by have := A.l; omega
  | f + 1, s, T, h, A => by
    rw [turnsGo]
    cases e : turnT L s with
    | none =>
      have := turnT_none A.l e
      refine ⟨A, this, fun w hw k hk => ?_⟩
      by_cases q : k = s
      · subst q; exact Rat.le_refl
      · exact ln_later (Rat.le_of_lt (v.pwR (show k < s by omega) A.l).1) hw (A.a k hk)
    | some p =>
      obtain ⟨c, i⟩ := p
      have l := turnT_some A.l e
      obtain ⟨h1, h2, h3, h4⟩ := A.step v l
      exact ⟨A, h1, l.a, h2, h3, l.e, turnsGo_env v f i c (by have := l.a; have := l.b; omega) h4⟩
theorem Envl.gt {L : Rows} : ∀ {r : List (Rat × Nat)} {T : Rat} {s : Nat}, Envl L T s r → ∀ p ∈ r, T < p.1
  | [], T, s, h, p, hp => by simp at hp
  | (c, i) :: r, T, s, ⟨a, b, _, _, _, _, h⟩, p, hp => by
    rcases List.mem_cons.mp hp with rfl | hp
    · exact b
    · have := Envl.gt h p hp; grind
theorem Envl.mem {L : Rows} : ∀ {r : List (Rat × Nat)} {T : Rat} {s : Nat}, Envl L T s r → ∀ p ∈ (T, s) :: r, At L p.1 p.2
  | [], T, s, h, p, hp => by
    rcases List.mem_cons.mp hp with rfl | hp
    · exact h.1
    · simp at hp
  | (c, i) :: r, T, s, h, p, hp => by
    rcases List.mem_cons.mp hp with rfl | hp
    · exact h.1
    · exact Envl.mem h.2.2.2.2.2.2 p hp
theorem Envl.crs {L : Rows} : ∀ {r : List (Rat × Nat)} {T : Rat} {s : Nat}, Envl L T s r → ∀ p ∈ r, ∃ j, j < p.2 ∧ p.2 < L.length ∧ p.1 = crs (row L j) (row L p.2)
  | [], T, s, h, p, hp => by simp at hp
  | (c, i) :: r, T, s, ⟨a, b, e, _, _, f, h⟩, p, hp => by
    rcases List.mem_cons.mp hp with rfl | hp
    · exact ⟨s, e, h.at.l, f⟩
    · exact Envl.crs h p hp
/-- one turn and the next -/
structure Nxt (L : Rows) (p q : Rat × Nat) : Prop where
  a : p.1 < q.1
  b : p.2 < q.2
  e : ln (row L p.2) q.1 = ln (row L q.2) q.1
  m : ∀ w, p.1 ≤ w → w ≤ q.1 → ∀ k, k < L.length → ln (row L p.2) w ≤ ln (row L k) w
  t : At L q.1 q.2
theorem Envl.nxt {L : Rows} : ∀ {r : List (Rat × Nat)} {T : Rat} {s : Nat}, Envl L T s r → ∀ k, k < r.length → ∃ p q, ((T, s) :: r)[k]? = some p ∧ ((T, s) :: r)[k + 1]? = some q ∧ Nxt L p q
  | [], T, s, h, k, hk => by simp at hk
  | (c, i) :: r, T, s, ⟨a, b, e, f, g, _, h⟩, 0, hk => ⟨(T, s), (c, i), rfl, rfl, ⟨b, e, f, g, h.at⟩⟩
  | (c, i) :: r, T, s, ⟨a, b, e, f, g, _, h⟩, k + 1, hk => by
    obtain ⟨p, q, h1, h2, h3⟩ := Envl.nxt h k (by simpa using hk)
    exact ⟨p, q, by simpa using h1, by simpa using h2, h3⟩
theorem Envl.last {L : Rows} : ∀ {r : List (Rat × Nat)} {T : Rat} {s : Nat}, Envl L T s r → ∃ c, ((T, s) :: r).getLast? = some (c, L.length - 1)
  | [], T, s, h => ⟨T, by have := h.2.1; rw [← this]; rfl⟩
  | (c, i) :: r, T, s, h => by
    obtain ⟨c', e⟩ := Envl.last h.2.2.2.2.2.2
    exact ⟨c', by rw [List.getLast?_cons_cons]; exact e⟩
theorem turns_env {L : Rows} (v : Vs L) : Envl L 0 0 (turnsGo L L.length 0) := turnsGo_env v _ _ _ (by omega) (At.zero v)
end Lw

set_option Elab.async false
set_option linter.all false
set_option maxRecDepth 100000
set_option maxHeartbeats 1000000
/-! walks: loops; numbers. -/
namespace Lw
open PySem PySem.Spec PyProof.Rows L2 Py
@[simp] theorem cut_same {d : Py.D} {S : Sto} : Py.cut S.length d S = .ok d S := by unfold Py.cut; rw [if_pos (Nat.le_refl _)]
@[simp] theorem atI_eq {α : Type} (ds : List α) (i : Int) : L2.atI ds i = (L2.ixN ds.length i).bind fun j => ds[j]? := rfl
@[simp] theorem eqD_int (S : Sto) (a b : Int) : eqD S (.int a) (.int b) = some (decide (a = b)) := by
  show (if SeqAt.shaped (.int a) && SeqAt.shaped (.int b) then some (PyData.eqv (.int a) (.int b)) else none) = _
  have e1 : ∀ i : Int, SeqAt.shaped (.int i) = true := fun i => rfl
  rw [e1, e1, Bool.and_self, if_pos rfl]
  rfl
@[simp] theorem okWk_none (ds es : List Py.D) (S : Sto) : okWk (ds, none, es) S = true := rfl
@[simp] theorem ix10 : L2.ixN 1 0 = some 0 := rfl
@[simp] theorem ix20 : L2.ixN 2 0 = some 0 := rfl
@[simp] theorem ix21 : L2.ixN 2 1 = some 1 := rfl
@[simp] theorem ix30 : L2.ixN 3 0 = some 0 := rfl
@[simp] theorem ix31 : L2.ixN 3 1 = some 1 := rfl
@[simp] theorem ix32 : L2.ixN 3 2 = some 2 := rfl
theorem ixN_nat {n i : Nat} (h : i < n) : L2.ixN n (i : Int) = some i := by
  unfold L2.ixN
  rw [if_pos (by omega)]
  simp [h]
theorem ixN_m1 {n : Nat} (h : 0 < n) : L2.ixN n (-1) = some (n - 1) := by
  unfold L2.ixN
  rw [if_neg (by omega), if_pos (by omega)]
  congr 1
  omega
abbrev Env := Py.Env
/-! ### loops -/
/-- one turn of a loop -/
def turnF (t : Tg) (b : Env → Sto → Out) (d : Py.D) (δ : Env) (S : Sto) : Out := match asgT S t d δ with
  | some δ' => b δ' S
  | none => .stuck
theorem forL_nil {t : Tg} {b : Env → Sto → Out} {δ : Env} {S : Sto} {xs : List Py.D} {c : List Py.D} : forL t b (xs, none, c) [] δ S = .nxt δ S := rfl
theorem forL_cons {t : Tg} {b : Env → Sto → Out} {δ : Env} {S : Sto} {xs : List Py.D} {c : List Py.D} {d : Py.D} {ds : List Py.D} :
    forL t b (xs, none, c) (d :: ds) δ S = (turnF t b d δ S).bind fun δ' S' => forL t b (xs, none, c) ds δ' S' := by
  show (if okWk _ S = true then _ else _) = _
  rw [okWk_none, if_pos rfl]
  unfold turnF
  cases asgT S t d δ <;> rfl
/-- a loop whose turns all go on; o is what the loop's own names hold -/
theorem forL_fold {σ X Ω : Type} {t : Tg} {b : Env → Sto → Out} {xs : List Py.D} {c : List Py.D} {S : Sto} (g : X → Py.D) (enc : σ → Ω → Env) (I : σ → Prop) (f : σ → X → σ) :
    ∀ (l : List X), (∀ s x o, x ∈ l → I s → I (f s x) ∧ ∃ o', turnF t b (g x) (enc s o) S = .nxt (enc (f s x) o') S) → ∀ s o, I s → I (l.foldl f s) ∧ ∃ o', forL t b (xs, none, c) (l.map g) (enc s o) S = .nxt (enc (l.foldl f s) o') S
  | [], h, s, o, hs => ⟨hs, o, forL_nil⟩
  | x :: l, h, s, o, hs => by
    obtain ⟨h1, o1, e1⟩ := h s x o (List.mem_cons_self ..) hs
    obtain ⟨h2, o2, e2⟩ := forL_fold g enc I f l (fun s x o hx => h s x o (List.mem_cons_of_mem _ hx)) (f s x) o1 h1
    exact ⟨h2, o2, by rw [List.map_cons, forL_cons, e1, Out.bind_nxt, e2]; rfl⟩
theorem rngD_map : ∀ (n m : Nat), rngD (m : Int) n = (List.range' m n).map fun i : Nat => Py.D.int (i : Int)
  | 0, m => rfl
  | n + 1, m => by
    rw [List.range'_succ, List.map_cons, ← rngD_map n (m + 1)]
    rfl
/-- a list made of others -/
theorem compL_map {X : Type} {f : Py.D → Sto → R (Option Py.D)} {w c : List Py.D} {S : Sto} (g : X → Py.D) (h : X → Option Py.D) : ∀ (l : List X) (acc : List Py.D), (∀ x ∈ l, f (g x) S = .ok (h x) S) → acc.length + l.length ≤ 10000 →
    compL f (w, none, c) (l.map g) acc S = .ok (acc ++ l.filterMap h) S
  | [], acc, _, _ => by simp [compL]
  | x :: l, acc, hh, hl => by
    rw [List.map_cons, compL, okWk_none, if_pos rfl, hh x (List.mem_cons_self ..), R.nox_ok, R.bind_ok]
    rw [List.length_cons] at hl
    rw [if_pos (by omega)]
    cases hx : h x with
    | none => 
      rw [List.filterMap_cons, hx]
      exact compL_map g h l acc (fun y hy => hh y (List.mem_cons_of_mem _ hy)) (by omega)
    | some y =>
      rw [List.filterMap_cons, hx]
      have := compL_map (w := w) (c := c) g h l (acc ++ [y]) (fun y hy => hh y (List.mem_cons_of_mem _ hy)) (by simp; omega)
      simp only at this ⊢
      rw [this, List.append_assoc]; rfl
theorem evSs_cons {Φ : Fns} {s : Sm} {ss : Sms} {δ : Env} {S : Sto} : evSs Φ (.cons s ss) δ S = (evS Φ s δ S).bind fun δ S => evSs Φ ss δ S := by rw [evSs]
theorem evSs_nil {Φ : Fns} {δ : Env} {S : Sto} : evSs Φ .nil δ S = .nxt δ S := by rw [evSs]
theorem for_eq {Φ : Fns} {t : Tg} {w : Py.It} {b : Sms} {δ : Env} {S : Sto} {k : Wk} (h : evI Φ w δ S = .ok k S) : evS Φ (.for_ t w b) δ S = forL t (evSs Φ b) k k.1 δ S := by
  rw [evS, h, Out.of_ok]
theorem evSs_step {Φ : Fns} {s : Sm} {ss : Sms} {δ δ' : Env} {S S' : Sto} (h : evS Φ s δ S = .nxt δ' S') : evSs Φ (.cons s ss) δ S = evSs Φ ss δ' S' := by rw [evSs_cons, h, Out.bind_nxt]
theorem skip_eq {Φ : Fns} {c : Py.Tm} {a : Sms} {δ : Env} {S S' : Sto} (h : evT Φ c δ S = .ok false S') : evS Φ (.ite c a .nil) δ S = .nxt δ S' := by
  rw [evS, h, Out.of_ok, if_neg (by decide), evSs_nil]
theorem ite_eq {Φ : Fns} {c : Py.Tm} {a b : Sms} {δ : Env} {S S' : Sto} {t : Bool} (h : evT Φ c δ S = .ok t S') : evS Φ (.ite c a b) δ S = if t then evSs Φ a δ S' else evSs Φ b δ S' := by
  rw [evS, h, Out.of_ok]
theorem ret_eq {Φ : Fns} {e : Py.Tm} {δ : Env} {S S' : Sto} {d : Py.D} (h : ev Φ e δ S = .ok d S') : evS Φ (.ret e) δ S = .ret d S' := by
  rw [evS, h, Out.of_ok]
theorem asg_eq {Φ : Fns} {t : Tg} {e : Py.Tm} {δ δ' : Env} {S S' : Sto} {d : Py.D} (h : ev Φ e δ S = .ok d S') (h2 : asgT S' t d δ = some δ') : evS Φ (.asg t e) δ S = .nxt δ' S' := by
  rw [evS, h, Out.of_ok, h2]
theorem evs1 {Φ : Fns} {a : Py.Tm} {δ : Env} {S S1 : Sto} {x : Py.D} (h1 : ev Φ a δ S = .ok x S1) : evs Φ (.cons a .nil) δ S = .ok [x] S1 := by rw [evs, h1, R.bind_ok, evs, R.bind_ok]
theorem evs2 {Φ : Fns} {a b : Py.Tm} {δ : Env} {S S1 S2 : Sto} {x y : Py.D} (h1 : ev Φ a δ S = .ok x S1) (h2 : ev Φ b δ S1 = .ok y S2) : evs Φ (.cons a (.cons b .nil)) δ S = .ok [x, y] S2 := by rw [evs, h1, R.bind_ok, evs1 h2, R.bind_ok]
theorem evsc {Φ : Fns} {a : Py.Tm} {es : Tms} {δ : Env} {S S1 S2 : Sto} {x : Py.D} {xs : List Py.D} (h1 : ev Φ a δ S = .ok x S1) (h2 : evs Φ es δ S1 = .ok xs S2) : evs Φ (.cons a es) δ S = .ok (x :: xs) S2 := by rw [evs, h1, R.bind_ok, h2, R.bind_ok]
theorem par_eq {Φ : Fns} {is : List Nat} {es : Tms} {δ δ' : Env} {S S' : Sto} {ds : List Py.D} (h : evs Φ es δ S = .ok ds S') (h2 : setsE is ds δ = some δ') : evS Φ (.par is es) δ S = .nxt δ' S' := by
  rw [evS, h, Out.of_ok, h2]
theorem new_eq {Φ : Fns} {C : Str} {f : Nat} {z : Bool} {es : Tms} {δ : Env} {S S' S'' : Sto} {ds : List Py.D} {d : Py.D} (h : evs Φ es δ S = .ok ds S') (h2 : newD Φ C f z ds S' = .ok d S'') : ev Φ (.new C f z es) δ S = .ok d S'' := by
  rw [ev, h, R.bind_ok, h2]
theorem call_eq {Φ : Fns} {f : Nat} {es : Tms} {δ : Env} {S S' S'' : Sto} {ds : List Py.D} {d : Py.D} (h : evs Φ es δ S = .ok ds S') (h2 : Φ f ds S' = .ok d S'') : ev Φ (.call f es) δ S = .ok d S'' := by
  rw [ev, h, R.bind_ok, h2]
theorem bin_eq {Φ : Fns} {op : Operator} {a b : Py.Tm} {δ : Env} {S S1 S2 : Sto} {x y z : Py.D} (h1 : ev Φ a δ S = .ok x S1) (h2 : ev Φ b δ S1 = .ok y S2) (h3 : binD op S2 x y = some z) : ev Φ (.bin op a b) δ S = .ok z S2 := by
  rw [ev, h1, R.bind_ok, h2, R.bind_ok, h3]; rfl
/-- what a comprehension makes of one thing -/
def compB (Φ : Fns) (vs : List Nat) (t : Tg) (c : Tms) (e : Py.Tm) (δ : Env) (d : Py.D) (S : Sto) : R (Option Py.D) := match asgT S t d (wipeE δ vs) with
  | some δ' => (evc Φ c δ' S).bind fun b S => if b then (ev Φ e δ' S).bind fun y S => .ok (some y) S else .ok none S
  | none => .stuck
theorem comp_eq {X : Type} {Φ : Fns} {vs : List Nat} {t : Tg} {w : Py.It} {c : Tms} {e : Py.Tm} {δ : Env} {S S1 : Sto} {l : List X} {xs c' : List Py.D} (g : X → Py.D) (h : X → Option Py.D)
    (hw : evI Φ w δ S = .ok (xs, none, c') S1) (hx : xs = l.map g) (hh : ∀ x ∈ l, compB Φ vs t c e δ (g x) S1 = .ok (h x) S1) (hl : l.length ≤ 9000) :
    ev Φ (.comp false vs t w c e) δ S = .ok (.lst (l.filterMap h)) S1 := by
  rw [ev, hw, R.bind_ok, hx]
  have := compL_map (f := compB Φ vs t c e δ) (w := l.map g) (c := c') (S := S1) g h l [] hh (by simp; omega)
  rw [List.nil_append] at this
  show R.bind (compL (compB Φ vs t c e δ) (l.map g, none, c') (l.map g) [] S1) _ = _
  rw [this, R.bind_ok]
  show (if (l.filterMap h).length ≤ 10000 then _ else _) = _
  have := List.length_filterMap_le h l
  rw [if_pos (by omega)]
  rfl
/-- a comprehension without a condition -/
theorem comp_map {X : Type} {Φ : Fns} {vs : List Nat} {t : Tg} {w : Py.It} {c : Tms} {e : Py.Tm} {δ : Env} {S S1 : Sto} {l : List X} {xs c' : List Py.D} (g h : X → Py.D)
    (hw : evI Φ w δ S = .ok (xs, none, c') S1) (hx : xs = l.map g) (hh : ∀ x ∈ l, compB Φ vs t c e δ (g x) S1 = .ok (some (h x)) S1) (hl : l.length ≤ 9000) :
    ev Φ (.comp false vs t w c e) δ S = .ok (.lst (l.map h)) S1 := by
  rw [comp_eq g (fun x => some (h x)) hw hx hh hl, List.filterMap_eq_map']
/-- a comprehension with a condition -/
theorem comp_filter {X : Type} {Φ : Fns} {vs : List Nat} {t : Tg} {w : Py.It} {c : Tms} {e : Py.Tm} {δ : Env} {S S1 : Sto} {l : List X} {xs c' : List Py.D} (g h : X → Py.D) (p : X → Bool)
    (hw : evI Φ w δ S = .ok (xs, none, c') S1) (hx : xs = l.map g) (hh : ∀ x ∈ l, compB Φ vs t c e δ (g x) S1 = .ok (if p x then some (h x) else none) S1) (hl : l.length ≤ 9000) :
    ev Φ (.comp false vs t w c e) δ S = .ok (.lst ((l.filter p).map h)) S1 := by
  rw [comp_eq g (fun x => if p x then some (h x) else none) hw hx hh hl]
  congr 2
  clear hh hx hl
  induction l with
  | nil => rfl
  | cons x l ih => rw [List.filterMap_cons, List.filter_cons, ih]; by_cases q : p x <;> simp [q]
mutual
theorem same_refl : ∀ d : Py.D, D.same d d = true
  | .non => rfl
  | .bl b => by simp [D.same]
  | .int i => by simp [D.same]
  | .str s => by simp [D.same]
  | .tup ds => by rw [D.same]; exact sames_refl ds
  | .lst ds => by rw [D.same]; exact sames_refl ds
  | .obj C ns ds => by rw [D.same, sames_refl ds]; simp
  | .loc n => by simp [D.same]
  | .fn n => by simp [D.same]
  | .scr ds => by rw [D.same]; exact sames_refl ds
theorem sames_refl : ∀ ds : List Py.D, D.sames ds ds = true
  | [] => rfl
  | d :: ds => by rw [D.sames, same_refl d, sames_refl ds]; rfl
end
theorem okWk_loc {S : Sto} {n : Nat} {ds : List Py.D} (h : S[n]? = some (.lst ds)) : okWk (ds, some n, ds) S = true := by
  unfold okWk
  have e : lstAt S n = some ds := by unfold lstAt; rw [h]
  dsimp only
  rw [e]
  exact sames_refl ds
theorem compL_loc {f : Py.D → Sto → R (Option Py.D)} {w c : List Py.D} {n : Nat} {S : Sto} (h : S[n]? = some (.lst c)) : ∀ (l acc : List Py.D), (∀ d ∈ l, ∃ o, f d S = .ok o S) → compL f (w, some n, c) l acc S = compL f (w, none, c) l acc S
  | [], acc, _ => by
    rw [compL, compL, okWk_none]
    have : okWk (w, some n, c) S = true := okWk_loc (ds := c) h
    rw [this]
  | d :: l, acc, hf => by
    have : okWk (w, some n, c) S = true := okWk_loc (ds := c) h
    obtain ⟨o, e⟩ := hf d (List.mem_cons_self ..)
    rw [compL, compL, okWk_none, this, if_pos rfl, if_pos rfl, e, R.nox_ok, R.bind_ok, R.bind_ok]
    by_cases hl : acc.length < 10000
    · rw [if_pos hl, if_pos hl]
      exact compL_loc h l _ (fun d hd => hf d (List.mem_cons_of_mem _ hd))
    · rw [if_neg hl, if_neg hl]
/-- a comprehension over a list that stands in the store -/
theorem comp_loc {X : Type} {Φ : Fns} {vs : List Nat} {t : Tg} {c : Tms} {e w : Py.Tm} {δ : Env} {S : Sto} {n : Nat} {l : List X} (g h : X → Py.D) (p : X → Bool)
    (hw : ev Φ w δ S = .ok (.loc n) S) (hn : S[n]? = some (.lst (l.map g))) (hh : ∀ x ∈ l, compB Φ vs t c e δ (g x) S = .ok (if p x then some (h x) else none) S) (hl : l.length ≤ 9000) :
    ev Φ (.comp false vs t (.val w) c e) δ S = .ok (.lst ((l.filter p).map h)) S := by
  have hs : seqD S (.loc n) = some (l.map g) := by show lstAt S n = _; unfold lstAt; rw [hn]
  rw [ev, evI, hw, R.bind_ok, hs]
  show R.bind (compL (compB Φ vs t c e δ) (l.map g, some n, l.map g) (l.map g) [] S) _ = _
  rw [compL_loc hn _ _ (fun d hd => by obtain ⟨x, hx, rfl⟩ := List.mem_map.mp hd; exact ⟨_, hh x hx⟩)]
  have := compL_map (f := compB Φ vs t c e δ) (w := l.map g) (c := l.map g) (S := S) g (fun x => if p x then some (h x) else none) l [] hh (by simp; omega)
  rw [this, R.bind_ok]
  show (if _ then _ else _) = _
  have h2 := List.length_filterMap_le (fun x => if p x then some (h x) else none) l
  rw [if_pos (by simp; omega)]
  show R.ok (Py.D.lst _) S = _
  rw [List.nil_append]
  congr 2
  clear this hs hh hn hw hl h2
  induction l with
  | nil => rfl
  | cons x l ih => rw [List.filterMap_cons, List.filter_cons, ih]; by_cases q : p x <;> simp [q]
theorem run_ret {Φ : Fns} {fd : FD} {ds : List Py.D} {S S' S'' : Sto} {d d' : Py.D} (h : ds.length = fd.np) (hb : evSs Φ fd.body (ds.map some ++ List.replicate (fd.ns - fd.np) none) S = .ret d S') (hc : (if fd.own then R.ok d S' else Py.cut S.length d S') = .ok d' S'') : runF Φ fd ds S = .ok d' S'' := by
  rw [runF, if_pos h, hb]; exact hc
variable {tbl : List (Nat × FD)} {n : Nat} {S : Sto}
abbrev Q (r : Rat) : Py.D := .tup [.int r.num, .int r.den]
theorem divOk_of {b : Int} (h0 : 0 < b) (h : b.natAbs < 2 ^ 8800) : divOk b = true := by
  unfold divOk
  rw [Bool.and_eq_true, decide_eq_true_eq, decide_eq_true_eq]
  refine ⟨h0, ?_⟩
  rw [Nat.log2_lt (by omega)]
  exact Nat.lt_of_lt_of_le h (Nat.pow_le_pow_right (by omega) (by omega))
theorem mulOk_r {i j : Int} (h : j.natAbs < 2 ^ 60) : mulOk i j = true := by
  unfold mulOk
  rw [Bool.or_eq_true, Bool.or_eq_true, decide_eq_true_eq, decide_eq_true_eq]
  left; right
  by_cases h0 : j.natAbs = 0
  · rw [h0]; decide
  · rw [Nat.log2_lt h0]; omega
theorem is_integer_ok [K0 tbl] (i lo hi : Int) : Phi tbl (n + 1) 0 [.int i, .int lo, .int hi] S = .ok (.bl (decide (lo ≤ i ∧ i ≤ hi))) S := by
  rw [phi0]
  by_cases h1 : lo ≤ i <;> simp [fd0, h1]
end Lw

set_option Elab.async false
set_option linter.all false
set_option maxRecDepth 100000
set_option maxHeartbeats 2000000
/-! the drawer -/
namespace Lw
open PySem PySem.Spec PyProof.Rows L2 Py
variable {tbl : List (Nat × FD)} {n : Nat} {S : Sto}
/-- the store with the drawer at its head -/
def hs (cells : List Int) (st pos : Int) (rest : Sto) : Sto := .lst (cells.map .int) :: .lst [.int st, .loc 0, .int pos] :: rest
theorem hs_at0 {cells : List Int} {st pos : Int} {rest : Sto} : (hs cells st pos rest)[0]? = some (.lst (cells.map .int)) := rfl
theorem hs_at1 {cells : List Int} {st pos : Int} {rest : Sto} : (hs cells st pos rest)[1]? = some (.lst [.int st, .loc 0, .int pos]) := rfl
theorem hs_set0 {cells cells' : List Int} {st pos : Int} {rest : Sto} : (hs cells st pos rest).set 0 (.lst (cells'.map .int)) = hs cells' st pos rest := rfl
theorem hs_set0i {cells : List Int} {st pos v : Int} {k : Nat} {rest : Sto} : (hs cells st pos rest).set 0 (.lst ((cells.map .int).set k (.int v))) = hs (cells.set k v) st pos rest := by
  rw [← hs_set0 (cells' := cells.set k v), List.map_set]
theorem hs_set1 {cells : List Int} {st pos st' pos' : Int} {rest : Sto} : (hs cells st pos rest).set 1 (.lst [.int st', .loc 0, .int pos']) = hs cells st' pos' rest := rfl
theorem hs_len {cells : List Int} {st pos : Int} {rest : Sto} : (hs cells st pos rest).length = rest.length + 2 := rfl
theorem cut_hs {d : Py.D} {c c' : List Int} {a b a' b' : Int} {rest : Sto} : Py.cut (hs c a b rest).length d (hs c' a' b' rest) = .ok d (hs c' a' b' rest) := by
  unfold Py.cut
  rw [if_pos (by rw [hs_len, hs_len]; exact Nat.le_refl _)]
/-- a store that begins with a drawer -/
def Hs (rest S : Sto) : Prop := ∃ cells st pos, cells.length ≤ 63 ∧ 0 ≤ pos ∧ S = hs cells st pos rest
theorem Hs.len {rest S : Sto} (h : Hs rest S) : S.length = rest.length + 2 := by obtain ⟨c, a, b, _, _, rfl⟩ := h; rfl
theorem Hs.cut {rest S S' : Sto} (h : Hs rest S) (h' : Hs rest S') (d : Py.D) : Py.cut S.length d S' = .ok d S' := by
  unfold Py.cut
  rw [if_pos (by rw [h.len, h'.len]; exact Nat.le_refl _)]
theorem Hs.app {rest S : Sto} (h : Hs rest S) (os : Sto) : Hs (rest ++ os) (S ++ os) := by
  obtain ⟨c, a, b, h1, h2, rfl⟩ := h; exact ⟨c, a, b, h1, h2, rfl⟩
theorem Hs.at {rest S : Sto} (h : Hs rest S) (k : Nat) : S[k + 2]? = rest[k]? := by
  obtain ⟨c, a, b, h1, h2, rfl⟩ := h; rfl
theorem Hs.set {rest S : Sto} (h : Hs rest S) (k : Nat) (o : O) : Hs (rest.set k o) (S.set (k + 2) o) := by
  obtain ⟨c, a, b, h1, h2, rfl⟩ := h; exact ⟨c, a, b, h1, h2, rfl⟩
theorem Hs.take {rest S os : Sto} (h : Hs (rest ++ os) S) : Hs rest (S.take (rest.length + 2)) := by
  obtain ⟨c, a, b, h1, h2, rfl⟩ := h
  exact ⟨c, a, b, h1, h2, by simp [hs]⟩
theorem unds_ints (k : Nat) (l : List Int) : D.unds k (l.map Py.D.int) = true := by
  induction l with
  | nil => rfl
  | cons x l ih => simp [D.unds, D.und, ih]
theorem Hs.closed {rest S : Sto} (h : Hs rest S) (k : Nat) (hk : 2 ≤ k) (hr : closed k rest = true) : closed k S = true := by
  obtain ⟨c, a, b, h1, h2, rfl⟩ := h
  unfold Py.closed at *
  unfold hs
  rw [List.all_cons, List.all_cons, hr]
  simp [O.und, unds_ints, D.unds, D.und]
  omega
/-- the end of a call that has made lists behind the drawer -/
theorem Hs.cut_app {rest S S' os : Sto} (h : Hs rest S) (h' : Hs (rest ++ os) S') (hr : Py.closed (rest.length + 2) rest = true) {d : Py.D} (hd : d.und (rest.length + 2) = true) (hn : ∀ n, d ≠ .loc n) : Py.cut S.length d S' = .ok d (S'.take (rest.length + 2)) := by
  unfold Py.cut
  rw [h.len]
  by_cases hl : S'.length ≤ rest.length + 2
  · rw [if_pos hl, List.take_of_length_le hl]
  · rw [if_neg hl, if_pos ((Hs.take h').closed _ (by omega) hr)]
    cases d with
    | loc n => exact absurd rfl (hn n)
    | _ => simp only [hd]; rfl
theorem next_ok [K4 tbl] {rest S : Sto} {cap : Int} (h : Hs rest S) (hc : 0 < cap) (hc2 : cap < 2 ^ 60) :
    ∃ v S', Phi tbl (n + 1) 4 [.loc 1, .int cap] S = .ok (.int v) S' ∧ Hs rest S' ∧ 0 ≤ v ∧ v < cap := by
  obtain ⟨cells, st, pos, hl, hp, rfl⟩ := h
  rw [phi4]
  have hm : (0 : Int) < (if (cells.length : Int) > 1 then (cells.length : Int) else 1) := by split <;> omega
  obtain ⟨i, hi⟩ : ∃ i : Nat, pos % (if (cells.length : Int) > 1 then (cells.length : Int) else 1) = i := ⟨_, (Int.toNat_of_nonneg (Int.emod_nonneg _ (by omega))).symm⟩
  have hlt : (i : Int) < (if (cells.length : Int) > 1 then (cells.length : Int) else 1) := by rw [← hi]; exact Int.emod_lt_of_pos _ hm
  have hi1 : i < cells.length + 1 := by split at hlt <;> omega
  obtain ⟨c, hcell⟩ : ∃ c : Int, (cells.map Py.D.int ++ [Py.D.int 0])[i]? = some (.int c) := by
    by_cases h : i < cells.length
    · exact ⟨cells[i], by rw [List.getElem?_append_left (by rw [List.length_map]; exact h), List.getElem?_map, List.getElem?_eq_getElem h]; rfl⟩
    · exact ⟨0, by rw [List.getElem?_append_right (by rw [List.length_map]; omega), List.length_map, show i - cells.length = 0 by omega]; rfl⟩
  have x1 : L2.ixN (cells.length + 1) (i : Int) = some i := ixN_nat hi1
  have x2 : cells.length + 1 ≤ 10000 := by omega
  by_cases hb : (10 : Int) ^ 18 ≤ c
  · have hpos : 0 < cells.length := by
      rcases Nat.eq_zero_or_pos cells.length with h | h
      · have : cells = [] := List.length_eq_zero_iff.mp h
        subst this
        have h0 : i = 0 := by simpa using hi1
        subst h0
        simp at hcell
        omega
      · exact h
    have hm2 : (if (cells.length : Int) > 1 then (cells.length : Int) else 1) = cells.length := by split <;> omega
    have hi2 : i < cells.length := by rw [hm2] at hlt; omega
    have hd : divOk cap = true := divOk_of hc (Nat.lt_of_lt_of_le (show cap.natAbs < 2 ^ 60 by omega) (Nat.pow_le_pow_right (by omega) (by omega)))
    have x3 : L2.ixN cells.length (i : Int) = some i := ixN_nat hi2
    have hi' : pos % (cells.length : Int) = i := by rw [hm2] at hi; exact hi
    refine ⟨c % cap, hs (cells.set i (c / cap)) st pos rest, ?_, ⟨_, _, _, by simpa using hl, hp, rfl⟩, Int.emod_nonneg _ (by omega), Int.emod_lt_of_pos _ hc⟩
    have hb' : (1000000000000000000 : Int) ≤ c := by omega
    have e0 : (0 : Int) < cells.length := by omega
    simp [fd4, hs_at0, hs_at1, hm, hi, x1, x2, hcell, hb', e0, hpos, hi', x3, hd, hc, hs_set0i, cut_hs]
  · have hb' : ¬ (1000000000000000000 : Int) ≤ c := by omega
    refine ⟨(st * 48271 + c * 69621 + 11) % 2147483647 / 7 % cap, hs cells ((st * 48271 + c * 69621 + 11) % 2147483647) (pos + 1) rest, ?_, ⟨_, _, _, hl, by omega, rfl⟩, Int.emod_nonneg _ (by omega), Int.emod_lt_of_pos _ hc⟩
    have m1 : ∀ x, mulOk x 48271 = true := fun x => mulOk_r (by decide)
    have m2 : ∀ x, mulOk x 69621 = true := fun x => mulOk_r (by decide)
    have d7 : divOk 7 = true := divOk_of (by decide) (Nat.lt_of_lt_of_le (show (7 : Int).natAbs < 2 ^ 60 by decide) (Nat.pow_le_pow_right (by omega) (by omega)))
    simp [fd4, hs_at0, hs_at1, hm, hi, x1, x2, hcell, hb', m1, m2, d7, hc, hs_set1, cut_hs]
theorem pick_ok [K6 tbl] {rest S : Sto} {ds : List Py.D} (h : Hs rest S) (h0 : 0 < ds.length) (h1 : ds.length ≤ 10000) :
    ∃ d S', Phi tbl (n + 2) 6 [.loc 1, .lst ds] S = .ok d S' ∧ Hs rest S' ∧ d ∈ ds := by
  rw [phi6]
  obtain ⟨v, S', e, q1, q3, q4⟩ := next_ok (tbl := tbl) (n := n) (cap := ds.length) h (by omega) (by omega)
  obtain ⟨i, rfl⟩ : ∃ i : Nat, v = i := ⟨v.toNat, (Int.toNat_of_nonneg q3).symm⟩
  have hi : i < ds.length := by omega
  refine ⟨ds[i], S', ?_, q1, List.getElem_mem hi⟩
  simp [fd6, e, ixN_nat hi, List.getElem?_eq_getElem hi, h.cut q1]
/-- one of some integers -/
theorem picki_ok [K6 tbl] {rest S : Sto} (is : List Int) (h : Hs rest S) (h0 : 0 < is.length) (h1 : is.length ≤ 10000) :
    ∃ i S', Phi tbl (n + 2) 6 [.loc 1, .lst (is.map .int)] S = .ok (.int i) S' ∧ Hs rest S' ∧ i ∈ is := by
  obtain ⟨d, S', e, q, m⟩ := pick_ok (tbl := tbl) (n := n) (ds := is.map .int) h (by simpa using h0) (by simpa using h1)
  obtain ⟨i, hi, rfl⟩ := List.mem_map.mp m
  exact ⟨i, S', e, q, hi⟩
/-- a drawn wait -/
structure Wt (w : Rat) : Prop where
  n : 0 ≤ w
  m : w < 3000
  b : bz w ≤ 20
  q : ∃ i : Int, w * 12 = (i : Rat)
theorem Wt.of {a b : Int} (h1 : 0 ≤ a) (h2 : a < 3000) (h3 : 1 ≤ b) (h4 : b ≤ 4) : Wt ((a : Rat) / (b : Rat)) := by
  have hb : (1 : Rat) ≤ (b : Rat) := by exact_mod_cast h3
  have h0 : (0 : Rat) ≤ (a : Rat) := by exact_mod_cast h1
  have h5 : (a : Rat) < 3000 := by exact_mod_cast h2
  refine ⟨?_, ?_, bz_quo a b 20 (by omega) (by omega) (by omega), ?_⟩
  · rw [Rat.div_def]
    exact Rat.mul_nonneg h0 (Rat.le_of_lt (Rat.inv_pos.mpr (by grind)))
  · have e : (a : Rat) / b * b = a := by grind
    refine Rat.lt_of_mul_lt_mul_right (c := (b : Rat)) ?_ (by grind)
    have : (3000 : Rat) * 1 ≤ 3000 * b := Rat.mul_le_mul_of_nonneg_left hb (by decide)
    grind
  · have hcase : b = 1 ∨ b = 2 ∨ b = 3 ∨ b = 4 := by omega
    rcases hcase with rfl | rfl | rfl | rfl
    · exact ⟨a * 12, by push_cast; grind⟩
    · exact ⟨a * 6, by push_cast; grind⟩
    · exact ⟨a * 4, by push_cast; grind⟩
    · exact ⟨a * 3, by push_cast; grind⟩
end Lw

set_option Elab.async false
set_option linter.all false
set_option maxRecDepth 100000
set_option maxHeartbeats 2000000
/-! stages: how they are drawn and made -/
namespace Lw
open PySem PySem.Spec PyProof.Rows L2 Py
variable {tbl : List (Nat × FD)} {n : Nat} {S : Sto}
/-! ### the mix -/
theorem mix_ok [K3 tbl] {ns : List Int} {d : Py.D} (hd : d = .scr (ns.map .int) ∨ d = .lst (ns.map .int)) (hl : ns.length ≤ 63) (s : Int) :
    ∃ S', Phi tbl (n + 1) 3 [d, .int s] [] = .ok (.loc 1) S' ∧ Hs [] S' := by
  rw [phi3]
  have hq : seqD [] d = some (ns.map .int) ∧ srcD [] d = none := by rcases hd with rfl | rfl <;> exact ⟨rfl, rfl⟩
  obtain ⟨_, o', e⟩ := forL_fold (t := .nm 3) (b := evSs (Phi tbl n) fb3_0) (xs := ns.map .int) (c := ns.map .int) (S := []) Py.D.int (fun (s : Int) (o : Option Py.D) => [some d, some (.int s), some (.int s), o]) (fun _ => True) (fun s _ => s) [] (fun s x o h => by simp at h) s none trivial
  have key : ∀ (ns : List Int) (xs c : List Py.D) (s : Int) (u : Py.D) (o : Option Py.D), ∃ s' o', forL (.nm 3) (evSs (Phi tbl n) fb3_0) (xs, none, c) (ns.map .int) [some d, some u, some (.int s), o] [] = .nxt [some d, some u, some (.int s'), o'] [] := by
    intro ns
    induction ns with
    | nil => exact fun xs c s u o => ⟨s, o, rfl⟩
    | cons z ns ih =>
      intro xs c s u o
      obtain ⟨s', o', e⟩ := ih xs c ((s * 48271 + z % 2147483629 + 1) % 2147483647) u (some (.int z))
      refine ⟨s', o', ?_⟩
      have m1 : ∀ x, mulOk x 48271 = true := fun x => mulOk_r (by decide)
      rw [List.map_cons, forL_cons]
      simp [turnF, fb3_0, m1]
      exact e
  obtain ⟨s', o', e⟩ := key ns (ns.map .int) (ns.map .int) s (.int s) none
  refine ⟨hs ns s' 0 [], ?_, ⟨ns, s', 0, hl, by omega, rfl⟩⟩
  have z : ns.length ≤ 10000 := by omega
  simp only [runF, fd3, evSs, evS, evI, ev, evs]
  rcases hd with rfl | rfl <;> simp [e, z, hs]
/-! ### rates and prices that fit -/
def fall : Int → List Int → Prop
  | _, [] => True
  | m, r :: rs => 0 ≤ r ∧ r ≤ m ∧ fall (r - 1) rs
def climb : Int → Int → List Int → Prop
  | _, _, [] => True
  | k, m, r :: rs => m ≤ r ∧ r ≤ (if 0 < k then 10000 else 0) ∧ climb (k + 1) (r + 1) rs
theorem rates_loop [K0 tbl] : ∀ (rs : List Int) (k m : Int) (xs c : List Py.D) (o1 o2 : Option Py.D) (t : Py.D), fall m rs →
    ∃ δ, forL (.tp (.cons (.nm 2) (.cons (.nm 3) .nil))) (evSs (Phi tbl (n + 1)) fb1_0) (xs, none, c) (enumD k (rs.map .int)) [some t, some (.int m), o1, o2] S = .nxt δ S
  | [], k, m, xs, c, o1, o2, t, h => ⟨[some t, some (.int m), o1, o2], rfl⟩
  | r :: rs, k, m, xs, c, o1, o2, t, h => by
    obtain ⟨q1, q2, q3⟩ := h
    obtain ⟨δ, e⟩ := rates_loop rs (k + 1) (r - 1) xs c (some (.int k)) (some (.int r)) t q3
    refine ⟨δ, ?_⟩
    rw [List.map_cons, enumD, forL_cons]
    simp [turnF, fb1_0, is_integer_ok, q1, q2]
    exact e
theorem check_rates_ok [K1 tbl] {rs : List Int} (h1 : 2 ≤ rs.length) (h2 : rs.length ≤ 6) (h3 : fall 1000 rs) : Phi tbl (n + 2) 1 [.tup (rs.map .int)] S = .ok .non S := by
  rw [phi1]
  obtain ⟨δ, e⟩ := rates_loop (tbl := tbl) (n := n) (S := S) rs 0 1000 (enumD 0 (rs.map .int)) (rs.map .int) none none (.tup (rs.map .int)) h3
  have a1 : (2 : Int) ≤ rs.length := by omega
  have a2 : (rs.length : Int) ≤ 6 := by omega
  simp [fd1, a1, a2, srcD, e]
theorem prices_step [K0 tbl] {k m r : Int} {t u : Py.D} (h1 : m ≤ r) (h2 : r ≤ (if 0 < k then 10000 else 0)) :
    evSs (Phi tbl (n + 1)) fb2_0 [some t, some u, some (.int m), some (.int k), some (.int r)] S = .nxt [some t, some u, some (.int (r + 1)), some (.int k), some (.int r)] S := by
  by_cases hk : 0 < k
  · rw [if_pos hk] at h2
    simp [fb2_0, is_integer_ok, h1, h2, hk]
  · rw [if_neg hk] at h2
    simp [fb2_0, is_integer_ok, h1, h2, hk]
theorem prices_loop [K0 tbl] : ∀ (rs : List Int) (k m : Int) (xs c : List Py.D) (o1 o2 : Option Py.D) (t u : Py.D), climb k m rs →
    ∃ δ, forL (.tp (.cons (.nm 3) (.cons (.nm 4) .nil))) (evSs (Phi tbl (n + 1)) fb2_0) (xs, none, c) (enumD k (rs.map .int)) [some t, some u, some (.int m), o1, o2] S = .nxt δ S
  | [], k, m, xs, c, o1, o2, t, u, h => ⟨[some t, some u, some (.int m), o1, o2], rfl⟩
  | r :: rs, k, m, xs, c, o1, o2, t, u, h => by
    obtain ⟨q1, q2, q3⟩ := h
    obtain ⟨δ, e⟩ := prices_loop rs (k + 1) (r + 1) xs c (some (.int k)) (some (.int r)) t u q3
    refine ⟨δ, ?_⟩
    rw [List.map_cons, enumD, forL_cons]
    simp [turnF, prices_step q1 q2]
    exact e
theorem check_prices_ok [K2 tbl] {rs : List Int} (h3 : climb 0 0 rs) : Phi tbl (n + 2) 2 [.tup (rs.map .int), .int rs.length] S = .ok .non S := by
  rw [phi2]
  obtain ⟨δ, e⟩ := prices_loop (tbl := tbl) (n := n) (S := S) rs 0 0 (enumD 0 (rs.map .int)) (rs.map .int) none none (.tup (rs.map .int)) (.int rs.length) h3
  simp [fd2, srcD, e]
/-! ### stages -/
abbrev I2 (q : Int × Int) : Py.D := .tup [.int q.1, .int q.2]
def rts (L : Rows) : List Py.D := L.map fun q => .int q.1
def prs (L : Rows) : List Py.D := L.map fun q => .int q.2
abbrev stg (L : Rows) : Py.D := .obj "Stages" ["rows"] [.tup (L.map I2)]
theorem zip_rows : ∀ rs ps : List Int, zipD (rs.map .int) (ps.map .int) = (rs.zip ps).map I2
  | [], _ => rfl
  | _ :: _, [] => rfl
  | r :: rs, p :: ps => by
    rw [List.map_cons, List.map_cons, zipD, zip_rows rs ps]; rfl
theorem unds_rows (k : Nat) (l : Rows) : D.unds k (l.map I2) = true := by
  induction l with
  | nil => rfl
  | cons p l ih => simp [D.unds, D.und, ih]
theorem init_ok [K13 tbl] {rs ps : List Int} (a1 : 2 ≤ rs.length) (a2 : rs.length ≤ 6) (a3 : fall 1000 rs) (a4 : ps.length = rs.length) (a5 : climb 0 0 ps) :
    Phi tbl (n + 3) 13 [.loc S.length, .tup (rs.map .int), .tup (ps.map .int)] (S ++ [.ins "Stages" [] []]) = .ok .non (S ++ [.ins "Stages" ["rows"] [.tup ((rs.zip ps).map I2)]]) := by
  rw [phi13]
  have q := fun S => check_prices_ok (tbl := tbl) (n := n) (S := S) a5
  rw [a4] at q
  have z1 : rs.length ≤ 10000 := by omega
  have z2 : ps.length ≤ 10000 := by omega
  have hc := fun d => cut_same (d := d) (S := S ++ [O.ins "Stages" ["rows"] [.tup ((rs.zip ps).map I2)]])
  simp only [List.length_append, List.length_singleton] at hc
  have q0 := fun S => check_rates_ok (tbl := tbl) (n := n) (S := S) a1 a2 a3
  simp [fd13, q0, q, z1, z2, zip_rows, hc]
theorem zip_fst : ∀ {rs ps : List Int}, ps.length = rs.length → (rs.zip ps).map (·.1) = rs
  | [], _, _ => rfl
  | _ :: _, [], h => by simp at h
  | r :: rs, p :: ps, h => by rw [List.zip_cons_cons, List.map_cons, zip_fst (by simpa using h)]
theorem zip_snd : ∀ {rs ps : List Int}, ps.length = rs.length → (rs.zip ps).map (·.2) = ps
  | [], [], _ => rfl
  | [], _ :: _, h => by simp at h
  | _ :: _, [], h => by simp at h
  | r :: rs, p :: ps, h => by rw [List.zip_cons_cons, List.map_cons, zip_snd (by simpa using h)]
theorem rts_zip {rs ps : List Int} (h : ps.length = rs.length) : rts (rs.zip ps) = rs.map .int := by
  conv => rhs; rw [← zip_fst h]
  rw [List.map_map]; rfl
theorem prs_zip {rs ps : List Int} (h : ps.length = rs.length) : prs (rs.zip ps) = ps.map .int := by
  conv => rhs; rw [← zip_snd h]
  rw [List.map_map]; rfl
theorem fall_mono {m m' : Int} (h : m ≤ m') : ∀ {l : List Int}, fall m l → fall m' l
  | [], _ => trivial
  | r :: rs, ⟨a, b, c⟩ => ⟨a, by omega, c⟩
theorem fall_at : ∀ {l : List Int} {m : Int}, fall m l → ∀ i, i < l.length → 0 ≤ l.getD i 0 ∧ l.getD i 0 ≤ m ∧ ∀ j, i < j → j < l.length → l.getD j 0 < l.getD i 0
  | r :: rs, m, ⟨a, b, c⟩, 0, _ => ⟨a, b, fun j h1 h2 => by
      cases j with
      | zero => omega
      | succ j => have := (fall_at c j (by simpa using h2)).2.1; simp at this ⊢; omega⟩
  | r :: rs, m, ⟨a, b, c⟩, i + 1, h => by
    obtain ⟨q1, q2, q3⟩ := fall_at c i (by simpa using h)
    refine ⟨by simpa using q1, by simp at q2 ⊢; omega, fun j h1 h2 => ?_⟩
    cases j with
    | zero => omega
    | succ j => simpa using q3 j (by omega) (by simpa using h2)
theorem climb_at : ∀ {l : List Int} {k m : Int}, 0 ≤ k → climb k m l → ∀ i, i < l.length → m ≤ l.getD i 0 ∧ l.getD i 0 ≤ 10000 ∧ ∀ j, i < j → j < l.length → l.getD i 0 < l.getD j 0
  | r :: rs, k, m, hk, ⟨a, b, c⟩, 0, _ => ⟨a, by simp; split at b <;> omega, fun j h1 h2 => by
      cases j with
      | zero => omega
      | succ j => have := (climb_at (by omega) c j (by simpa using h2)).1; simp at this ⊢; omega⟩
  | r :: rs, k, m, hk, ⟨a, b, c⟩, i + 1, h => by
    obtain ⟨q1, q2, q3⟩ := climb_at (by omega) c i (by simpa using h)
    refine ⟨by simp at q1 ⊢; omega, by simpa using q2, fun j h1 h2 => ?_⟩
    cases j with
    | zero => omega
    | succ j => simpa using q3 j (by omega) (by simpa using h2)
theorem row_zip {rs ps : List Int} (h : ps.length = rs.length) {i : Nat} (hi : i < rs.length) : row (rs.zip ps) i = (rs.getD i 0, ps.getD i 0) := by
  have h2 : i < ps.length := by omega
  unfold row
  simp [List.getD, List.getElem?_eq_getElem, hi, h2, List.zip, List.getElem?_zipWith]
theorem vs_zip {rs ps : List Int} (a1 : 2 ≤ rs.length) (a2 : rs.length ≤ 6) (a3 : fall 1000 rs) (a4 : ps.length = rs.length) (a5 : climb 0 0 ps) : Vs (rs.zip ps) := by
  have hl : (rs.zip ps).length = rs.length := by rw [List.length_zip, a4, Nat.min_self]
  refine ⟨by omega, by omega, fun i j h1 h2 => ?_, fun i hi => ?_, fun i hi => ?_, ?_⟩
  · rw [row_zip a4 (by omega), row_zip a4 (by omega)]
    exact ⟨(fall_at a3 i (by omega)).2.2 j h1 (by omega), (climb_at (by omega) a5 i (by omega)).2.2 j h1 (by omega)⟩
  · rw [row_zip a4 (by omega)]
    obtain ⟨q1, q2, q3⟩ := fall_at a3 i (by omega)
    exact ⟨q1, q2⟩
  · rw [row_zip a4 (by omega)]
    obtain ⟨q1, q2, q3⟩ := climb_at (by omega) a5 i (by omega)
    exact ⟨q1, q2⟩
  · rw [row_zip a4 (by omega)]
    cases ps with
    | nil => simp at a4; omega
    | cons p ps => obtain ⟨u1, u2, u3⟩ := a5; simp at u2 ⊢; omega
/-- rows whose rates and prices the program takes -/
def Fit (L : Rows) : Prop := ∃ rs ps : List Int, L = rs.zip ps ∧ 2 ≤ rs.length ∧ rs.length ≤ 6 ∧ fall 1000 rs ∧ ps.length = rs.length ∧ climb 0 0 ps
theorem Fit.vs {L : Rows} (h : Fit L) : Vs L := by obtain ⟨rs, ps, rfl, a1, a2, a3, a4, a5⟩ := h; exact vs_zip a1 a2 a3 a4 a5
theorem new_ok [K13 tbl] {L : Rows} (h : Fit L) (hS : closed S.length S = true) :
    newD (Phi tbl (n + 3)) "Stages" 13 true [.tup (rts L), .tup (prs L)] S = .ok (stg L) S := by
  obtain ⟨rs, ps, rfl, a1, a2, a3, a4, a5⟩ := h
  rw [rts_zip a4, prs_zip a4]
  have u : D.unds S.length [.tup ((rs.zip ps).map I2)] = true := by simp [D.unds, D.und, unds_rows]
  have e := init_ok (tbl := tbl) (n := n) (S := S) a1 a2 a3 a4 a5
  simp [newD, e, hS, u]
/-! ### drawn stages -/
theorem climb_snoc : ∀ {ps : List Int} {k m x y : Int}, climb k m ps → ps.getLast? = some y → y + 1 ≤ x → x ≤ 10000 → 0 ≤ k → climb k m (ps ++ [x])
  | [], _, _, _, _, _, h, _, _, _ => by simp at h
  | [p], k, m, x, y, ⟨a, b, _⟩, h, h1, h2, h3 => by
    simp at h
    subst h
    exact ⟨a, b, by omega, by rw [if_pos (by omega)]; exact h2, trivial⟩
  | p :: q :: r, k, m, x, y, ⟨a, b, c⟩, h, h1, h2, h3 => by
    refine ⟨a, b, ?_⟩
    exact climb_snoc (ps := q :: r) c (by simpa using h) h1 h2 (by omega)
/-- what stands behind k draws -/
structure Two (k : Nat) (rs ps : List Int) : Prop where
  r : rs.length = k + 1
  p : ps.length = k + 1
  ra : ∃ a, rs[k]? = some a ∧ 0 ≤ a ∧ a ≤ 5 + k * 190 ∧ fall a rs.reverse
  pa : ∃ b, ps[k]? = some b ∧ ps.getLast? = some b ∧ 0 ≤ b ∧ b ≤ k * 1900 ∧ climb 0 0 ps
/-- the two lists behind the drawer -/
abbrev two (rest : Sto) (rs ps : List Int) : Sto := rest ++ [.lst (rs.map .int), .lst (ps.map .int)]
theorem two_a {rest S : Sto} {rs ps : List Int} (h : Hs (two rest rs ps) S) : S[rest.length + 2]? = some (.lst (rs.map .int)) := by rw [h.at]; simp
theorem two_b {rest S : Sto} {rs ps : List Int} (h : Hs (two rest rs ps) S) : S[rest.length + 3]? = some (.lst (ps.map .int)) := by rw [show rest.length + 3 = rest.length + 1 + 2 by omega, h.at]; simp
theorem two_sa {rest S : Sto} {rs ps rs' : List Int} (h : Hs (two rest rs ps) S) : Hs (two rest rs' ps) (S.set (rest.length + 2) (.lst (rs'.map .int))) := by
  have := h.set rest.length (.lst (rs'.map .int))
  simpa [two] using this
theorem two_sb {rest S : Sto} {rs ps ps' : List Int} (h : Hs (two rest rs ps) S) : Hs (two rest rs ps') (S.set (rest.length + 3) (.lst (ps'.map .int))) := by
  have := h.set (rest.length + 1) (.lst (ps'.map .int))
  rw [show rest.length + 1 + 2 = rest.length + 3 by omega] at this
  simpa [two] using this
theorem step7 [K4 tbl] {S cr cp : _} {rest : Sto} {rs ps : List Int} {k : Nat} {o1 o2 : Option Py.D} (h : Hs (two rest rs ps) S) (hcr : 0 < cr ∧ cr ≤ 190) (hcp : 0 < cp ∧ cp ≤ 1900) (hk : k ≤ 4) (T : Two k rs ps) :
    ∃ S' rs' ps', evSs (Phi tbl (n + 1)) fb7_0 [some (.loc 1), o1, some (.int k), some (.int cr), some (.int cp), some (.loc (rest.length + 2)), some (.loc (rest.length + 3))] S
      = .nxt [some (.loc 1), o1, some (.int k), some (.int cr), some (.int cp), some (.loc (rest.length + 2)), some (.loc (rest.length + 3))] S' ∧ Hs (two rest rs' ps') S' ∧ Two (k + 1) rs' ps' := by
  obtain ⟨a, ea, a0, a1, a2⟩ := T.ra
  obtain ⟨b, eb, eb2, b0, b1, b2⟩ := T.pa
  have hr := T.r
  have hpl := T.p
  obtain ⟨v, S1, e1, q1, v0, v1⟩ := next_ok (tbl := tbl) (n := n) (cap := cr) h hcr.1 (by omega)
  have h2 := two_sa (rs' := rs ++ [a + 1 + v]) q1
  obtain ⟨u, S2, e2, q2, u0, u1⟩ := next_ok (tbl := tbl) (n := n) (cap := cp) h2 hcp.1 (by omega)
  have h3 := two_sb (ps' := ps ++ [b + 1 + u]) q2
  have ka : k < rs.length := by omega
  have kb : k < ps.length := by omega
  have ga : rs[k] = a := by rw [List.getElem?_eq_getElem ka] at ea; exact Option.some.inj ea
  have gb : ps[k] = b := by rw [List.getElem?_eq_getElem kb] at eb; exact Option.some.inj eb
  have z1 : rs.length < 10000 := by omega
  have z2 : ps.length < 10000 := by omega
  refine ⟨_, rs ++ [a + 1 + v], ps ++ [b + 1 + u], ?_, h3, ⟨by simp [hr], by simp [hpl], ⟨a + 1 + v, by rw [List.getElem?_append_right (by omega)]; simp [hr], by omega, by omega, ?_⟩, ⟨b + 1 + u, by rw [List.getElem?_append_right (by omega)]; simp [hpl], by simp, by omega, by omega, climb_snoc b2 eb2 (by omega) (by omega) (by omega)⟩⟩⟩
  · simp only [List.map_append, List.map_cons, List.map_nil] at e2
    simp [fb7_0, two_a h, two_a q1, two_b q1, two_b q2, e1, ixN_nat ka, ixN_nat kb, List.getElem?_map, ea, eb, z1, z2, e2]
  · rw [List.reverse_append]
    exact ⟨by omega, by omega, fall_mono (by omega) a2⟩
theorem loop7 [K4 tbl] {cr cp : Int} {rest : Sto} {o1 : Option Py.D} (hcr : 0 < cr ∧ cr ≤ 190) (hcp : 0 < cp ∧ cp ≤ 1900) :
    ∀ (j k : Nat) (S : Sto) (rs ps : List Int) (o2 : Option Py.D) (xs c : List Py.D), Hs (two rest rs ps) S → k + j ≤ 5 → Two k rs ps →
    ∃ S' rs' ps' o2', forL (.nm 2) (evSs (Phi tbl (n + 1)) fb7_0) (xs, none, c) (rngD k j) [some (.loc 1), o1, o2, some (.int cr), some (.int cp), some (.loc (rest.length + 2)), some (.loc (rest.length + 3))] S
      = .nxt [some (.loc 1), o1, o2', some (.int cr), some (.int cp), some (.loc (rest.length + 2)), some (.loc (rest.length + 3))] S' ∧ Hs (two rest rs' ps') S' ∧ Two (k + j) rs' ps'
  | 0, k, S, rs, ps, o2, xs, c, h, hk, T => ⟨S, rs, ps, o2, rfl, h, T⟩
  | j + 1, k, S, rs, ps, o2, xs, c, h, hk, T => by
    obtain ⟨S1, rs1, ps1, e1, q1, T1⟩ := step7 (tbl := tbl) (n := n) (o1 := o1) (o2 := o2) h hcr hcp (by omega) T
    obtain ⟨S2, rs2, ps2, o3, e2, q2, T2⟩ := loop7 hcr hcp j (k + 1) S1 rs1 ps1 (some (.int k)) xs c q1 (by omega) T1
    refine ⟨S2, rs2, ps2, o3, ?_, q2, by rw [show k + (j + 1) = k + 1 + j by omega]; exact T2⟩
    rw [rngD, forL_cons]
    simp [turnF, e1]
    exact_mod_cast e2
theorem stages_ok [K7 tbl] {rest S : Sto} (h : Hs rest S) (hr : closed (rest.length + 2) rest = true) :
    ∃ L S', Phi tbl (n + 3) 7 [.loc 1] S = .ok (.tup [.tup (rts L), .tup (prs L)]) S' ∧ Hs rest S' ∧ Fit L := by
  rw [phi7]
  obtain ⟨i1, S1, e1, q1, m1⟩ := picki_ok (tbl := tbl) (n := n) [1, 2, 5] h (by decide) (by decide)
  simp at m1
  obtain ⟨v, S2, e2, q2, v1, v2⟩ := next_ok (tbl := tbl) (n := n + 1) (cap := i1) q1 (by omega) (by omega)
  obtain ⟨cr, S3, e3, q3, m3⟩ := picki_ok (tbl := tbl) (n := n) [3, 12, 190] q2 (by decide) (by decide)
  simp at m3
  obtain ⟨cp, S4, e4, q4, m4⟩ := picki_ok (tbl := tbl) (n := n) [6, 60, 1900] q3 (by decide) (by decide)
  simp at m4
  obtain ⟨r0, S5, e5, q5, m5⟩ := picki_ok (tbl := tbl) (n := n) [0, 0, 1, 5] q4 (by decide) (by decide)
  simp at m5
  obtain ⟨j, hj⟩ : ∃ j : Nat, v + 1 = j := ⟨(v + 1).toNat, (Int.toNat_of_nonneg (by omega)).symm⟩
  have T0 : Two 0 [r0] [0] := ⟨rfl, rfl, ⟨r0, rfl, by omega, by omega, by omega, by omega, trivial⟩, ⟨0, rfl, rfl, by omega, by omega, by omega, by simp, trivial⟩⟩
  have q5' : Hs (two rest [r0] [0]) (S5 ++ [.lst [.int r0], .lst [.int 0]]) := q5.app _
  obtain ⟨S6, rs, ps, o, e6, q6, T⟩ := loop7 (tbl := tbl) (n := n + 1) (rest := rest) (o1 := some (.int (2 + v))) (cr := cr) (cp := cp) (by omega) (by omega) j 0 _ [r0] [0] none (rngD 0 j) [] q5' (by omega) T0
  obtain ⟨a, ea, a0, a1, a2⟩ := T.ra
  obtain ⟨b, eb, eb2, b0, b1, b2⟩ := T.pa
  have hrl := T.r
  have hpl := T.p
  have hps : ps.length = rs.reverse.length := by simp; omega
  refine ⟨rs.reverse.zip ps, S6.take (rest.length + 2), ?_, q6.take, rs.reverse, ps, rfl, by simp; omega, by simp; omega, fall_mono (by omega) a2, hps, b2⟩
  rw [rts_zip hps, prs_zip hps]
  have x1 : (2 + v - 1).toNat = j := by omega
  have x2 : -1000 ≤ 2 + v - 1 ∧ 2 + v - 1 ≤ 1000 := by omega
  have hc := h.cut_app (os := [.lst (rs.map .int), .lst (ps.map .int)]) q6 hr (d := .tup [.tup (rs.reverse.map .int), .tup (ps.map .int)]) (by simp only [D.und, D.unds, unds_ints]; rfl) (fun n h => by cases h)
  have hrev : rs.reverse.map Py.D.int = (rs.map Py.D.int).reverse := List.map_reverse
  have z1 : rs.length ≤ 10000 := by omega
  have z2 : ps.length ≤ 10000 := by omega
  rw [hrev] at hc ⊢
  have n5 := q5.len
  simp only [List.map_cons, List.map_nil] at e1 e3 e4 e5
  rw [show ((0 : Nat) : Int) = 0 from rfl] at e6
  simp [fd7, e1, e2, e3, e4, e5, x1, x2, n5, e6, two_a q6, two_b q6, z1, z2, hc]
end Lw

set_option Elab.async false
set_option linter.all false
set_option maxRecDepth 100000
set_option maxHeartbeats 2000000
/-! stages.py: least costs, turns -/
namespace Lw
open PySem PySem.Spec PyProof.Rows L2 Py
variable {tbl : List (Nat × FD)} {n : Nat} {S : Sto}
/-- a row of small integers -/
structure Sz (q : Int × Int) : Prop where
  a : q.1.natAbs < 2 ^ 20
  b : q.2.natAbs < 2 ^ 20
theorem Vs.sz {L : Rows} (v : Vs L) {i : Nat} (h : i < L.length) : Sz (row L i) := by
  have h1 := v.r0 i h
  have h2 := v.p0 i h
  exact ⟨by omega, by omega⟩
theorem Vs.mem {L : Rows} (v : Vs L) {q : Int × Int} (h : q ∈ L) : Sz q := by
  obtain ⟨k, hk, rfl⟩ := mem_row h; exact v.sz hk
theorem bz_i {i : Int} (h : i.natAbs < 2 ^ 20) : bz (i : Rat) ≤ 19 := bz_int i 19 h
def bestS (w : Rat) (s : Nat × Rat) (p : (Int × Int) × Nat) : Nat × Rat := if ln p.1 w < s.2 then (p.2, ln p.1 w) else s
def bestV (L : Rows) (w : Rat) : Nat × Rat := L.zipIdx.foldl (bestS w) (0, ln (row L 0) w)
/-- the first of the rows that cost least -/
structure Best (L : Rows) (w : Rat) (b : Nat × Rat) : Prop where
  l : b.1 < L.length
  e : b.2 = ln (row L b.1) w
  a : ∀ k, k < L.length → b.2 ≤ ln (row L k) w
  f : ∀ k, k < b.1 → b.2 < ln (row L k) w
theorem best_fold {L : Rows} {w : Rat} : ∀ (r : Rows) (m : Nat) (s : Nat × Rat), (∀ i, i < r.length → row L (m + i) = row r i) → s.1 < L.length → s.2 = ln (row L s.1) w → (∀ k, k < m → s.2 ≤ ln (row L k) w) → (∀ k, k < s.1 → s.2 < ln (row L k) w) → s.1 ≤ m → m + r.length = L.length →
    Best L w ((r.zipIdx m).foldl (bestS w) s)
  | [], m, s, hr, h1, h2, h3, h4, h5, h6 => ⟨h1, h2, fun k hk => h3 k (by simp at h6; omega), h4⟩
  | q :: r, m, s, hr, h1, h2, h3, h4, h5, h6 => by
    rw [List.zipIdx_cons, List.foldl_cons]
    have hq : row L m = q := by have := hr 0 (by simp); simpa [row] using this
    have hr' : ∀ i, i < r.length → row L (m + 1 + i) = row r i := fun i hi => by
      have := hr (i + 1) (by simpa using hi)
      rw [show m + 1 + i = m + (i + 1) by omega, this]; simp [row]
    rw [List.length_cons] at h6
    by_cases hc : ln q w < s.2
    · rw [show bestS w s (q, m) = (m, ln q w) from if_pos hc]
      refine best_fold r (m + 1) _ hr' (by show m < _; omega) (by show ln q w = ln (row L m) w; rw [hq]) (fun k hk => ?_) (fun k hk => ?_) (by show m ≤ _; omega) (by omega)
      · show ln q w ≤ _
        by_cases hkm : k = m
        · subst hkm; rw [hq]; exact Rat.le_refl
        · have := h3 k (by omega); grind
      · show ln q w < _
        have hk : k < m := hk
        have := h3 k hk; grind
    · rw [show bestS w s (q, m) = s from if_neg hc]
      refine best_fold r (m + 1) _ hr' h1 h2 (fun k hk => ?_) h4 (by omega) (by omega)
      by_cases hkm : k = m
      · subst hkm; rw [hq]; grind
      · exact h3 k (by omega)
theorem best_best {L : Rows} (v : Vs L) (w : Rat) : Best L w (bestV L w) := by
  have hl := v.lo
  exact best_fold L 0 _ (fun i hi => by rw [Nat.zero_add]) (by show 0 < _; omega) rfl (fun k hk => by omega) (fun k hk => by have hk : k < 0 := hk; omega) (Nat.le_refl _) (by omega)
/-- the least cost -/
def lst (L : Rows) (w : Rat) : Rat := (bestV L w).2
theorem bz_crs {a q : Int × Int} (h1 : q.1 < a.1) (ha : Sz a) (hq : Sz q) : bz (crs a q) ≤ 21 := by
  have h2 := ha.a
  have h3 := hq.a
  have h4 := ha.b
  have h5 := hq.b
  exact bz_quo _ _ 21 (by omega) (by omega) (by omega)
abbrev T2 (p : Rat × Nat) : Py.D := .tup [Q p.1, .int p.2]
def optT : Option (Rat × Nat) → Py.D
  | none => .non
  | some p => T2 p
end Lw

set_option Elab.async false
set_option linter.all false
set_option maxRecDepth 100000
set_option maxHeartbeats 2000000
/-! the laws' own: alike, least -/
namespace Lw
open PySem PySem.Spec PyProof.Rows L2 Py
variable {tbl : List (Nat × FD)} {n : Nat} {S : Sto}
/-- plain data of a depth -/
def Pl : Nat → Py.D → Prop
  | 0, _ => False
  | k + 1, .tup ds => ds.length ≤ 1000 ∧ ∀ d ∈ ds, Pl k d
  | k + 1, .lst ds => ds.length ≤ 1000 ∧ ∀ d ∈ ds, Pl k d
  | _ + 1, .int _ => True
  | _ + 1, .bl _ => True
  | _ + 1, .non => True
  | _ + 1, .str s => SeqAt.shaped (.str s) = true
  | _ + 1, _ => False
theorem compL_none {X : Type} {f : Py.D → Sto → R (Option Py.D)} {w c : List Py.D} {S : Sto} (g : X → Py.D) (l : List X) (h : ∀ x ∈ l, f (g x) S = .ok none S) (hl : l.length ≤ 9000) :
    compL f (w, none, c) (l.map g) [] S = .ok [] S := by
  have := compL_map (w := w) (c := c) g (fun _ => none) l [] h (by simp; omega)
  rw [this]; simp
theorem eqD_nil (S : Sto) : eqD S (.lst []) (.lst []) = some true := rfl
theorem eqD_non (S : Sto) : eqD S .non .non = some true := rfl
theorem str_eqv (s : Str) : PyData.eqv (.str s) (.str s) = true := by
  show (s == s) = true
  simp
theorem eqD_str (S : Sto) (s : Str) (e1 : SeqAt.shaped (.str s) = true) : eqD S (.str s) (.str s) = some true := by
  show (if SeqAt.shaped (.str s) && SeqAt.shaped (.str s) then some (PyData.eqv (.str s) (.str s)) else none) = _
  rw [e1, Bool.and_self, if_pos rfl, str_eqv]
theorem eqD_bl (S : Sto) (a b : Bool) : eqD S (.bl a) (.bl b) = some (decide (a = b)) := by
  cases a <;> cases b <;> rfl
theorem alike_seq [K5 tbl] {ds : List Py.D} (hl : ds.length ≤ 1000) (h : ∀ d ∈ ds, Phi tbl n 5 [d, d] S = .ok (.bl true) S) (D : Py.D) (hD : D = .tup ds ∨ D = .lst ds) : Phi tbl (n + 1) 5 [D, D] S = .ok (.bl true) S := by
  rw [phi5]
  have r : rngW [.int ds.length] = some (rngD 0 ds.length, none, []) := by
    show (if _ then _ else _) = _
    rw [if_pos (by omega)]
    rfl
  have m := rngD_map ds.length 0
  rw [show ((0 : Nat) : Int) = 0 from rfl] at m
  have hc : ∀ (w c : List Py.D) (o : Option Py.D), compL (fun d S' => match asgT S' (.nm 2) d (wipeE [some D, some D, o] [2]) with
      | some δ' => (evc (Phi tbl n) cc5_0 δ' S').bind fun b S => if b then (ev (Phi tbl n) ce5_1 δ' S).bind fun y S => .ok (some y) S else .ok none S
      | none => .stuck) (w, none, c) (rngD 0 ds.length) [] S = .ok [] S := by
    intro w c o
    rw [m]
    refine compL_none _ _ (fun i hi => ?_) (by simp; omega)
    obtain ⟨h1, h2⟩ := List.mem_range'_1.mp hi
    have hi2 : i < ds.length := by omega
    have g := h ds[i] (List.getElem_mem hi2)
    rcases hD with rfl | rfl <;> simp [wipeE, cc5_0, ixN_nat hi2, List.getElem?_eq_getElem hi2, g]
  have hl2 : ds.length ≤ 10000 := by omega
  rcases hD with rfl | rfl
  · have hc' := fun w c => hc w c none
    simp [wipeE] at hc'
    simp [fd5, eqD_bl, r, hc', eqD_nil, -rngW, wipeE]
  · have hc' := fun w c => hc w c none
    simp [wipeE] at hc'
    simp [fd5, eqD_bl, r, hc', eqD_nil, -rngW, wipeE]
theorem alike_ok [K5 tbl] : ∀ (k : Nat) (d : Py.D), Pl k d → Phi tbl (n + k) 5 [d, d] S = .ok (.bl true) S
  | 0, d, h => absurd h (by simp [Pl])
  | k + 1, .tup ds, h => alike_seq (n := n + k) h.1 (fun d hd => alike_ok k d (h.2 d hd)) _ (.inl rfl)
  | k + 1, .lst ds, h => alike_seq (n := n + k) h.1 (fun d hd => alike_ok k d (h.2 d hd)) _ (.inr rfl)
  | k + 1, .int i, _ => by
    rw [show n + (k + 1) = n + k + 1 from rfl, phi5]
    simp [fd5, eqD_bl]
  | k + 1, .bl b, _ => by
    rw [show n + (k + 1) = n + k + 1 from rfl, phi5]
    simp [fd5, eqD_bl]
  | k + 1, .non, _ => by
    rw [show n + (k + 1) = n + k + 1 from rfl, phi5]
    simp [fd5, eqD_bl, eqD_non]
  | k + 1, .str s, h => by
    rw [show n + (k + 1) = n + k + 1 from rfl, phi5]
    simp [fd5, eqD_bl, eqD_str S s h]
  | _ + 1, .obj _ _ _, h => absurd h (by simp [Pl])
  | _ + 1, .loc _, h => absurd h (by simp [Pl])
  | _ + 1, .fn _, h => absurd h (by simp [Pl])
  | _ + 1, .scr _, h => absurd h (by simp [Pl])
/-- what a row costs, times the wait's parts -/
def lnum (q : Int × Int) (w : Rat) : Int := q.1 * w.num + q.2 * w.den
theorem den_posR (w : Rat) : (0 : Rat) < (w.den : Int) := by exact_mod_cast w.den_pos
theorem num_denR (w : Rat) : ((w.num : Int) : Rat) = w * ((w.den : Int) : Rat) := by
  have h := Rat.num_divInt_den w
  rw [Rat.divInt_eq_div] at h
  have := den_posR w
  grind
/-- the lines of all rows -/
def lnums (L : Rows) (w : Rat) : List Int := L.map fun q => lnum q w
@[simp] theorem rts_len (L : Rows) : (rts L).length = L.length := by simp [rts]
@[simp] theorem prs_len (L : Rows) : (prs L).length = L.length := by simp [prs]
theorem range_row {α : Type} (L : Rows) (f : Int × Int → α) : ((List.range' 0 L.length).map fun k => f (row L k)) = L.map f := by
  apply List.ext_getElem
  · simp
  · intro i h1 h2
    simp at h1 h2 ⊢
    rw [row_eq h1]
theorem rngW_one {m : Nat} (h : m ≤ 1000) : rngW [.int m] = some (rngD 0 m, none, []) := by
  show (if _ then _ else _) = _
  rw [if_pos (by omega)]
  rfl
end Lw

set_option Elab.async false
set_option linter.all false
set_option maxRecDepth 100000
set_option maxHeartbeats 2000000
/-! law k02 -/
namespace Lw
open PySem PySem.Spec PyProof.Rows L2 Py
variable {tbl : List (Nat × FD)} {n : Nat} {S : Sto}
theorem le_ht (r : Rat) : r ≤ ((ht r : Nat) : Rat) := by
  rw [Rat.le_iff]
  have h1 := num_le r
  have h2 := r.den_pos
  have e1 : ((ht r : Nat) : Rat).num = ht r := Rat.num_natCast _
  have e2 : ((ht r : Nat) : Rat).den = 1 := Rat.den_natCast _
  rw [e1, e2]
  have h3 : (ht r : Int) * 1 ≤ (ht r : Int) * r.den := Int.mul_le_mul_of_nonneg_left (by omega) (by omega)
  omega
theorem lt_of_bz {r : Rat} {k : Nat} (h : bz r < k) (hk : k ≤ 40) : r ≤ 10 ^ 15 := by
  have h1 := le_ht r
  have h2 : ht r < 2 ^ 40 := Nat.lt_of_lt_of_le (ht_lt r) (Nat.pow_le_pow_right (by omega) (by omega))
  have h3 : ((ht r : Nat) : Rat) ≤ ((2 ^ 40 : Nat) : Rat) := by exact_mod_cast Nat.le_of_lt h2
  have h4 : ((2 ^ 40 : Nat) : Rat) ≤ 10 ^ 15 := by decide +kernel
  grind
/-- what a turn is -/
structure Tn (L : Rows) (p : Rat × Nat) : Prop where
  n : 0 ≤ p.1
  m : p.1 ≤ 10 ^ 15
  b : bz p.1 ≤ 21
  l : p.2 < L.length
theorem Tn.of {L : Rows} (v : Vs L) {p : Rat × Nat} (h : p ∈ turns L) : Tn L p := by
  have e := turns_env v
  have a := e.mem p h
  have hb : bz p.1 ≤ 21 := by
    rcases List.mem_cons.mp h with rfl | h
    · show bz 0 ≤ 21; rw [bz_zero]; omega
    · obtain ⟨j, h1, h2, h3⟩ := e.crs p h
      rw [h3]
      exact bz_crs (v.pw j p.2 h1 h2).1 (v.sz (by omega)) (v.sz h2)
  exact ⟨a.n, lt_of_bz (k := 22) (by omega) (by omega), hb, a.l⟩
theorem lst_le {L : Rows} (v : Vs L) {w : Rat} {i : Nat} (hi : i < L.length) (h : ∀ k, k < L.length → ln (row L i) w ≤ ln (row L k) w) : lst L w = ln (row L i) w := by
  have b := best_best v w
  have h1 := b.a i hi
  have h2 := h _ b.l
  rw [← b.e] at h2
  unfold lst
  grind
end Lw

set_option Elab.async false
set_option linter.all false
namespace Lw
/-! plans and what waits cost by them -/
def rr (L : Rows) (s : Nat) : Rat := ((row L s).1 : Rat)
def pp (L : Rows) (s : Nat) : Rat := ((row L s).2 : Rat)
/-- a plan that goes on from a wait and a stage -/
def PlanOk (L : Rows) (B : Nat) : Rat → Nat → List (Rat × Nat) → Prop
  | _, _, [] => True
  | T, s, (c, i) :: r => T ≤ c ∧ c ≤ 10 ^ 15 ∧ bz c ≤ B ∧ s < i ∧ i < L.length ∧ PlanOk L B c i r
/-- what is paid by the second from a wait on -/
def runP (L : Rows) (w : Rat) : Rat → Nat → List (Rat × Nat) → Rat
  | T, s, [] => rr L s * (w - T)
  | T, s, (c, i) :: r => if c < w then rr L s * (c - T) + runP L w c i r else rr L s * (w - T)
/-- the stage in which a wait ends -/
def endP (w : Rat) (b : Bool) : Nat → List (Rat × Nat) → Nat
  | s, [] => s
  | s, (c, i) :: r => if c < w ∨ (b = true ∧ c = w) then endP w b i r else s
def costP (L : Rows) (pl : List (Rat × Nat)) (w : Rat) (b : Bool) : Rat := runP L w 0 0 pl + pp L (endP w b 0 pl)
theorem PlanOk.ge {L : Rows} {B : Nat} : ∀ {pl : List (Rat × Nat)} {T : Rat} {s : Nat}, PlanOk L B T s pl → ∀ p ∈ pl, T ≤ p.1 ∧ s < p.2 ∧ p.2 < L.length ∧ p.1 ≤ 10 ^ 15 ∧ bz p.1 ≤ B
  | [], T, s, _, p, hp => by simp at hp
  | (c, i) :: r, T, s, ⟨h1, h2, h3, h4, h5, h6⟩, p, hp => by
    rcases List.mem_cons.mp hp with rfl | hp
    · exact ⟨h1, h4, h5, h2, h3⟩
    · obtain ⟨q1, q2, q3, q4, q5⟩ := PlanOk.ge h6 p hp
      exact ⟨Rat.le_trans h1 q1, by omega, q3, q4, q5⟩
theorem PlanOk.len {L : Rows} {B : Nat} : ∀ {pl : List (Rat × Nat)} {T : Rat} {s : Nat}, PlanOk L B T s pl → s < L.length → pl.length + s < L.length
  | [], T, s, _, h => by simpa using h
  | (c, i) :: r, T, s, ⟨h1, h2, h3, h4, h5, h6⟩, h => by
    have := PlanOk.len h6 h5
    simp; omega
def costF (L : Rows) (w : Rat) (s : Rat × Rat × Nat) (p : Rat × Nat) : Rat × Rat × Nat := if p.1 < w then (s.1 + rr L s.2.2 * (p.1 - s.2.1), p.1, p.2) else s
def lcostF (L : Rows) (w : Rat) (b : Bool) (s : Rat × Rat × Nat) (p : Rat × Nat) : Rat × Rat × Nat := if p.1 < w ∨ (b = true ∧ p.1 = w) then (s.1 + rr L s.2.2 * (p.1 - s.2.1), p.1, p.2) else s
def stageF (w : Rat) (b : Bool) (s : Nat) (p : Rat × Nat) : Nat := if p.1 < w ∨ (b = true ∧ p.1 = w) then p.2 else s
end Lw

set_option Elab.async false
set_option linter.all false
set_option maxRecDepth 100000
set_option maxHeartbeats 2000000
/-! plans.py: what waits cost -/
namespace Lw
open PySem PySem.Spec PyProof.Rows L2 Py
variable {tbl : List (Nat × FD)} {n : Nat} {S : Sto}
/-- the sum of what is paid, with its size -/
theorem bz_step {L : Rows} (v : Vs L) {s : Nat} (hs : s < L.length) {x c T : Rat} : bz (rr L s * (c - T)) ≤ bz c + bz T + 25 ∧ bz (x + rr L s * (c - T)) ≤ bz x + bz c + bz T + 30 := by
  have h1 := bz_i (v.sz hs).a
  have h2 := bz_sub c T
  have h3 := bz_mul (rr L s) (c - T)
  have h4 := bz_add x (rr L s * (c - T))
  unfold rr at *
  omega
structure CI (L : Rows) (B : Nat) (r : List (Rat × Nat)) (s : Rat × Rat × Nat) : Prop where
  k : ∃ T k, PlanOk L B T k r ∧ s.2.2 ≤ k ∧ bz s.1 ≤ k * (2 * B + 30) ∧ k < L.length
  b : bz s.2.1 ≤ B
theorem CI.lt {L : Rows} {B : Nat} {r : List (Rat × Nat)} {s : Rat × Rat × Nat} (h : CI L B r s) : s.2.2 < L.length := by obtain ⟨T, k, _, h2, _, h4⟩ := h.k; omega
theorem CI.sz {L : Rows} (v : Vs L) {B : Nat} {r : List (Rat × Nat)} {s : Rat × Rat × Nat} (h : CI L B r s) : bz s.1 ≤ 5 * (2 * B + 30) := by
  obtain ⟨T, k, _, h2, h3, h4⟩ := h.k
  have := v.hi
  have : k * (2 * B + 30) ≤ 5 * (2 * B + 30) := Nat.mul_le_mul_right _ (by omega)
  omega
theorem CI.go {L : Rows} (v : Vs L) {B : Nat} {p : Rat × Nat} {r : List (Rat × Nat)} {s : Rat × Rat × Nat} (h : CI L B (p :: r) s) : CI L B r (s.1 + rr L s.2.2 * (p.1 - s.2.1), p.1, p.2) := by
  obtain ⟨T, k, ⟨a1, a2, a3, a4, a5, a6⟩, h2, h3, h4⟩ := h.k
  have h5 := h.b
  have := (bz_step v h.lt (x := s.1) (c := p.1) (T := s.2.1)).2
  refine ⟨⟨p.1, p.2, a6, Nat.le_refl _, ?_, a5⟩, a3⟩
  have e : (k + 1) * (2 * B + 30) ≤ p.2 * (2 * B + 30) := Nat.mul_le_mul_right _ (by omega)
  rw [Nat.add_mul, Nat.one_mul] at e
  show bz (s.1 + rr L s.2.2 * (p.1 - s.2.1)) ≤ p.2 * (2 * B + 30)
  omega
theorem CI.skip {L : Rows} {B : Nat} {p : Rat × Nat} {r : List (Rat × Nat)} {s : Rat × Rat × Nat} (h : CI L B (p :: r) s) : CI L B r s := by
  obtain ⟨T, k, ⟨a1, a2, a3, a4, a5, a6⟩, h2, h3, h4⟩ := h.k
  refine ⟨⟨p.1, p.2, a6, by omega, ?_, a5⟩, h.b⟩
  have : k * (2 * B + 30) ≤ p.2 * (2 * B + 30) := Nat.mul_le_mul_right _ (by omega)
  omega
theorem CI.zero {L : Rows} {B : Nat} {pl : List (Rat × Nat)} (h0 : 0 < L.length) (h : PlanOk L B 0 0 pl) : CI L B pl (0, 0, 0) :=
  ⟨⟨0, 0, h, Nat.le_refl _, by show bz 0 ≤ _; rw [bz_zero]; omega, h0⟩, by show bz 0 ≤ _; rw [bz_zero]; omega⟩
end Lw

set_option Elab.async false
set_option linter.all false
set_option maxRecDepth 100000
set_option maxHeartbeats 2000000
/-! the laws' own: plans, costs; law k03 -/
namespace Lw
open PySem PySem.Spec PyProof.Rows L2 Py
variable {tbl : List (Nat × FD)} {n : Nat} {S : Sto}
/-- one more stretch: number / parts and a rate times over / under -/
theorem stretch {x d : Rat} {r : Int} : ((x.num * d.den + r * d.num * x.den : Int) : Rat) / ((x.den * d.den : Int) : Rat) = x + (r : Rat) * d := by
  have h1 := den_posR x
  have h2 := den_posR d
  rw [Rat.intCast_add, Rat.intCast_mul, Rat.intCast_mul, Rat.intCast_mul, Rat.intCast_mul, num_denR x, num_denR d]
  generalize ((x.den : Int) : Rat) = u at *
  generalize ((d.den : Int) : Rat) = w at *
  have h3 : u * w ≠ 0 := by
    have := Rat.mul_pos h1 h2
    grind
  have e : x * u * w + (r : Rat) * (d * w) * u = (x + (r : Rat) * d) * (u * w) := by grind
  rw [e, Rat.mul_div_cancel h3]
/-! ### drawn plans -/
def Srt : Rat → List Rat → Prop
  | _, [] => True
  | T, c :: r => T ≤ c ∧ Srt c r
theorem Srt.ge : ∀ {l : List Rat} {T : Rat}, Srt T l → ∀ x ∈ l, T ≤ x
  | [], T, _, x, hx => by simp at hx
  | c :: r, T, ⟨h1, h2⟩, x, hx => by
    rcases List.mem_cons.mp hx with rfl | hx
    · exact h1
    · exact Rat.le_trans h1 (Srt.ge h2 x hx)
theorem Srt.ins {w : Rat} : ∀ {l : List Rat} {T : Rat}, Srt T l → T ≤ w → Srt T (l.take (l.filter fun x => decide (x ≤ w)).length ++ [w] ++ l.drop (l.filter fun x => decide (x ≤ w)).length)
  | [], T, _, h => ⟨h, trivial⟩
  | c :: r, T, ⟨h1, h2⟩, h => by
    by_cases hc : c ≤ w
    · rw [List.filter_cons, if_pos (by simpa using hc), List.length_cons, List.take_succ_cons, List.drop_succ_cons]
      exact ⟨h1, Srt.ins h2 hc⟩
    · have h0 : (c :: r).filter (fun x => decide (x ≤ w)) = [] := by
        rw [List.filter_eq_nil_iff]
        intro x hx
        have : c ≤ x := by
          rcases List.mem_cons.mp hx with rfl | hx
          · exact Rat.le_refl
          · exact h2.ge x hx
        have : ¬ x ≤ w := by grind
        simpa using this
      rw [h0]
      exact ⟨h, by grind, h2⟩
/-- waits and stages drawn so far -/
structure Dr (k : Nat) (ws : List Rat) (fs : List Nat) : Prop where
  l : ws.length = fs.length
  b : ws.length < k
  s : Srt 0 ws
  w : ∀ x ∈ ws, Wt x
  f : ∀ x ∈ fs, 0 < x ∧ x < k
  p : fs.Pairwise (· < ·)
theorem cut_take {α : Type} (l : List α) (k : Nat) : Py.cutD l none (some (k : Int)) = l.take k := by
  unfold Py.cutD
  rw [HT.sIx_none, HT.sIx_nat, List.drop_zero, Nat.sub_zero, List.take_eq_take_iff]
  omega
abbrev one (rest : Sto) (fs : List Nat) : Sto := rest ++ [.lst (fs.map fun i : Nat => .int (i : Int))]
end Lw

set_option Elab.async false
set_option linter.all false
namespace Lw
/-! shares: cost and least cost, piece by piece -/
theorem runP_self {L : Rows} {B : Nat} {c : Rat} {i : Nat} : ∀ {r : List (Rat × Nat)}, PlanOk L B c i r → runP L c c i r = 0
  | [], _ => by unfold runP; grind
  | (c', i') :: r, h => by
    have := h.1
    rw [runP, if_neg (by grind)]; grind
/-- what is paid grows by the stage's rate as long as the plan does not move -/
theorem run_piece {L : Rows} {B : Nat} {a x : Rat} {b : Bool} (hax : a < x) : ∀ {pl : List (Rat × Nat)} {T : Rat} {s : Nat}, PlanOk L B T s pl → T ≤ a → (∀ p ∈ pl, p.1 ≤ a ∨ x < p.1 ∨ (x = p.1 ∧ b = false)) →
    runP L x T s pl = runP L a T s pl + rr L (endP a true s pl) * (x - a) ∧ endP x b s pl = endP a true s pl
  | [], T, s, _, hT, _ => by
    unfold runP endP
    exact ⟨by grind, rfl⟩
  | (c, i) :: r, T, s, h, hT, hp => by
    obtain ⟨h1, h2, h3, h4, h5, h6⟩ := id h
    by_cases hc : c ≤ a
    · obtain ⟨e1, e2⟩ := run_piece hax h6 hc (fun p hq => hp p (List.mem_cons_of_mem _ hq))
      have c1 : c < x := by grind
      have c2 : c < a ∨ (true = true ∧ c = a) := by grind
      have q1 : endP x b s ((c, i) :: r) = endP x b i r := by rw [endP]; exact if_pos (.inl c1)
      have q2 : endP a true s ((c, i) :: r) = endP a true i r := by rw [endP]; exact if_pos c2
      have q3 : runP L x T s ((c, i) :: r) = rr L s * (c - T) + runP L x c i r := by rw [runP]; exact if_pos c1
      rw [q1, q2, q3]
      refine ⟨?_, e2⟩
      rw [e1]
      by_cases c3 : c < a
      · have q4 : runP L a T s ((c, i) :: r) = rr L s * (c - T) + runP L a c i r := by rw [runP]; exact if_pos c3
        rw [q4]; grind
      · have c4 : c = a := by grind
        have q4 : runP L a T s ((c, i) :: r) = rr L s * (a - T) := by rw [runP]; exact if_neg c3
        rw [q4]
        subst c4
        rw [runP_self h6]; grind
    · have hx := hp (c, i) (List.mem_cons_self ..)
      have c1 : ¬ c < x := by grind
      have c2 : ¬ (c < x ∨ (b = true ∧ c = x)) := by
        rcases hx with q | q | ⟨q1, q2⟩
        · exact absurd q hc
        · grind
        · simp [q2]; grind
      have c3 : ¬ (c < a ∨ (true = true ∧ c = a)) := by grind
      have q1 : endP x b s ((c, i) :: r) = s := by rw [endP]; exact if_neg c2
      have q2 : endP a true s ((c, i) :: r) = s := by rw [endP]; exact if_neg c3
      have q3 : runP L x T s ((c, i) :: r) = rr L s * (x - T) := by rw [runP]; exact if_neg c1
      have q4 : runP L a T s ((c, i) :: r) = rr L s * (a - T) := by rw [runP]; exact if_neg (by grind)
      rw [q1, q2, q3, q4]
      exact ⟨by grind, rfl⟩
theorem cost_piece {L : Rows} {B : Nat} {a x : Rat} {b : Bool} {pl : List (Rat × Nat)} (h : PlanOk L B 0 0 pl) (ha : 0 ≤ a) (hax : a < x) (hp : ∀ p ∈ pl, p.1 ≤ a ∨ x < p.1 ∨ (x = p.1 ∧ b = false)) :
    costP L pl x b = costP L pl a true + rr L (endP a true 0 pl) * (x - a) := by
  obtain ⟨e1, e2⟩ := run_piece hax h ha hp
  unfold costP
  rw [e1, e2]; grind
/-- the stage in which a plan ends -/
def lastS : Nat → List (Rat × Nat) → Nat
  | s, [] => s
  | _, (_, i) :: r => lastS i r
theorem endP_last {a : Rat} : ∀ {pl : List (Rat × Nat)} {s : Nat}, (∀ p ∈ pl, p.1 ≤ a) → endP a true s pl = lastS s pl
  | [], _, _ => rfl
  | (c, i) :: r, s, h => by
    have := h (c, i) (List.mem_cons_self ..)
    rw [endP, if_pos (by grind), lastS]
    exact endP_last (fun p hp => h p (List.mem_cons_of_mem _ hp))
theorem lastS_lt {L : Rows} {B : Nat} : ∀ {pl : List (Rat × Nat)} {T : Rat} {s : Nat}, PlanOk L B T s pl → s < L.length → lastS s pl < L.length
  | [], _, _, _, h => h
  | (c, i) :: r, T, s, ⟨h1, h2, h3, h4, h5, h6⟩, h => show lastS i r < L.length from lastS_lt h6 h5
/-- one row is least between two waits between which there is no turn -/
theorem Envl.piece {L : Rows} {a x : Rat} (hax : a ≤ x) : ∀ {r : List (Rat × Nat)} {T : Rat} {s : Nat}, Envl L T s r → T ≤ a → (∀ p ∈ r, p.1 ≤ a ∨ x ≤ p.1) →
    ∃ t, t < L.length ∧ (∀ y, a ≤ y → y ≤ x → ∀ k, k < L.length → ln (row L t) y ≤ ln (row L k) y) ∧ ((∀ p ∈ r, p.1 ≤ a) → t + 1 = L.length ∧ ∀ y, a ≤ y → ∀ k, k < L.length → ln (row L t) y ≤ ln (row L k) y) ∧ ((∀ p ∈ r, x ≤ p.1 ∧ a < p.1) → t = s)
  | [], T, s, h, hT, _ => ⟨s, h.1.l, fun y h1 _ => h.2.2 y (Rat.le_trans hT h1), fun _ => ⟨h.2.1, fun y h1 => h.2.2 y (Rat.le_trans hT h1)⟩, fun _ => rfl⟩
  | (c, i) :: r, T, s, h, hT, hp => by
    by_cases hc : c ≤ a
    · obtain ⟨t, h1, h2, h3, h4⟩ := Envl.piece hax h.2.2.2.2.2.2 hc (fun p hq => hp p (List.mem_cons_of_mem _ hq))
      exact ⟨t, h1, h2, fun hq => h3 (fun p hp => hq p (List.mem_cons_of_mem _ hp)), fun hq => by have := (hq (c, i) (List.mem_cons_self ..)).2; grind⟩
    · have hx : x ≤ c := by rcases hp (c, i) (List.mem_cons_self ..) with q | q; exact absurd q hc; exact q
      exact ⟨s, h.1.l, fun y h1 h2 => h.2.2.2.2.1 y (Rat.le_trans hT h1) (Rat.le_trans h2 hx), fun hq => absurd (hq (c, i) (List.mem_cons_self ..)) hc, fun _ => rfl⟩
/-- the least cost, by what it is -/
structure Least (L : Rows) (f : Rat → Rat) : Prop where
  h : ∀ w t, t < L.length → (∀ k, k < L.length → ln (row L t) w ≤ ln (row L k) w) → f w = ln (row L t) w
  e : ∀ w, ∃ t, t < L.length ∧ f w = ln (row L t) w ∧ ∀ k, k < L.length → f w ≤ ln (row L k) w
theorem Least.pos {L : Rows} {f : Rat → Rat} (v : Vs L) (l : Least L f) {w : Rat} (hw : 0 < w) : 0 < f w := by
  obtain ⟨t, h1, h2, _⟩ := l.e w
  rw [h2]
  obtain ⟨r0, p0⟩ := v.rR h1
  have hl := v.lo
  unfold ln
  have hm : 0 ≤ ((row L t).1 : Rat) * w := Rat.mul_nonneg r0 (Rat.le_of_lt hw)
  by_cases ht : t = 0
  · subst ht
    have h3 := (v.pwR (show 0 < 1 by omega) (show 1 < L.length by omega)).1
    have h4 := (v.rR (show 1 < L.length by omega)).1
    have h5 : 0 < ((row L 0).1 : Rat) := by grind
    have := Rat.mul_pos h5 hw
    grind
  · have h3 := (v.pwR (show 0 < t by omega) h1).2
    have h4 := v.zR
    grind
/-- a mark: a wait above 0 at which costs bend or jump -/
def isMark (L : Rows) (pl : List (Rat × Nat)) (m : Rat) : Prop := 0 < m ∧ ((∃ p ∈ pl, p.1 = m) ∨ (∃ p ∈ turns L, p.1 = m))
theorem ex_max (P : Rat → Prop) : ∀ (l : List Rat), (∀ x ∈ l, ¬ P x) ∨ ∃ m, m ∈ l ∧ P m ∧ ∀ x ∈ l, P x → x ≤ m
  | [] => .inl (fun x h => by simp at h)
  | y :: l => by
    by_cases hy : P y
    · right
      rcases ex_max P l with h | ⟨m, h1, h2, h3⟩
      · refine ⟨y, List.mem_cons_self .., hy, fun x hx px => ?_⟩
        rcases List.mem_cons.mp hx with rfl | hx
        · exact Rat.le_refl
        · exact absurd px (h x hx)
      · by_cases hm : m ≤ y
        · refine ⟨y, List.mem_cons_self .., hy, fun x hx px => ?_⟩
          rcases List.mem_cons.mp hx with rfl | hx
          · exact Rat.le_refl
          · exact Rat.le_trans (h3 x hx px) hm
        · refine ⟨m, List.mem_cons_of_mem _ h1, h2, fun x hx px => ?_⟩
          rcases List.mem_cons.mp hx with rfl | hx
          · grind
          · exact h3 x hx px
    · rcases ex_max P l with h | ⟨m, h1, h2, h3⟩
      · left
        intro x hx
        rcases List.mem_cons.mp hx with rfl | hx
        · exact hy
        · exact h x hx
      · right
        refine ⟨m, List.mem_cons_of_mem _ h1, h2, fun x hx px => ?_⟩
        rcases List.mem_cons.mp hx with rfl | hx
        · exact absurd px hy
        · exact h3 x hx px
theorem ex_min (P : Rat → Prop) : ∀ (l : List Rat), (∀ x ∈ l, ¬ P x) ∨ ∃ m, m ∈ l ∧ P m ∧ ∀ x ∈ l, P x → m ≤ x
  | l => by
    rcases ex_max (fun x => P (-x)) (l.map (fun x => -x)) with h | ⟨m, h1, h2, h3⟩
    · left
      intro x hx px
      refine h (-x) (List.mem_map.mpr ⟨x, hx, rfl⟩) ?_
      have : - -x = x := by grind
      rw [this]; exact px
    · right
      obtain ⟨y, hy, rfl⟩ := List.mem_map.mp h1
      have e : - -y = y := by grind
      rw [e] at h2
      refine ⟨y, hy, h2, fun x hx px => ?_⟩
      have e2 : - -x = x := by grind
      have := h3 (-x) (List.mem_map.mpr ⟨x, hx, rfl⟩) (by rw [e2]; exact px)
      grind
def markL (L : Rows) (pl : List (Rat × Nat)) : List Rat := (pl.map (·.1)) ++ ((turns L).map (·.1))
theorem isMark_iff {L : Rows} {pl : List (Rat × Nat)} {m : Rat} : isMark L pl m ↔ 0 < m ∧ m ∈ markL L pl := by
  unfold isMark markL
  rw [List.mem_append, List.mem_map, List.mem_map]
/-- costs of any wait against a share, from those at marks -/
theorem share_sup {L : Rows} (v : Vs L) {f : Rat → Rat} (l : Least L f) {B : Nat} {pl : List (Rat × Nat)} (hp : PlanOk L B 0 0 pl) (h0 : ∀ p ∈ pl, 0 < p.1) {M : Rat} (hM1 : 1 ≤ M)
    (hM : ∀ m b, isMark L pl m → costP L pl m b ≤ M * f m) (hE : rr L (lastS 0 pl) ≤ M * rr L (L.length - 1)) (w : Rat) (b : Bool) (hw : 0 < w) :
    costP L pl w b ≤ M * f w ∧ (1 < M → costP L pl w b = M * f w → ∃ m b', isMark L pl m ∧ m ≤ w ∧ costP L pl m b' = M * f m) := by
  have env := turns_env v
  by_cases hmk : isMark L pl w
  · exact ⟨hM w b hmk, fun _ e => ⟨w, b, hmk, Rat.le_refl, e⟩⟩
  have hno : ∀ x ∈ markL L pl, x ≠ w := fun x hx e => hmk (isMark_iff.mpr ⟨hw, e ▸ hx⟩)
  have hnp : ∀ p ∈ pl, p.1 ≠ w := fun p hq => hno p.1 (List.mem_append_left _ (List.mem_map.mpr ⟨p, hq, rfl⟩))
  have hnt : ∀ p ∈ turnsGo L L.length 0, p.1 ≠ w := fun p hq => hno p.1 (List.mem_append_right _ (List.mem_map.mpr ⟨p, List.mem_cons_of_mem _ hq, rfl⟩))
  have gt := env.gt
  rcases ex_max (fun x => 0 < x ∧ x < w) (markL L pl) with hA | ⟨a, ha1, ⟨ha2, ha3⟩, ha4⟩
  · -- no mark below: stage 0, and it is least
    have ep : ∀ p ∈ pl, w < p.1 := fun p hq => by
      have h1 := hA p.1 (List.mem_append_left _ (List.mem_map.mpr ⟨p, hq, rfl⟩))
      have h2 := h0 p hq
      have h3 := hnp p hq
      grind
    have et : ∀ p ∈ turnsGo L L.length 0, w < p.1 := fun p hq => by
      have h1 := hA p.1 (List.mem_append_right _ (List.mem_map.mpr ⟨p, List.mem_cons_of_mem _ hq, rfl⟩))
      have h2 := gt p hq
      have h3 := hnt p hq
      grind
    have ec : costP L pl w b = rr L 0 * w + pp L 0 := by
      unfold costP
      cases pl with
      | nil => unfold runP endP; grind
      | cons p r =>
        obtain ⟨c, i⟩ := p
        have := ep (c, i) (List.mem_cons_self ..)
        rw [runP, if_neg (by grind), endP, if_neg (by grind)]; grind
    obtain ⟨t, h1, h2, _, h4⟩ := env.piece (a := 0) (x := w) (Rat.le_of_lt hw) Rat.le_refl (fun p hq => .inr (Rat.le_of_lt (et p hq)))
    have ht : t = 0 := h4 (fun p hq => ⟨Rat.le_of_lt (et p hq), gt p hq⟩)
    subst ht
    have ef := l.h w 0 h1 (h2 w (Rat.le_of_lt hw) Rat.le_refl)
    have ez := v.zR
    have e : costP L pl w b = f w := by rw [ec, ef]; unfold ln rr pp; grind
    have hpos := l.pos v hw
    have hm : 1 * f w ≤ M * f w := Rat.mul_le_mul_of_nonneg_right hM1 (Rat.le_of_lt hpos)
    refine ⟨by rw [e]; grind, fun h1 h2 => ?_⟩
    have hm2 : 1 * f w < M * f w := Rat.mul_lt_mul_of_pos_right h1 hpos
    grind
  · have hma : isMark L pl a := isMark_iff.mpr ⟨ha2, ha1⟩
    have pa : ∀ p ∈ pl, p.1 ≤ a ∨ w < p.1 := fun p hq => by
      have h1 := ha4 p.1 (List.mem_append_left _ (List.mem_map.mpr ⟨p, hq, rfl⟩))
      have h2 := h0 p hq
      have h3 := hnp p hq
      grind
    have ta : ∀ p ∈ turnsGo L L.length 0, p.1 ≤ a ∨ w < p.1 := fun p hq => by
      have h1 := ha4 p.1 (List.mem_append_right _ (List.mem_map.mpr ⟨p, List.mem_cons_of_mem _ hq, rfl⟩))
      have h2 := gt p hq
      have h3 := hnt p hq
      grind
    have cw := cost_piece (b := b) hp (Rat.le_of_lt ha2) ha3 (fun p hq => by rcases pa p hq with h | h; exact .inl h; exact .inr (.inl h))
    have hMa := hM a true hma
    have ha0 : (0 : Rat) ≤ a := Rat.le_of_lt ha2
    rcases ex_min (fun x => w < x) (markL L pl) with hC | ⟨c, hc1, hc2, hc3⟩
    · -- no mark above
      have p2 : ∀ p ∈ pl, p.1 ≤ a := fun p hq => by
        have h1 := hC p.1 (List.mem_append_left _ (List.mem_map.mpr ⟨p, hq, rfl⟩))
        rcases pa p hq with h | h
        · exact h
        · exact absurd h h1
      have t2 : ∀ p ∈ turnsGo L L.length 0, p.1 ≤ a := fun p hq => by
        have h1 := hC p.1 (List.mem_append_right _ (List.mem_map.mpr ⟨p, List.mem_cons_of_mem _ hq, rfl⟩))
        rcases ta p hq with h | h
        · exact h
        · exact absurd h h1
      rw [endP_last p2] at cw
      obtain ⟨t, h1, h2, h3, _⟩ := env.piece (a := a) (x := w) (Rat.le_of_lt ha3) ha0 (fun p hq => .inl (t2 p hq))
      obtain ⟨h5, h6⟩ := h3 t2
      have fa := l.h a t h1 (h6 a Rat.le_refl)
      have fw := l.h w t h1 (h6 w (Rat.le_of_lt ha3))
      have et : t = L.length - 1 := by omega
      subst et
      have fw2 : f w = f a + rr L (L.length - 1) * (w - a) := by rw [fa, fw]; unfold ln rr; grind
      have hd : (0 : Rat) < w - a := by grind
      have h7 : rr L (lastS 0 pl) * (w - a) ≤ M * rr L (L.length - 1) * (w - a) := Rat.mul_le_mul_of_nonneg_right hE (Rat.le_of_lt hd)
      refine ⟨by rw [cw, fw2]; grind, fun _ e => ⟨a, true, hma, Rat.le_of_lt ha3, ?_⟩⟩
      rw [cw, fw2] at e
      grind
    · have hmc : isMark L pl c := isMark_iff.mpr ⟨by grind, hc1⟩
      have hMc := hM c false hmc
      have pc : ∀ p ∈ pl, p.1 ≤ a ∨ c < p.1 ∨ (c = p.1 ∧ false = false) := fun p hq => by
        have h1 := hc3 p.1 (List.mem_append_left _ (List.mem_map.mpr ⟨p, hq, rfl⟩))
        rcases pa p hq with h | h
        · exact .inl h
        · have := h1 h; grind
      have tc : ∀ p ∈ turnsGo L L.length 0, p.1 ≤ a ∨ c ≤ p.1 := fun p hq => by
        have h1 := hc3 p.1 (List.mem_append_right _ (List.mem_map.mpr ⟨p, List.mem_cons_of_mem _ hq, rfl⟩))
        rcases ta p hq with h | h
        · exact .inl h
        · exact .inr (h1 h)
      have hac : a < c := by grind
      have cc := cost_piece (b := false) hp ha0 hac pc
      obtain ⟨t, h1, h2, _, _⟩ := env.piece (a := a) (x := c) (Rat.le_of_lt hac) ha0 tc
      have fa := l.h a t h1 (h2 a Rat.le_refl (Rat.le_of_lt hac))
      have fw := l.h w t h1 (h2 w (Rat.le_of_lt ha3) (Rat.le_of_lt hc2))
      have fc := l.h c t h1 (h2 c (Rat.le_of_lt hac) Rat.le_refl)
      have fw2 : f w = f a + rr L t * (w - a) := by rw [fa, fw]; unfold ln rr; grind
      have fc2 : f c = f a + rr L t * (c - a) := by rw [fa, fc]; unfold ln rr; grind
      generalize rr L (endP a true 0 pl) = be at *
      generalize rr L t = de at *
      generalize hca : costP L pl a true = ca at *
      generalize hla : f a = la at *
      rw [cc, fc2] at hMc
      -- g (x) = ca - M la + (be - M de) (x - a)
      have hd : (0 : Rat) < w - a := by grind
      have hd2 : (0 : Rat) < c - w := by grind
      have k1 : (ca - M * la) * (c - w) ≤ 0 * (c - w) := Rat.mul_le_mul_of_nonneg_right (by grind) (Rat.le_of_lt hd2)
      have k2 : (ca + be * (c - a) - M * (la + de * (c - a))) * (w - a) ≤ 0 * (w - a) := Rat.mul_le_mul_of_nonneg_right (by grind) (Rat.le_of_lt hd)
      have hd3 : (0 : Rat) < c - a := by grind
      have key : (costP L pl w b - M * f w) * (c - a) = (ca - M * la) * (c - w) + (ca + be * (c - a) - M * (la + de * (c - a))) * (w - a) := by
        rw [cw, fw2]; grind
      refine ⟨?_, fun _ e => ⟨a, true, hma, Rat.le_of_lt ha3, ?_⟩⟩
      · have : (costP L pl w b - M * f w) * (c - a) ≤ 0 * (c - a) := by rw [key]; grind
        have := Rat.le_of_mul_le_mul_right this hd3
        grind
      · have k3 : (ca - M * la) * (c - w) = 0 := by rw [e] at key; grind
        have : ca - M * la = 0 := by
          rcases Rat.mul_eq_zero.mp k3 with h | h
          · exact h
          · grind
        rw [hca, hla]
        grind
end Lw

set_option Elab.async false
set_option linter.all false
set_option maxRecDepth 100000
set_option maxHeartbeats 2000000
/-! plans.py: marks, shares -/
namespace Lw
open PySem PySem.Spec PyProof.Rows L2 Py
variable {tbl : List (Nat × FD)} {n : Nat} {S : Sto}
/-! ### lists of fractions: in, == () -/
def qP (r : Rat) : PyData := .tuple [.int r.num, .int r.den]
def tP (p : Rat × Nat) : PyData := .tuple [qP p.1, .int p.2]
/-! ### marks -/
def Asc : Rat → List Rat → Prop
  | _, [] => True
  | T, c :: r => T < c ∧ Asc c r
theorem Asc.gt : ∀ {l : List Rat} {T : Rat}, Asc T l → ∀ x ∈ l, T < x
  | [], T, _, x, hx => by simp at hx
  | c :: r, T, ⟨h1, h2⟩, x, hx => by
    rcases List.mem_cons.mp hx with rfl | hx
    · exact h1
    · have := Asc.gt h2 x hx; grind
theorem Asc.ins {w : Rat} : ∀ {l : List Rat} {T : Rat}, Asc T l → T < w → w ∉ l → Asc T (l.take (l.filter fun x => decide (x < w)).length ++ w :: l.drop (l.filter fun x => decide (x < w)).length)
  | [], T, _, h, _ => ⟨h, trivial⟩
  | c :: r, T, ⟨h1, h2⟩, h, hn => by
    by_cases hc : c < w
    · rw [List.filter_cons, if_pos (by simpa using hc), List.length_cons, List.take_succ_cons, List.drop_succ_cons]
      exact ⟨h1, Asc.ins h2 hc (fun hx => hn (List.mem_cons_of_mem _ hx))⟩
    · have hne : w ≠ c := fun e => hn (e ▸ List.mem_cons_self ..)
      have hwc : w < c := by grind
      have h0 : (c :: r).filter (fun x => decide (x < w)) = [] := by
        rw [List.filter_eq_nil_iff]
        intro x hx
        have : c ≤ x := by
          rcases List.mem_cons.mp hx with rfl | hx
          · exact Rat.le_refl
          · exact Rat.le_of_lt (h2.gt x hx)
        have : ¬ x < w := by grind
        simpa using this
      rw [h0]
      exact ⟨h, hwc, h2⟩
def insF (ms : List Rat) (w : Rat) : List Rat := if 0 < w ∧ w ∉ ms then ms.take (ms.filter fun x => decide (x < w)).length ++ w :: ms.drop (ms.filter fun x => decide (x < w)).length else ms
theorem insF_asc {ms : List Rat} {w : Rat} (h : Asc 0 ms) : Asc 0 (insF ms w) := by
  unfold insF
  split
  · rename_i q; exact h.ins q.1 q.2
  · exact h
theorem insF_mem {ms : List Rat} {w x : Rat} : x ∈ insF ms w ↔ x ∈ ms ∨ (0 < w ∧ x = w) := by
  unfold insF
  split
  · rename_i q
    rw [List.mem_append, List.mem_cons]
    conv => rhs; rw [← List.take_append_drop (ms.filter fun x => decide (x < w)).length ms, List.mem_append]
    constructor
    · rintro (h | h | h)
      · exact .inl (.inl h)
      · exact .inr ⟨q.1, h⟩
      · exact .inl (.inr h)
    · rintro ((h | h) | h)
      · exact .inl h
      · exact .inr (.inr h)
      · exact .inr (.inl h.2)
  · rename_i q
    constructor
    · exact .inl
    · rintro (h | ⟨h1, rfl⟩)
      · exact h
      · by_cases hx : x ∈ ms
        · exact hx
        · exact absurd ⟨h1, hx⟩ q
def markIns (l : List Rat) : List Rat := l.foldl insF []
theorem fold_asc : ∀ (l ms : List Rat), Asc 0 ms → Asc 0 (l.foldl insF ms)
  | [], ms, h => h
  | w :: l, ms, h => fold_asc l _ (insF_asc h)
theorem fold_mem {x : Rat} : ∀ (l ms : List Rat), x ∈ l.foldl insF ms ↔ x ∈ ms ∨ (0 < x ∧ x ∈ l)
  | [], ms => by simp
  | w :: l, ms => by
    rw [List.foldl_cons, fold_mem l, insF_mem, List.mem_cons]
    constructor
    · rintro ((h | ⟨h, rfl⟩) | ⟨h, h2⟩)
      · exact .inl h
      · exact .inr ⟨h, .inl rfl⟩
      · exact .inr ⟨h, .inr h2⟩
    · rintro (h | ⟨h, rfl | h2⟩)
      · exact .inl (.inl h)
      · exact .inl (.inr ⟨h, rfl⟩)
      · exact .inr ⟨h, h2⟩
theorem unds_Q (k : Nat) (l : List Rat) : D.unds k (l.map Q) = true := by
  induction l with
  | nil => rfl
  | cons p l ih => simp [D.unds, D.und, ih]
end Lw

set_option Elab.async false
set_option linter.all false
set_option maxRecDepth 100000
set_option maxHeartbeats 2000000
/-! plans.py: shares -/
namespace Lw
open PySem PySem.Spec PyProof.Rows L2 Py
variable {tbl : List (Nat × FD)} {n : Nat} {S : Sto}
theorem lst_least {L : Rows} (v : Vs L) : Least L (lst L) where
  h w t ht hk := lst_le v ht hk
  e w := by
    have b := best_best v w
    exact ⟨_, b.l, b.e, b.a⟩
def rho (L : Rows) (pl : List (Rat × Nat)) (m : Rat) (b : Bool) : Rat := costP L pl m b / lst L m
theorem rho_le {L : Rows} (v : Vs L) {pl : List (Rat × Nat)} {m : Rat} {b : Bool} {M : Rat} (hm : 0 < m) : rho L pl m b ≤ M ↔ costP L pl m b ≤ M * lst L m := by
  have h := (lst_least v).pos v hm
  have e : rho L pl m b * lst L m = costP L pl m b := by unfold rho; grind
  rw [← e]
  exact ⟨fun q => Rat.mul_le_mul_of_nonneg_right q (Rat.le_of_lt h), fun q => Rat.le_of_mul_le_mul_right q h⟩
theorem rho_eq {L : Rows} (v : Vs L) {pl : List (Rat × Nat)} {m : Rat} {b : Bool} {M : Rat} (hm : 0 < m) : rho L pl m b = M ↔ costP L pl m b = M * lst L m := by
  have h := (lst_least v).pos v hm
  unfold rho
  constructor <;> intro q <;> grind
def bestF (L : Rows) (pl : List (Rat × Nat)) (m : Rat) (s : Rat × Rat) (b : Bool) : Rat × Rat := if s.1 < rho L pl m b then (rho L pl m b, m) else s
def candF (L : Rows) (pl : List (Rat × Nat)) (s : Rat × Rat) (m : Rat) : Rat × Rat := [false, true].foldl (bestF L pl m) s
def bestM (L : Rows) (pl : List (Rat × Nat)) : Rat × Rat := (markIns (markL L pl)).foldl (candF L pl) (1, 0)
/-- the best of some marks, and the least mark that has it -/
structure BI (L : Rows) (pl : List (Rat × Nat)) (done : List Rat) (s : Rat × Rat) : Prop where
  o : 1 ≤ s.1
  a : ∀ m ∈ done, ∀ b, rho L pl m b ≤ s.1
  w : s = (1, 0) ∨ (1 < s.1 ∧ s.2 ∈ done ∧ (∃ b, rho L pl s.2 b = s.1) ∧ ∀ m ∈ done, m < s.2 → ∀ b, rho L pl m b < s.1)
theorem BI.step {L : Rows} {pl : List (Rat × Nat)} {done : List Rat} {s : Rat × Rat} (h : BI L pl done s) {m : Rat} (hm : ∀ x ∈ done, x < m) : BI L pl (done ++ [m]) (candF L pl s m) := by
  have e : candF L pl s m = bestF L pl m (bestF L pl m s false) true := rfl
  rw [e]
  have ho := h.o
  have key : ∀ (u : Rat), s.1 < u → (∀ b, rho L pl m b ≤ u) → (∃ b, rho L pl m b = u) → BI L pl (done ++ [m]) (u, m) := fun u h1 h2 h3 => by
    refine ⟨by show 1 ≤ u; grind, fun x hx b => ?_, .inr ⟨by show 1 < u; grind, by simp, h3, fun x hx hlt b => ?_⟩⟩
    · rcases List.mem_append.mp hx with hx | hx
      · have := h.a x hx b; show _ ≤ u; grind
      · simp at hx; subst hx; exact h2 b
    · rcases List.mem_append.mp hx with hx | hx
      · have := h.a x hx b; show _ < u; grind
      · simp at hx; subst hx; have hlt : x < x := hlt; grind
  unfold bestF
  by_cases h1 : s.1 < rho L pl m false
  · rw [if_pos h1]
    by_cases h2 : rho L pl m false < rho L pl m true
    · rw [if_pos h2]
      exact key _ (by grind) (fun b => by cases b <;> grind) ⟨true, rfl⟩
    · rw [if_neg h2]
      exact key _ h1 (fun b => by cases b <;> grind) ⟨false, rfl⟩
  · rw [if_neg h1]
    by_cases h2 : s.1 < rho L pl m true
    · rw [if_pos h2]
      exact key _ h2 (fun b => by cases b <;> grind) ⟨true, rfl⟩
    · rw [if_neg h2]
      refine ⟨ho, fun x hx b => ?_, ?_⟩
      · rcases List.mem_append.mp hx with hx | hx
        · exact h.a x hx b
        · simp at hx; subst hx; cases b <;> grind
      · rcases h.w with q | ⟨q1, q2, q3, q4⟩
        · exact .inl q
        · refine .inr ⟨q1, List.mem_append_left _ q2, q3, fun x hx hlt b => ?_⟩
          rcases List.mem_append.mp hx with hx | hx
          · exact q4 x hx hlt b
          · simp at hx; subst hx; have := hm _ q2; grind
theorem BI.fold {L : Rows} {pl : List (Rat × Nat)} : ∀ (ms done : List Rat) (T : Rat) (s : Rat × Rat), Asc T ms → (∀ x ∈ done, x ≤ T) → BI L pl done s → BI L pl (done ++ ms) (ms.foldl (candF L pl) s)
  | [], done, T, s, _, _, h => by simpa using h
  | m :: ms, done, T, s, ⟨h1, h2⟩, h3, h => by
    rw [List.foldl_cons, show done ++ m :: ms = (done ++ [m]) ++ ms by simp]
    refine BI.fold ms _ m _ h2 (fun x hx => ?_) (h.step (fun x hx => by have := h3 x hx; grind))
    rcases List.mem_append.mp hx with hx | hx
    · have := h3 x hx; grind
    · simp at hx; subst hx; exact Rat.le_refl
theorem bestM_ok {L : Rows} {pl : List (Rat × Nat)} : BI L pl (markIns (markL L pl)) (bestM L pl) := by
  have := BI.fold (L := L) (pl := pl) (markIns (markL L pl)) [] 0 (1, 0) (fold_asc _ _ trivial) (by simp) ⟨by show (1 : Rat) ≤ 1; grind, by simp, .inl rfl⟩
  rwa [List.nil_append] at this
theorem markIns_mem {L : Rows} {pl : List (Rat × Nat)} {m : Rat} : m ∈ markIns (markL L pl) ↔ isMark L pl m := by
  unfold markIns
  rw [fold_mem, isMark_iff]; simp
def zeroB : List (Rat × Nat) → Bool
  | [] => false
  | p :: _ => decide (p.1 = 0)
def shareP (L : Rows) (pl : List (Rat × Nat)) : Option (Rat × Option Rat) :=
  if zeroB pl then none else if (row L (L.length - 1)).1 = 0 ∧ 0 < (row L (lastS 0 pl)).1 then none
  else if 0 < (row L (L.length - 1)).1 ∧ (bestM L pl).1 < rr L (lastS 0 pl) / rr L (L.length - 1) then some (rr L (lastS 0 pl) / rr L (L.length - 1), none) else some ((bestM L pl).1, some (bestM L pl).2)
def shD : Option (Rat × Option Rat) → Py.D
  | none => .non
  | some (v, none) => .tup [Q v, .non]
  | some (v, some m) => .tup [Q v, Q m]
end Lw

set_option Elab.async false
set_option linter.all false
set_option maxRecDepth 100000
set_option maxHeartbeats 2000000
/-! the laws' own: marks and shares -/
namespace Lw
open PySem PySem.Spec PyProof.Rows L2 Py
variable {tbl : List (Nat × FD)} {n : Nat} {S : Sto}
def inAll (L : Rows) (l : List Rat) (i : Nat) : List Rat := (List.range' (i + 1) (L.length - (i + 1))).foldl (fun l j => l ++ [crs (row L i) (row L j)]) l
def lmAll (L : Rows) (pl : List (Rat × Nat)) : List Rat := (List.range' 0 L.length).foldl (inAll L) (pl.map (·.1))
def lmarks (L : Rows) (pl : List (Rat × Nat)) : List Rat := (lmAll L pl).filter fun x => decide (0 < x)
theorem app_fold {α β : Type} (f : β → α) : ∀ (l : List β) (a : List α), l.foldl (fun a b => a ++ [f b]) a = a ++ l.map f
  | [], a => by simp
  | x :: l, a => by rw [List.foldl_cons, app_fold f l]; simp
theorem inAll_eq (L : Rows) (l : List Rat) (i : Nat) : inAll L l i = l ++ (List.range' (i + 1) (L.length - (i + 1))).map fun j => crs (row L i) (row L j) := app_fold _ _ _
theorem inAll_mem {L : Rows} {l : List Rat} {i : Nat} {x : Rat} : x ∈ inAll L l i ↔ x ∈ l ∨ ∃ j, i < j ∧ j < L.length ∧ x = crs (row L i) (row L j) := by
  rw [inAll_eq, List.mem_append, List.mem_map]
  constructor
  · rintro (h | ⟨j, h, rfl⟩)
    · exact .inl h
    · obtain ⟨h1, h2⟩ := List.mem_range'_1.mp h
      exact .inr ⟨j, by omega, by omega, rfl⟩
  · rintro (h | ⟨j, h1, h2, rfl⟩)
    · exact .inl h
    · exact .inr ⟨j, List.mem_range'_1.mpr ⟨by omega, by omega⟩, rfl⟩
theorem lmAll_mem {L : Rows} {pl : List (Rat × Nat)} {x : Rat} : x ∈ lmAll L pl ↔ x ∈ pl.map (·.1) ∨ ∃ i j, i < j ∧ j < L.length ∧ x = crs (row L i) (row L j) := by
  have key : ∀ (n m : Nat) (l : List Rat), x ∈ (List.range' m n).foldl (inAll L) l ↔ x ∈ l ∨ ∃ i j, m ≤ i ∧ i < m + n ∧ i < j ∧ j < L.length ∧ x = crs (row L i) (row L j) := by
    intro n
    induction n with
    | zero => 
      intro m l
      simp
      intro i h1 h2
      omega
    | succ n ih =>
      intro m l
      rw [List.range'_succ, List.foldl_cons, ih, inAll_mem]
      constructor
      · rintro ((h | ⟨j, h1, h2, h3⟩) | ⟨i, j, h1, h2, h3⟩)
        · exact .inl h
        · exact .inr ⟨m, j, by omega, by omega, h1, h2, h3⟩
        · exact .inr ⟨i, j, by omega, by omega, h3⟩
      · rintro (h | ⟨i, j, h1, h2, h3, h4, h5⟩)
        · exact .inl (.inl h)
        · by_cases q : i = m
          · subst q; exact .inl (.inr ⟨j, h3, h4, h5⟩)
          · exact .inr ⟨i, j, by omega, by omega, h3, h4, h5⟩
  unfold lmAll
  rw [key]
  constructor
  · rintro (h | ⟨i, j, _, h2, h3⟩)
    · exact .inl h
    · exact .inr ⟨i, j, h3⟩
  · rintro (h | ⟨i, j, h1, h2, h3⟩)
    · exact .inl h
    · exact .inr ⟨i, j, by omega, by omega, h1, h2, h3⟩
theorem lmarks_mem {L : Rows} {pl : List (Rat × Nat)} {x : Rat} : x ∈ lmarks L pl ↔ 0 < x ∧ (x ∈ pl.map (·.1) ∨ ∃ i j, i < j ∧ j < L.length ∧ x = crs (row L i) (row L j)) := by
  unfold lmarks
  rw [List.mem_filter, lmAll_mem]
  simp [and_comm]
/-! ### the laws' share -/
def lbestF (L : Rows) (pl : List (Rat × Nat)) (m : Rat) (s : Rat) (b : Bool) : Rat := if rho L pl m b ≤ s then s else rho L pl m b
def lcandF (L : Rows) (pl : List (Rat × Nat)) (s : Rat) (m : Rat) : Rat := [false, true].foldl (lbestF L pl m) s
def lbest (L : Rows) (pl : List (Rat × Nat)) : Rat := (lmarks L pl).foldl (lcandF L pl) 1
theorem lcand_spec {L : Rows} {pl : List (Rat × Nat)} (s m : Rat) : s ≤ lcandF L pl s m ∧ (∀ b, rho L pl m b ≤ lcandF L pl s m) ∧ (lcandF L pl s m = s ∨ ∃ b, rho L pl m b = lcandF L pl s m) := by
  have e : lcandF L pl s m = lbestF L pl m (lbestF L pl m s false) true := rfl
  rw [e]
  unfold lbestF
  by_cases h1 : rho L pl m false ≤ s
  · rw [if_pos h1]
    by_cases h2 : rho L pl m true ≤ s
    · rw [if_pos h2]; exact ⟨Rat.le_refl, fun b => by cases b <;> assumption, .inl rfl⟩
    · rw [if_neg h2]; exact ⟨by grind, fun b => by cases b <;> grind, .inr ⟨true, rfl⟩⟩
  · rw [if_neg h1]
    by_cases h2 : rho L pl m true ≤ rho L pl m false
    · rw [if_pos h2]; exact ⟨by grind, fun b => by cases b <;> grind, .inr ⟨false, rfl⟩⟩
    · rw [if_neg h2]; exact ⟨by grind, fun b => by cases b <;> grind, .inr ⟨true, rfl⟩⟩
theorem lbest_fold {L : Rows} {pl : List (Rat × Nat)} : ∀ (ms : List Rat) (s : Rat), s ≤ ms.foldl (lcandF L pl) s ∧ (∀ m ∈ ms, ∀ b, rho L pl m b ≤ ms.foldl (lcandF L pl) s) ∧ (ms.foldl (lcandF L pl) s = s ∨ ∃ m ∈ ms, ∃ b, rho L pl m b = ms.foldl (lcandF L pl) s)
  | [], s => ⟨Rat.le_refl, by simp, .inl rfl⟩
  | m :: ms, s => by
    obtain ⟨a1, a2, a3⟩ := lcand_spec (L := L) (pl := pl) s m
    obtain ⟨b1, b2, b3⟩ := lbest_fold ms (lcandF L pl s m)
    rw [List.foldl_cons]
    refine ⟨Rat.le_trans a1 b1, fun x hx b => ?_, ?_⟩
    · rcases List.mem_cons.mp hx with rfl | hx
      · exact Rat.le_trans (a2 b) b1
      · exact b2 x hx b
    · rcases b3 with h | ⟨x, hx, b, h⟩
      · rcases a3 with h2 | ⟨b, h2⟩
        · left; rw [h, h2]
        · right; exact ⟨m, List.mem_cons_self .., b, by rw [h2, h]⟩
      · right; exact ⟨x, List.mem_cons_of_mem _ hx, b, h⟩
def lshareP (L : Rows) (pl : List (Rat × Nat)) : Option (Rat × Bool) :=
  if zeroB pl = true ∨ ((row L (L.length - 1)).1 = 0 ∧ 0 < (row L (lastS 0 pl)).1) then none
  else if 0 < (row L (L.length - 1)).1 ∧ ¬ rr L (lastS 0 pl) / rr L (L.length - 1) ≤ lbest L pl then some (rr L (lastS 0 pl) / rr L (L.length - 1), false) else some (lbest L pl, true)
def lshD : Option (Rat × Bool) → Py.D
  | none => .non
  | some (v, b) => .tup [Q v, .bl b]
end Lw

set_option Elab.async false
set_option linter.all false
set_option maxRecDepth 100000
set_option maxHeartbeats 2000000
/-! both shares agree; law k05 -/
namespace Lw
open PySem PySem.Spec PyProof.Rows L2 Py
variable {tbl : List (Nat × FD)} {n : Nat} {S : Sto}
theorem mark_lmark {L : Rows} (v : Vs L) {pl : List (Rat × Nat)} {m : Rat} (h : isMark L pl m) : m ∈ lmarks L pl := by
  refine lmarks_mem.mpr ⟨h.1, ?_⟩
  rcases h.2 with ⟨p, hq, rfl⟩ | ⟨p, hq, rfl⟩
  · exact .inl (List.mem_map.mpr ⟨p, hq, rfl⟩)
  · right
    rcases List.mem_cons.mp hq with rfl | hq
    · have := h.1; exact absurd this (by show ¬ (0 : Rat) < 0; grind)
    · obtain ⟨j, h1, h2, h3⟩ := (turns_env v).crs p hq
      exact ⟨j, p.2, h1, h2, h3⟩
theorem zeroB_pos {L : Rows} {B : Nat} {pl : List (Rat × Nat)} (hp : PlanOk L B 0 0 pl) (h : ¬ zeroB pl = true) : ∀ p ∈ pl, 0 < p.1 := by
  cases pl with
  | nil => intro p hq; simp at hq
  | cons q r =>
    obtain ⟨c, i⟩ := q
    obtain ⟨h1, _, _, _, _, h6⟩ := id hp
    have hc : 0 < c := by
      unfold zeroB at h
      simp at h
      grind
    intro p hq
    rcases List.mem_cons.mp hq with rfl | hq
    · exact hc
    · have := (h6.ge p hq).1; grind
/-- what a share is -/
structure ShF (L : Rows) (pl : List (Rat × Nat)) (v : Rat) (o : Option Rat) : Prop where
  g : 1 ≤ v
  a : ∀ w b, 0 < w → costP L pl w b ≤ v * lst L w
  n : o = none → 1 < v
  s : ∀ m, o = some m → (v = 1 ∧ m = 0) ∨ (1 < v ∧ isMark L pl m ∧ (∃ b, costP L pl m b = v * lst L m) ∧ ∀ w b, 0 < w → costP L pl w b = v * lst L w → m ≤ w)
  e : 0 < (row L (L.length - 1)).1 → rr L (lastS 0 pl) ≤ v * rr L (L.length - 1)
theorem agree {L : Rows} (v : Vs L) {B : Nat} {pl : List (Rat × Nat)} (hp : PlanOk L B 0 0 pl) :
    (shareP L pl = none ∧ lshareP L pl = none) ∨ ∃ x o, shareP L pl = some (x, o) ∧ lshareP L pl = some (x, o.isSome) ∧ ShF L pl x o := by
  have hlo := v.lo
  have hls := lastS_lt hp (show 0 < L.length by omega)
  unfold shareP lshareP
  by_cases hz : zeroB pl = true
  · left; exact ⟨by rw [if_pos hz], by rw [if_pos (.inl hz)]⟩
  rw [if_neg hz]
  by_cases hc : (row L (L.length - 1)).1 = 0 ∧ 0 < (row L (lastS 0 pl)).1
  · left; exact ⟨by rw [if_pos hc], by rw [if_pos (.inr hc)]⟩
  have hcc : ¬ (zeroB pl = true ∨ ((row L (L.length - 1)).1 = 0 ∧ 0 < (row L (lastS 0 pl)).1)) := fun h => h.elim hz hc
  rw [if_neg hc, if_neg hcc]
  right
  have h0 := zeroB_pos hp hz
  have bi := bestM_ok (L := L) (pl := pl)
  obtain ⟨b1, b2, b3⟩ := lbest_fold (L := L) (pl := pl) (lmarks L pl) 1
  rw [show (lmarks L pl).foldl (lcandF L pl) 1 = lbest L pl from rfl] at b1 b2 b3
  have hbl : (bestM L pl).1 ≤ lbest L pl := by
    rcases bi.w with h | ⟨h1, h2, ⟨b, h3⟩, h4⟩
    · rw [h]; exact b1
    · rw [← h3]; exact b2 _ (mark_lmark v (markIns_mem.mp h2)) b
  have hm : ∀ m b, isMark L pl m → rho L pl m b ≤ (bestM L pl).1 := fun m b h => bi.a m (markIns_mem.mpr h) b
  have hlE : ∀ x, 0 < (row L (L.length - 1)).1 → rr L (lastS 0 pl) / rr L (L.length - 1) ≤ x → rr L (lastS 0 pl) ≤ x * rr L (L.length - 1) := fun x hl hx => by
    have hl' : 0 < rr L (L.length - 1) := by unfold rr; exact_mod_cast hl
    have e : rr L (lastS 0 pl) / rr L (L.length - 1) * rr L (L.length - 1) = rr L (lastS 0 pl) := by grind
    rw [← e]
    exact Rat.mul_le_mul_of_nonneg_right hx (Rat.le_of_lt hl')
  have hl0 : ¬ 0 < (row L (L.length - 1)).1 → rr L (lastS 0 pl) = 0 ∧ rr L (L.length - 1) = 0 := fun hl => by
    have q1 := v.r0 (L.length - 1) (by omega)
    have q2 := v.r0 (lastS 0 pl) hls
    have q3 : (row L (L.length - 1)).1 = 0 := by omega
    have q4 : (row L (lastS 0 pl)).1 = 0 := by
      have : ¬ 0 < (row L (lastS 0 pl)).1 := fun h => hc ⟨q3, h⟩
      omega
    unfold rr
    rw [q3, q4]
    exact ⟨rfl, rfl⟩
  by_cases hA : 0 < (row L (L.length - 1)).1 ∧ (bestM L pl).1 < rr L (lastS 0 pl) / rr L (L.length - 1)
  · obtain ⟨hl, hlt⟩ := hA
    rw [if_pos ⟨hl, hlt⟩]
    generalize hx : rr L (lastS 0 pl) / rr L (L.length - 1) = x at *
    have h1x : 1 < x := by have := bi.o; grind
    have hE := hlE x hl Rat.le_refl
    have hM : ∀ m b, isMark L pl m → costP L pl m b ≤ x * lst L m := fun m b h => (rho_le v h.1).mp (by have := hm m b h; grind)
    have sup := share_sup v (lst_least v) hp h0 (Rat.le_of_lt h1x) hM hE
    have hnl : ¬ x ≤ lbest L pl := by
      intro hge
      rcases b3 with h | ⟨m, hmm, b, h⟩
      · grind
      · have hm0 := (lmarks_mem.mp hmm).1
        have hle := (rho_le v hm0).mpr (sup m b hm0).1
        have heq : rho L pl m b = x := by grind
        obtain ⟨m', b', h1, _, h2⟩ := (sup m b hm0).2 h1x ((rho_eq v hm0).mp heq)
        have h3 := hm m' b' h1
        have h4 := (rho_eq v h1.1).mpr h2
        grind
    refine ⟨x, none, rfl, by rw [if_pos ⟨hl, hnl⟩]; rfl, ⟨Rat.le_of_lt h1x, fun w b hw => (sup w b hw).1, fun _ => h1x, fun m h => (by cases h), fun _ => hE⟩⟩
  · rw [if_neg hA]
    have hE : rr L (lastS 0 pl) ≤ (bestM L pl).1 * rr L (L.length - 1) := by
      by_cases hl : 0 < (row L (L.length - 1)).1
      · exact hlE _ hl (by
          have : ¬ (bestM L pl).1 < rr L (lastS 0 pl) / rr L (L.length - 1) := fun h => hA ⟨hl, h⟩
          grind)
      · obtain ⟨q1, q2⟩ := hl0 hl
        rw [q1, q2]; grind
    have hM : ∀ m b, isMark L pl m → costP L pl m b ≤ (bestM L pl).1 * lst L m := fun m b h => (rho_le v h.1).mp (hm m b h)
    have sup := share_sup v (lst_least v) hp h0 bi.o hM hE
    have heq : lbest L pl = (bestM L pl).1 := by
      have : lbest L pl ≤ (bestM L pl).1 := by
        rcases b3 with h | ⟨m, hmm, b, h⟩
        · rw [h]; exact bi.o
        · have hm0 := (lmarks_mem.mp hmm).1
          rw [← h]
          exact (rho_le v hm0).mpr (sup m b hm0).1
      grind
    have hn : ¬ (0 < (row L (L.length - 1)).1 ∧ ¬ rr L (lastS 0 pl) / rr L (L.length - 1) ≤ lbest L pl) := fun ⟨h1, h2⟩ => hA ⟨h1, by rw [heq] at h2; grind⟩
    refine ⟨(bestM L pl).1, some (bestM L pl).2, rfl, by rw [if_neg hn, heq]; rfl, ⟨bi.o, fun w b hw => (sup w b hw).1, fun h => (by cases h), fun m h => ?_, fun _ => hE⟩⟩
    cases h
    rcases bi.w with h | ⟨h1, h2, ⟨b, h3⟩, h4⟩
    · left; rw [h]; exact ⟨rfl, rfl⟩
    · right
      have h5 := markIns_mem.mp h2
      refine ⟨h1, h5, ⟨b, (rho_eq v h5.1).mp h3⟩, fun w b' hw he => ?_⟩
      obtain ⟨m', b'', q1, q2, q3⟩ := (sup w b' hw).2 h1 he
      have q4 := (rho_eq v q1.1).mpr q3
      by_cases hlt : m' < (bestM L pl).2
      · have := h4 m' (markIns_mem.mpr q1) hlt b''; grind
      · grind
def fol (L : Rows) : List (Rat × Nat) := turnsGo L L.length 0
end Lw

set_option Elab.async false
set_option linter.all false
set_option maxRecDepth 100000
set_option maxHeartbeats 2000000
/-! law k04 -/
namespace Lw
open PySem PySem.Spec PyProof.Rows L2 Py
variable {tbl : List (Nat × FD)} {n : Nat} {S : Sto}
mutual
theorem und_mono {k k' : Nat} (h : k ≤ k') : ∀ d : Py.D, D.und k d = true → D.und k' d = true
  | .tup ds, e => by rw [D.und] at *; exact unds_mono h ds e
  | .lst ds, e => by rw [D.und] at *; exact unds_mono h ds e
  | .obj _ _ ds, e => by rw [D.und] at *; exact unds_mono h ds e
  | .scr ds, e => by rw [D.und] at *; exact unds_mono h ds e
  | .loc n, e => by rw [D.und] at *; simp at *; omega
  | .non, _ => rfl
  | .bl _, _ => rfl
  | .int _, _ => rfl
  | .str _, _ => rfl
  | .fn _, _ => rfl
theorem unds_mono {k k' : Nat} (h : k ≤ k') : ∀ ds : List Py.D, D.unds k ds = true → D.unds k' ds = true
  | [], _ => rfl
  | d :: ds, e => by
    rw [D.unds, Bool.and_eq_true] at *
    exact ⟨und_mono h d e.1, unds_mono h ds e.2⟩
end
theorem closed_mono {k k' : Nat} (h : k ≤ k') {S : Sto} (c : closed k S = true) : closed k' S = true := by
  unfold Py.closed at *
  rw [List.all_eq_true] at *
  intro o ho
  have := c o ho
  cases o with
  | lst ds => exact unds_mono h ds this
  | ins _ _ ds => exact unds_mono h ds this
  | dT _ ds => exact unds_mono h ds this
theorem closed_app {k : Nat} {S T : Sto} (h1 : closed k S = true) (h2 : closed k T = true) : closed k (S ++ T) = true := by
  unfold Py.closed at *
  rw [List.all_append, h1, h2]; rfl
/-- a drawer with closed things behind it -/
def Hc (rest S : Sto) : Prop := Hs rest S ∧ closed (rest.length + 2) rest = true
theorem Hc.cl {rest S : Sto} (h : Hc rest S) : closed S.length S = true := h.1.closed _ (by rw [h.1.len]; omega) (by rw [h.1.len]; exact h.2)
theorem Hc.to {rest S S' : Sto} (h : Hc rest S) (h' : Hs rest S') : Hc rest S' := ⟨h', h.2⟩
theorem Hc.app {rest S : Sto} (h : Hc rest S) {ws : List Rat} : Hc (rest ++ [.lst (ws.map Q)]) (S ++ [.lst (ws.map Q)]) := by
  refine ⟨h.1.app _, closed_app (closed_mono (by simp) h.2) ?_⟩
  unfold Py.closed
  simp [O.und, unds_Q]
def nearF (L : Rows) (pl : List (Rat × Nat)) (x : Rat) (l : List Rat) (m : Rat) : List Rat := if rho L pl m false = x ∨ rho L pl m true = x then l ++ [m] else l
end Lw

set_option Elab.async false
set_option linter.all false
namespace Lw
/-! the first wait within a share -/
def Feas (f : Rat → Rat) (S r base w : Rat) : Prop := base + r * w ≤ S * f w
/-- the least wait within, none if there is none -/
def FW (f : Rat → Rat) (S r base : Rat) : Option Rat → Prop
  | some w => 0 ≤ w ∧ Feas f S r base w ∧ ∀ y, 0 ≤ y → y < w → ¬ Feas f S r base y
  | none => ∀ y, 0 ≤ y → ¬ Feas f S r base y
/-- a lesser base is within no later -/
theorem FW.mono {f : Rat → Rat} {S r base base' w : Rat} (hb : base' ≤ base) {o : Option Rat} (h : FW f S r base' o) (h0 : 0 ≤ w) (hw : Feas f S r base w) : ∃ w', o = some w' ∧ w' ≤ w := by
  have hw' : Feas f S r base' w := by unfold Feas at *; grind
  cases o with
  | none => exact absurd hw' (h w h0)
  | some w' =>
    refine ⟨w', rfl, ?_⟩
    by_cases hlt : w < w'
    · exact absurd hw' (h.2.2 w h0 hlt)
    · grind
def fwGo (L : Rows) (S r base : Rat) : List (Rat × Nat) → Option Rat
  | [] => none
  | (b, s) :: rest => 
    if 0 ≤ S * ln (row L s) b - (base + r * b) then some b
    else if 0 < S * rr L s - r then
      (match rest with
        | [] => some (b + (0 - (S * ln (row L s) b - (base + r * b))) / (S * rr L s - r))
        | (c, _) :: _ => if c < b + (0 - (S * ln (row L s) b - (base + r * b))) / (S * rr L s - r) then fwGo L S r base rest else some (b + (0 - (S * ln (row L s) b - (base + r * b))) / (S * rr L s - r)))
    else fwGo L S r base rest
def firstW (L : Rows) (S r base : Rat) : Option Rat := fwGo L S r base (turns L)
theorem fwGo_spec {L : Rows} {f : Rat → Rat} (l : Least L f) {S r base : Rat} : ∀ {q : List (Rat × Nat)} {T : Rat} {s : Nat}, Envl L T s q → 0 ≤ T → (∀ y, 0 ≤ y → y < T → ¬ Feas f S r base y) → FW f S r base (fwGo L S r base ((T, s) :: q))
  | q, T, s, h, hT, hn => by
    have hA := h.at
    have hfT : f T = ln (row L s) T := l.h T s hA.l hA.a
    rw [fwGo.eq_def]
    dsimp only
    by_cases h1 : 0 ≤ S * ln (row L s) T - (base + r * T)
    · rw [if_pos h1]
      exact ⟨hT, by unfold Feas; rw [hfT]; grind, hn⟩
    rw [if_neg h1]
    -- what is left in the stretch
    have hst : ∀ y, T ≤ y → f y = ln (row L s) y → S * f y - (base + r * y) = (S * ln (row L s) T - (base + r * T)) + (S * rr L s - r) * (y - T) := fun y _ e => by
      rw [e]; unfold ln rr; grind
    generalize hroom : S * ln (row L s) T - (base + r * T) = room at *
    generalize hslope : S * rr L s - r = slope at *
    by_cases h2 : 0 < slope
    · rw [if_pos h2]
      have hw : (0 - room) / slope * slope = 0 - room := by grind
      have hpos : 0 ≤ (0 - room) / slope := by
        rw [Rat.div_def]; exact Rat.mul_nonneg (by grind) (Rat.le_of_lt (Rat.inv_pos.mpr h2))
      generalize (0 - room) / slope = x at *
      have below : ∀ y, T ≤ y → y < T + x → f y = ln (row L s) y → ¬ Feas f S r base y := fun y h3 h4 e => by
        have e1 := hst y h3 e
        have : slope * (y - T) < slope * x := by
          rw [Rat.mul_comm slope, Rat.mul_comm slope]
          exact Rat.mul_lt_mul_of_pos_right (by grind) h2
        unfold Feas
        grind
      cases q with
      | nil =>
        have hl : ∀ y, T ≤ y → f y = ln (row L s) y := fun y hy => l.h y s hA.l (h.2.2 y hy)
        refine ⟨by grind, ?_, fun y h3 h4 => ?_⟩
        · have e1 := hst (T + x) (by grind) (hl _ (by grind))
          unfold Feas
          grind
        · by_cases h5 : y < T
          · exact hn y h3 h5
          · exact below y (by grind) h4 (hl y (by grind))
      | cons p q =>
        obtain ⟨c, i⟩ := p
        have hl : ∀ y, T ≤ y → y ≤ c → f y = ln (row L s) y := fun y hy hc => l.h y s hA.l (h.2.2.2.2.1 y hy hc)
        have hTc : T < c := h.2.1
        dsimp only
        by_cases h6 : c < T + x
        · rw [if_pos h6]
          refine fwGo_spec l h.2.2.2.2.2.2 (by grind) (fun y h3 h4 => ?_)
          by_cases h5 : y < T
          · exact hn y h3 h5
          · exact below y (by grind) (by grind) (hl y (by grind) (by grind))
        · rw [if_neg h6]
          refine ⟨by grind, ?_, fun y h3 h4 => ?_⟩
          · have e1 := hst (T + x) (by grind) (hl _ (by grind) (by grind))
            unfold Feas
            grind
          · by_cases h5 : y < T
            · exact hn y h3 h5
            · exact below y (by grind) h4 (hl y (by grind) (by grind))
    · rw [if_neg h2]
      have none_ : ∀ y, T ≤ y → f y = ln (row L s) y → ¬ Feas f S r base y := fun y h3 e => by
        have e1 := hst y h3 e
        have : (0 - slope) * (y - T) ≥ 0 := Rat.mul_nonneg (by grind) (by grind)
        unfold Feas
        grind
      cases q with
      | nil =>
        have hl : ∀ y, T ≤ y → f y = ln (row L s) y := fun y hy => l.h y s hA.l (h.2.2 y hy)
        intro y h3
        by_cases h5 : y < T
        · exact hn y h3 h5
        · exact none_ y (by grind) (hl y (by grind))
      | cons p q =>
        obtain ⟨c, i⟩ := p
        have hl : ∀ y, T ≤ y → y ≤ c → f y = ln (row L s) y := fun y hy hc => l.h y s hA.l (h.2.2.2.2.1 y hy hc)
        have hTc : T < c := h.2.1
        refine fwGo_spec l h.2.2.2.2.2.2 (by grind) (fun y h3 h4 => ?_)
        by_cases h5 : y < T
        · exact hn y h3 h5
        · exact none_ y (by grind) (hl y (by grind) (by grind))
theorem firstW_spec {L : Rows} (v : Vs L) {f : Rat → Rat} (l : Least L f) (S r base : Rat) : FW f S r base (firstW L S r base) := fwGo_spec l (turns_env v) Rat.le_refl (fun y h1 h2 => by grind)
end Lw

set_option Elab.async false
set_option linter.all false
namespace Lw
/-! plans within a share: entries, chains -/
abbrev Ent := Option (Rat × Rat × Option Nat)
def stepE (L : Rows) (S : Rat) (found : List Ent) (i : Nat) (best : Ent) (b : Nat) : Ent := match found.getD b none with
  | none => best
  | some (_, ob, _) => match firstW L S (rr L b) (ob + pp L i) with
    | none => best
    | some w => match best with
      | none => some (w, ob + (rr L b - rr L i) * w, some b)
      | some (w', o', b') => if ob + (rr L b - rr L i) * w < o' then some (w, ob + (rr L b - rr L i) * w, some b) else some (w', o', b')
def bestE (L : Rows) (S : Rat) (found : List Ent) (i : Nat) : Ent := (List.range' 0 i).foldl (stepE L S found i) none
def entF (L : Rows) (S : Rat) (found : List Ent) (i : Nat) : List Ent := found ++ [bestE L S found i]
def ents (L : Rows) (S : Rat) : List Ent := (List.range' 1 (L.length - 1)).foldl (entF L S) [some (0, 0, none)]
theorem foldl_congr {α β : Type} {f g : β → α → β} : ∀ {l : List α} {s : β}, (∀ x ∈ l, ∀ s, f s x = g s x) → l.foldl f s = l.foldl g s
  | [], _, _ => rfl
  | x :: l, s, h => by
    rw [List.foldl_cons, List.foldl_cons, h x (List.mem_cons_self ..) s]
    exact foldl_congr (fun y hy => h y (List.mem_cons_of_mem _ hy))
theorem stepE_congr {L : Rows} {S : Rat} {f g : List Ent} {i b : Nat} {e : Ent} (h : f.getD b none = g.getD b none) : stepE L S f i e b = stepE L S g i e b := by
  unfold stepE; rw [h]
theorem bestE_app {L : Rows} {S : Rat} {f g : List Ent} {i : Nat} (h : i ≤ f.length) : bestE L S (f ++ g) i = bestE L S f i := by
  unfold bestE
  refine foldl_congr (fun b hb s => stepE_congr ?_)
  obtain ⟨_, h2⟩ := List.mem_range'_1.mp hb
  have : b < f.length := by omega
  simp [List.getD, List.getElem?_append_left this]
structure EI (L : Rows) (S : Rat) (f : List Ent) : Prop where
  z : f.getD 0 none = some (0, 0, none)
  p : 0 < f.length
  s : ∀ i, 1 ≤ i → i < f.length → f.getD i none = bestE L S f i
theorem EI.step {L : Rows} {S : Rat} {f : List Ent} (h : EI L S f) : EI L S (entF L S f f.length) := by
  have hp := h.p
  refine ⟨?_, by unfold entF; simp, fun i h1 h2 => ?_⟩
  · have := h.z
    unfold entF
    simp only [List.getD] at *
    rw [List.getElem?_append_left hp]; exact this
  · unfold entF at *
    rw [List.length_append, List.length_singleton] at h2
    rw [bestE_app (by omega)]
    by_cases hi : i < f.length
    · have := h.s i h1 hi
      simp only [List.getD] at *
      rw [List.getElem?_append_left hi]; exact this
    · have : i = f.length := by omega
      subst this
      simp [List.getD]
theorem ents_spec (L : Rows) (S : Rat) (hl : 1 ≤ L.length) : EI L S (ents L S) ∧ (ents L S).length = L.length := by
  have key : ∀ (n m : Nat) (f : List Ent), f.length = m → EI L S f → EI L S ((List.range' m n).foldl (entF L S) f) ∧ ((List.range' m n).foldl (entF L S) f).length = m + n := by
    intro n
    induction n with
    | zero => intro m f h e; exact ⟨e, h⟩
    | succ n ih =>
      intro m f h e
      subst h
      rw [List.range'_succ, List.foldl_cons, show f.length + (n + 1) = f.length + 1 + n by omega]
      exact ih (f.length + 1) _ (by unfold entF; simp) e.step
  obtain ⟨h1, h2⟩ := key (L.length - 1) 1 [some (0, 0, none)] rfl ⟨rfl, by simp, fun i h1 h2 => by simp at h2; omega⟩
  exact ⟨h1, by unfold ents; rw [h2]; omega⟩
/-- what is best of the stages before -/
structure BE (L : Rows) (S : Rat) (f : List Ent) (i m : Nat) (e : Ent) : Prop where
  h : ∀ w o b, e = some (w, o, b) → ∃ k, b = some k ∧ k < m ∧ ∃ wk ok bk, f.getD k none = some (wk, ok, bk) ∧ firstW L S (rr L k) (ok + pp L i) = some w ∧ o = ok + (rr L k - rr L i) * w
  a : ∀ k, k < m → ∀ wk ok bk w, f.getD k none = some (wk, ok, bk) → firstW L S (rr L k) (ok + pp L i) = some w → ∃ w' o' b', e = some (w', o', b') ∧ o' ≤ ok + (rr L k - rr L i) * w
theorem BE.step {L : Rows} {S : Rat} {f : List Ent} {i m : Nat} {e : Ent} (h : BE L S f i m e) : BE L S f i (m + 1) (stepE L S f i e m) := by
  have up : ∀ w o b, e = some (w, o, b) → ∃ k, b = some k ∧ k < m + 1 ∧ ∃ wk ok bk, f.getD k none = some (wk, ok, bk) ∧ firstW L S (rr L k) (ok + pp L i) = some w ∧ o = ok + (rr L k - rr L i) * w := fun w o b he => by
    obtain ⟨k, h1, h2, h3⟩ := h.h w o b he
    exact ⟨k, h1, by omega, h3⟩
  unfold stepE
  cases hm : f.getD m none with
  | none =>
    refine ⟨up, fun k hk wk ok bk w h1 h2 => ?_⟩
    by_cases hkm : k = m
    · subst hkm; rw [hm] at h1; cases h1
    · exact h.a k (by omega) wk ok bk w h1 h2
  | some t =>
    obtain ⟨wm, om, bm⟩ := t
    dsimp only
    cases hw : firstW L S (rr L m) (om + pp L i) with
    | none =>
      refine ⟨up, fun k hk wk ok bk w h1 h2 => ?_⟩
      by_cases hkm : k = m
      · subst hkm; rw [hm] at h1; cases h1; rw [hw] at h2; cases h2
      · exact h.a k (by omega) wk ok bk w h1 h2
    | some w0 =>
      dsimp only
      have new : ∀ w o b, (some (w0, om + (rr L m - rr L i) * w0, some m) : Ent) = some (w, o, b) → ∃ k, b = some k ∧ k < m + 1 ∧ ∃ wk ok bk, f.getD k none = some (wk, ok, bk) ∧ firstW L S (rr L k) (ok + pp L i) = some w ∧ o = ok + (rr L k - rr L i) * w := fun w o b he => by
        cases he
        exact ⟨m, rfl, by omega, wm, om, bm, hm, hw, rfl⟩
      cases e with
      | none =>
        refine ⟨new, fun k hk wk ok bk w h1 h2 => ?_⟩
        by_cases hkm : k = m
        · subst hkm; rw [hm] at h1; cases h1; rw [hw] at h2; cases h2
          exact ⟨_, _, _, rfl, Rat.le_refl⟩
        · obtain ⟨_, _, _, h3, _⟩ := h.a k (by omega) wk ok bk w h1 h2
          cases h3
      | some t =>
        obtain ⟨w', o', b'⟩ := t
        dsimp only
        by_cases hlt : om + (rr L m - rr L i) * w0 < o'
        · rw [if_pos hlt]
          refine ⟨new, fun k hk wk ok bk w h1 h2 => ?_⟩
          by_cases hkm : k = m
          · subst hkm; rw [hm] at h1; cases h1; rw [hw] at h2; cases h2
            exact ⟨_, _, _, rfl, Rat.le_refl⟩
          · obtain ⟨_, _, _, h3, h4⟩ := h.a k (by omega) wk ok bk w h1 h2
            cases h3
            exact ⟨_, _, _, rfl, by grind⟩
        · rw [if_neg hlt]
          refine ⟨up, fun k hk wk ok bk w h1 h2 => ?_⟩
          by_cases hkm : k = m
          · subst hkm; rw [hm] at h1; cases h1; rw [hw] at h2; cases h2
            exact ⟨_, _, _, rfl, by grind⟩
          · exact h.a k (by omega) wk ok bk w h1 h2
theorem bestE_ok (L : Rows) (S : Rat) (f : List Ent) (i : Nat) : BE L S f i i (bestE L S f i) := by
  have key : ∀ (n m : Nat) (e : Ent), BE L S f i m e → BE L S f i (m + n) ((List.range' m n).foldl (stepE L S f i) e) := by
    intro n
    induction n with
    | zero => intro m e h; exact h
    | succ n ih =>
      intro m e h
      rw [List.range'_succ, List.foldl_cons, show m + (n + 1) = m + 1 + n by omega]
      exact ih (m + 1) _ h.step
  have := key i 0 none ⟨fun w o b h => (by cases h), fun k hk => (by omega)⟩
  rwa [Nat.zero_add] at this
/-! ### rows of stages, each entered as early as can be -/
def greedy (L : Rows) (S : Rat) : Nat → Rat → List Nat → Option (Nat × Rat)
  | h, p, [] => some (h, p)
  | h, p, i :: r => match firstW L S (rr L h) (p + pp L i) with
    | none => none
    | some w => greedy L S i (p + (rr L h - rr L i) * w) r
def Inc (n : Nat) : Nat → List Nat → Prop
  | _, [] => True
  | h, i :: r => h < i ∧ i < n ∧ Inc n i r
section
variable {L : Rows} {f : Rat → Rat} {S : Rat}
end
end Lw

set_option Elab.async false
set_option linter.all false
namespace Lw
section
variable {L : Rows} {f : Rat → Rat} {S : Rat}
/-- moves, each as early as can be: from (wait, stage, offset) to another -/
def GCe (L : Rows) (S : Rat) : Rat → Nat → Rat → List (Rat × Nat) → Rat → Nat → Rat → Prop
  | T, s, o, [], T', s', o' => T = T' ∧ s = s' ∧ o = o'
  | _, s, o, (w, i) :: r, T', s', o' => s < i ∧ i < L.length ∧ firstW L S (rr L s) (o + pp L i) = some w ∧ GCe L S w i (o + (rr L s - rr L i) * w) r T' s' o'
theorem GCe.app : ∀ {pl : List (Rat × Nat)} {T : Rat} {s : Nat} {o T' : Rat} {s' : Nat} {o' : Rat}, GCe L S T s o pl T' s' o' → ∀ {i : Nat} {w : Rat}, s' < i → i < L.length → firstW L S (rr L s') (o' + pp L i) = some w → GCe L S T s o (pl ++ [(w, i)]) w i (o' + (rr L s' - rr L i) * w)
  | [], T, s, o, T', s', o', h, i, w, h1, h2, h3 => by
    obtain ⟨rfl, rfl, rfl⟩ := h
    exact ⟨h1, h2, h3, rfl, rfl, rfl⟩
  | (w0, j) :: r, T, s, o, T', s', o', ⟨a, b, c, d⟩, i, w, h1, h2, h3 => ⟨a, b, c, GCe.app d h1 h2 h3⟩
/-- what stands at a move -/
structure Iv (L : Rows) (f : Rat → Rat) (S T : Rat) (s : Nat) (o : Rat) : Prop where
  n : 0 ≤ T
  l : s < L.length
  b : ∀ y, 0 ≤ y → y < T → S * f y < o + pp L s + rr L s * y
  a : Feas f S (rr L s) (o + pp L s) T
theorem Iv.step (v : Vs L) (l : Least L f) {T : Rat} {s : Nat} {o : Rat} (h : Iv L f S T s o) {i : Nat} {w : Rat} (hi : s < i) (hl : i < L.length) (hw : firstW L S (rr L s) (o + pp L i) = some w) :
    T ≤ w ∧ Iv L f S w i (o + (rr L s - rr L i) * w) ∧ Feas f S (rr L s) (o + pp L s) w := by
  have F := firstW_spec v l S (rr L s) (o + pp L i)
  rw [hw] at F
  obtain ⟨F1, F2, F3⟩ := F
  obtain ⟨p1, p2⟩ := v.pwR hi hl
  have hp : pp L s < pp L i := p2
  have hr : rr L i < rr L s := p1
  have hT : T ≤ w := by
    by_cases q : w < T
    · have := h.b w F1 q
      unfold Feas at F2
      grind
    · grind
  refine ⟨hT, ⟨F1, hl, fun y h1 h2 => ?_, ?_⟩, ?_⟩
  · have := F3 y h1 h2
    unfold Feas at this
    have q : 0 < (rr L s - rr L i) * (w - y) := Rat.mul_pos (by grind) (by grind)
    grind
  · unfold Feas at *; grind
  · unfold Feas at *; grind
/-- the moves behind an entry -/
def mv (found : List Ent) : Nat → Nat → List (Rat × Nat)
  | 0, _ => []
  | n + 1, i => match found.getD i none with
    | some (w, _, some b) => mv found n b ++ [(w, i)]
    | _ => []
theorem mv_gce (v : Vs L) : ∀ (n i : Nat), i < n → i < L.length → ∀ w o b, (ents L S).getD i none = some (w, o, b) → GCe L S 0 0 0 (mv (ents L S) n i) w i o ∧ (i = 0 → w = 0 ∧ o = 0)
  | 0, i, h, _, _, _, _, _ => by omega
  | n + 1, i, hn, hi, w, o, b, e => by
    obtain ⟨E, hE⟩ := ents_spec L S (by have := v.lo; omega)
    by_cases h0 : i = 0
    · subst h0
      rw [E.z] at e; cases e
      refine ⟨?_, fun _ => ⟨rfl, rfl⟩⟩
      rw [mv, E.z]
      exact ⟨rfl, rfl, rfl⟩
    · have be := bestE_ok L S (ents L S) i
      rw [← E.s i (by omega) (by omega)] at be
      obtain ⟨k, h1, h2, wk, ok, bk, h3, h4, h5⟩ := be.h w o b e
      subst h1
      obtain ⟨g, _⟩ := mv_gce v n k (by omega) (by omega) wk ok bk h3
      refine ⟨?_, fun h => absurd h h0⟩
      rw [mv, e, h5]
      exact g.app h2 hi h4
theorem Iv.zero (v : Vs L) (l : Least L f) : Iv L f S 0 0 0 := by
  have hlo := v.lo
  have hz := v.zR
  have h0 : f 0 = 0 := by
    rw [l.h 0 0 (by omega) (At.zero v).a]
    unfold ln; grind
  refine ⟨Rat.le_refl, by omega, fun y h1 h2 => by grind, ?_⟩
  unfold Feas pp
  rw [h0]; grind
end
end Lw

set_option Elab.async false
set_option linter.all false
namespace Lw
section
variable {L : Rows} {f : Rat → Rat} {S : Rat}
theorem Envl.left {w : Rat} : ∀ {q : List (Rat × Nat)} {T : Rat} {s : Nat}, Envl L T s q → T < w → ∃ a t, T ≤ a ∧ a < w ∧ t < L.length ∧ ∀ y, a ≤ y → y ≤ w → ∀ k, k < L.length → ln (row L t) y ≤ ln (row L k) y
  | [], T, s, h, hT => ⟨T, s, Rat.le_refl, hT, h.1.l, fun y h1 _ => h.2.2 y h1⟩
  | (c, i) :: q, T, s, h, hT => by
    by_cases hc : c < w
    · obtain ⟨a, t, h1, h2, h3⟩ := Envl.left h.2.2.2.2.2.2 hc
      exact ⟨a, t, by have := h.2.1; grind, h2, h3⟩
    · exact ⟨T, s, Rat.le_refl, hT, h.1.l, fun y h1 h2 => h.2.2.2.2.1 y h1 (by grind)⟩
def lfStep (f : Rat → Rat) (S r base : Rat) (best : Option Rat) (w : Rat) : Option Rat :=
  if 0 ≤ w ∧ base + r * w ≤ S * f w ∧ (match best with | none => true | some b => decide (¬ b ≤ w)) = true then some w else best
def LI (f : Rat → Rat) (S r base : Rat) (done : List Rat) : Option Rat → Prop
  | none => ∀ c ∈ done, 0 ≤ c → ¬ Feas f S r base c
  | some w => w ∈ done ∧ 0 ≤ w ∧ Feas f S r base w ∧ ∀ c ∈ done, 0 ≤ c → Feas f S r base c → w ≤ c
theorem LI.step {r base : Rat} {done : List Rat} {o : Option Rat} (h : LI f S r base done o) (w : Rat) : LI f S r base (done ++ [w]) (lfStep f S r base o w) := by
  unfold lfStep
  by_cases h1 : 0 ≤ w ∧ base + r * w ≤ S * f w
  · cases o with
    | none =>
      rw [if_pos ⟨h1.1, h1.2, rfl⟩]
      refine ⟨by simp, h1.1, h1.2, fun c hc h0 hF => ?_⟩
      rcases List.mem_append.mp hc with hc | hc
      · exact absurd hF (h c hc h0)
      · simp at hc; subst hc; exact Rat.le_refl
    | some b =>
      obtain ⟨a1, a2, a3, a4⟩ := h
      by_cases h2 : b ≤ w
      · rw [if_neg (by simp [h2])]
        refine ⟨List.mem_append_left _ a1, a2, a3, fun c hc h0 hF => ?_⟩
        rcases List.mem_append.mp hc with hc | hc
        · exact a4 c hc h0 hF
        · simp at hc; subst hc; exact h2
      · rw [if_pos ⟨h1.1, h1.2, by simp [h2]⟩]
        refine ⟨by simp, h1.1, h1.2, fun c hc h0 hF => ?_⟩
        rcases List.mem_append.mp hc with hc | hc
        · have := a4 c hc h0 hF; grind
        · simp at hc; subst hc; exact Rat.le_refl
  · rw [if_neg (fun q => h1 ⟨q.1, q.2.1⟩)]
    have hn : ∀ c ∈ [w], 0 ≤ c → ¬ Feas f S r base c := fun c hc h0 hF => by
      simp at hc; subst hc; exact h1 ⟨h0, hF⟩
    cases o with
    | none =>
      intro c hc h0 hF
      rcases List.mem_append.mp hc with hc | hc
      · exact h c hc h0 hF
      · exact hn c hc h0 hF
    | some b =>
      obtain ⟨a1, a2, a3, a4⟩ := h
      refine ⟨List.mem_append_left _ a1, a2, a3, fun c hc h0 hF => ?_⟩
      rcases List.mem_append.mp hc with hc | hc
      · exact a4 c hc h0 hF
      · exact absurd hF (hn c hc h0)
theorem LI.fold {r base : Rat} : ∀ (C done : List Rat) (o : Option Rat), LI f S r base done o → LI f S r base (done ++ C) (C.foldl (lfStep f S r base) o)
  | [], done, o, h => by simpa using h
  | w :: C, done, o, h => by
    rw [List.foldl_cons, show done ++ w :: C = (done ++ [w]) ++ C by simp]
    exact LI.fold C _ _ (h.step w)
end
end Lw

set_option Elab.async false
set_option linter.all false
namespace Lw
/-! sizes of what is found within a share -/
theorem dposR (w : Rat) : (0 : Rat) < ((w.den : Int) : Rat) := by exact_mod_cast w.den_pos
theorem ndenR (w : Rat) : ((w.num : Int) : Rat) = w * ((w.den : Int) : Rat) := by
  have h := Rat.num_divInt_den w
  rw [Rat.divInt_eq_div] at h
  have := dposR w
  grind
theorem stretchR {x d : Rat} {r : Int} : ((x.num * d.den + r * d.num * x.den : Int) : Rat) / ((x.den * d.den : Int) : Rat) = x + (r : Rat) * d := by
  have h1 := dposR x
  have h2 := dposR d
  rw [Rat.intCast_add, Rat.intCast_mul, Rat.intCast_mul, Rat.intCast_mul, Rat.intCast_mul, ndenR x, ndenR d]
  generalize ((x.den : Int) : Rat) = u at *
  generalize ((d.den : Int) : Rat) = w at *
  have h3 : u * w ≠ 0 := by
    have := Rat.mul_pos h1 h2
    grind
  have e : x * u * w + (r : Rat) * (d * w) * u = (x + (r : Rat) * d) * (u * w) := by grind
  rw [e, Rat.mul_div_cancel h3]
structure Sh (S : Rat) : Prop where
  lo : 1 ≤ S
  hi : S ≤ 3
  d : S.den ≤ 100
section
variable {L : Rows} {f : Rat → Rat} {S : Rat}
theorem fw_form {r base : Rat} : ∀ {q : List (Rat × Nat)} {w : Rat}, fwGo L S r base q = some w → (∃ p ∈ q, w = p.1) ∨ ∃ p ∈ q, 0 < S * rr L p.2 - r ∧ w = (base - S * pp L p.2) / (S * rr L p.2 - r)
  | [], w, h => by rw [fwGo] at h; cases h
  | (b, s) :: q, w, h => by
    have up : (∃ p ∈ q, w = p.1) ∨ (∃ p ∈ q, 0 < S * rr L p.2 - r ∧ w = (base - S * pp L p.2) / (S * rr L p.2 - r)) → (∃ p ∈ (b, s) :: q, w = p.1) ∨ ∃ p ∈ (b, s) :: q, 0 < S * rr L p.2 - r ∧ w = (base - S * pp L p.2) / (S * rr L p.2 - r) := fun h => by
      rcases h with ⟨p, h1, h2⟩ | ⟨p, h1, h2⟩
      · exact .inl ⟨p, List.mem_cons_of_mem _ h1, h2⟩
      · exact .inr ⟨p, List.mem_cons_of_mem _ h1, h2⟩
    rw [fwGo.eq_def] at h
    dsimp only at h
    split at h
    · cases h; exact .inl ⟨_, List.mem_cons_self .., rfl⟩
    · split at h
      · rename_i hs
        have key : b + (0 - (S * ln (row L s) b - (base + r * b))) / (S * rr L s - r) = (base - S * pp L s) / (S * rr L s - r) := by
          have e1 : ∀ x : Rat, x / (S * rr L s - r) * (S * rr L s - r) = x := fun x => by grind
          have a1 := e1 (0 - (S * ln (row L s) b - (base + r * b)))
          have a2 := e1 (base - S * pp L s)
          have hne : S * rr L s - r ≠ 0 := by grind
          generalize (0 - (S * ln (row L s) b - (base + r * b))) / (S * rr L s - r) = x at *
          generalize (base - S * pp L s) / (S * rr L s - r) = y at *
          have : (b + x - y) * (S * rr L s - r) = 0 := by unfold ln rr pp at *; grind
          rcases Rat.mul_eq_zero.mp this with h | h
          · grind
          · exact absurd h hne
        have fin : some w = some (b + (0 - (S * ln (row L s) b - (base + r * b))) / (S * rr L s - r)) → (∃ p ∈ (b, s) :: q, w = p.1) ∨ ∃ p ∈ (b, s) :: q, 0 < S * rr L p.2 - r ∧ w = (base - S * pp L p.2) / (S * rr L p.2 - r) := fun h => by
          cases h
          exact .inr ⟨_, List.mem_cons_self .., hs, key⟩
        cases q with
        | nil => exact fin h.symm
        | cons p q =>
          obtain ⟨c, i⟩ := p
          dsimp only at h
          split at h
          · exact up (fw_form h)
          · exact fin h.symm
      · exact up (fw_form h)
theorem intR (i : Int) (x : Rat) : x = ((x.num : Int) : Rat) / ((x.den : Int) : Rat) := by
  have := Rat.num_divInt_den x
  rw [Rat.divInt_eq_div] at this
  exact this.symm
theorem quo_ht {N D : Int} {m : Nat} (hD : D ≠ 0) (h1 : N.natAbs ≤ m) (h2 : D.natAbs ≤ m) : ht ((N : Rat) / (D : Rat)) ≤ m := by
  rw [← Rat.divInt_eq_div]; exact ht_divInt hD h1 h2
theorem S_num {S : Rat} (h : Sh S) : 0 < S.num ∧ S.num ≤ 300 := by
  have h1 := h.lo
  have h2 := h.hi
  have d := h.d
  rw [Rat.le_iff] at h1 h2
  have e1 : (1 : Rat).num = 1 := rfl
  have e2 : (1 : Rat).den = 1 := rfl
  have e3 : (3 : Rat).num = 3 := rfl
  have e4 : (3 : Rat).den = 1 := rfl
  rw [e1, e2] at h1
  rw [e3, e4] at h2
  have := S.den_pos
  omega
/-- the first wait as a quotient of integers -/
theorem root_int (hS : Sh S) {s i t : Nat} {o w : Rat} (hk : 0 < S * rr L t - rr L s) (hw : w = (o + pp L i - S * pp L t) / (S * rr L t - rr L s)) :
    0 < S.num * (row L t).1 - (row L s).1 * S.den ∧ w = ((o.num * S.den + ((row L i).2 * S.den - S.num * (row L t).2) * o.den : Int) : Rat) / ((o.den * (S.num * (row L t).1 - (row L s).1 * S.den) : Int) : Rat) := by
  have d1 : (0 : Rat) < ((S.den : Int) : Rat) := by exact_mod_cast S.den_pos
  have d2 : (0 : Rat) < ((o.den : Int) : Rat) := by exact_mod_cast o.den_pos
  have e1 := intR 0 S
  have e2 := intR 0 o
  have hS' : ((S.num : Int) : Rat) = S * ((S.den : Int) : Rat) := by grind
  have ho' : ((o.num : Int) : Rat) = o * ((o.den : Int) : Rat) := by grind
  have ek : ((S.num * (row L t).1 - (row L s).1 * S.den : Int) : Rat) = (S * rr L t - rr L s) * ((S.den : Int) : Rat) := by
    rw [Rat.intCast_sub, Rat.intCast_mul, Rat.intCast_mul, hS']; unfold rr; grind
  have hkp : (0 : Rat) < ((S.num * (row L t).1 - (row L s).1 * S.den : Int) : Rat) := by rw [ek]; exact Rat.mul_pos hk d1
  refine ⟨by exact_mod_cast hkp, ?_⟩
  rw [Rat.intCast_add, Rat.intCast_mul, Rat.intCast_mul, Rat.intCast_mul, ek, Rat.intCast_sub, Rat.intCast_mul, Rat.intCast_mul, hS', ho', hw]
  generalize ((S.den : Int) : Rat) = u at *
  generalize ((o.den : Int) : Rat) = z at *
  have hz : z * ((S * rr L t - rr L s) * u) ≠ 0 := by
    have := Rat.mul_pos d2 (Rat.mul_pos hk d1)
    grind
  have : (o * z * u + (((row L i).2 : Rat) * u - S * u * ((row L t).2 : Rat)) * z) = (o + pp L i - S * pp L t) * (z * u) := by unfold pp; grind
  rw [this]
  have hk' : S * rr L t - rr L s ≠ 0 := by grind
  have hzu : z * u ≠ 0 := by have := Rat.mul_pos d2 d1; grind
  generalize o + pp L i - S * pp L t = A at *
  generalize S * rr L t - rr L s = k at *
  have e3 : A * (z * u) / (z * (k * u)) = A / k := by
    have : z * (k * u) = k * (z * u) := by grind
    rw [this]
    have h1 : A / k * k = A := by grind
    generalize A / k = y at *
    rw [← h1]
    have : y * k * (z * u) = y * (k * (z * u)) := by grind
    rw [this, Rat.mul_div_cancel (by rw [← this] at *; intro h; rcases Rat.mul_eq_zero.mp h with h | h; exact hk' h; exact hzu h)]
  exact e3.symm
theorem nat_step {a b c d : Nat} {H : Nat} (h1 : a ≤ H * c) (h2 : b ≤ H * d) : a + b ≤ H * (c + d) := by rw [Nat.mul_add]; omega
/-- sizes: one step -/
theorem ht_root (v : Vs L) (hS : Sh S) {s i t : Nat} (hs : s < L.length) (hi : i < L.length) (ht' : t < L.length) {o w : Rat} (hk : 0 < S * rr L t - rr L s) (hw : w = (o + pp L i - S * pp L t) / (S * rr L t - rr L s)) :
    ht w ≤ ht o * 2 ^ 23 ∧ ht (o + (rr L s - rr L i) * w) ≤ ht o * 2 ^ 34 := by
  obtain ⟨k0, e⟩ := root_int hS hk hw
  obtain ⟨n1, n2⟩ := S_num hS
  have sd := hS.d
  have sdp := S.den_pos
  have r1 := v.r0 s hs
  have r2 := v.r0 t ht'
  have r3 := v.r0 i hi
  have p1 := v.p0 i hi
  have p2 := v.p0 t ht'
  have od := o.den_pos
  have hn := num_le o
  have hd := den_le o
  generalize hk' : S.num * (row L t).1 - (row L s).1 * S.den = k at *
  have kb : k ≤ 300000 := by
    have a1 : S.num * (row L t).1 ≤ 300 * 1000 := Int.mul_le_mul n2 r2.2 r2.1 (by omega)
    have a2 : 0 ≤ (row L s).1 * S.den := Int.mul_nonneg r1.1 (by omega)
    omega
  generalize hm : (row L i).2 * S.den - S.num * (row L t).2 = m at *
  have mb : m.natAbs ≤ 3000000 := by
    have a1 : (row L i).2 * S.den ≤ 10000 * 100 := Int.mul_le_mul p1.2 (by omega) (by omega) (by omega)
    have a2 : 0 ≤ (row L i).2 * S.den := Int.mul_nonneg p1.1 (by omega)
    have a3 : S.num * (row L t).2 ≤ 300 * 10000 := Int.mul_le_mul n2 p2.2 p2.1 (by omega)
    have a4 : 0 ≤ S.num * (row L t).2 := Int.mul_nonneg (by omega) p2.1
    omega
  generalize hNN : o.num * S.den + m * o.den = N at *
  have Nb : N.natAbs ≤ ht o * 3000100 := by
    have a1 : (o.num * S.den).natAbs ≤ ht o * 100 := by rw [Int.natAbs_mul, Int.natAbs_natCast]; exact Nat.mul_le_mul hn sd
    have a2 : (m * o.den).natAbs ≤ ht o * 3000000 := by rw [Int.natAbs_mul, Int.natAbs_natCast, Nat.mul_comm]; exact Nat.mul_le_mul hd mb
    have a3 := nat_step a1 a2
    have : N.natAbs ≤ (o.num * S.den).natAbs + (m * o.den).natAbs := by rw [← hNN]; exact Int.natAbs_add_le _ _
    exact Nat.le_trans this (by simpa using a3)
  have Db : (o.den * k : Int).natAbs ≤ ht o * 300000 := by
    rw [Int.natAbs_mul, Int.natAbs_natCast]; exact Nat.mul_le_mul hd (by omega)
  have Dn : (o.den * k : Int) ≠ 0 := Int.mul_ne_zero (by omega) (by omega)
  have up : ∀ c d : Nat, c ≤ d → ht o * c ≤ ht o * d := fun c d h => Nat.mul_le_mul_left _ h
  constructor
  · rw [e]
    exact quo_ht Dn (Nat.le_trans Nb (up _ _ (by decide))) (Nat.le_trans Db (up _ _ (by decide)))
  · have e2 : o + (rr L s - rr L i) * w = ((o.num * k + ((row L s).1 - (row L i).1) * N : Int) : Rat) / ((o.den * k : Int) : Rat) := by
      rw [e]
      simp only [Rat.intCast_add, Rat.intCast_mul, Rat.intCast_sub]
      have d2 : (0 : Rat) < ((o.den : Int) : Rat) := by exact_mod_cast o.den_pos
      have dk : (0 : Rat) < (k : Rat) := by exact_mod_cast k0
      have e3 := intR 0 o
      have ho' : ((o.num : Int) : Rat) = o * ((o.den : Int) : Rat) := by grind
      rw [ho']
      generalize ((o.den : Int) : Rat) = z at *
      have hz := Rat.mul_pos d2 dk
      have e4 : (N : Rat) / (z * k) * (z * k) = N := by grind
      generalize (N : Rat) / (z * k) = y at *
      rw [← e4]
      have : o * z * (k : Rat) + (((row L s).1 : Rat) - ((row L i).1 : Rat)) * (y * (z * k)) = (o + (rr L s - rr L i) * y) * (z * k) := by unfold rr; grind
      rw [this, Rat.mul_div_cancel (by grind)]
    rw [e2]
    refine quo_ht Dn ?_ (Nat.le_trans Db (up _ _ (by decide)))
    have a1 : (o.num * k).natAbs ≤ ht o * 300000 := by rw [Int.natAbs_mul]; exact Nat.mul_le_mul hn (by omega)
    have a2 : (((row L s).1 - (row L i).1) * N).natAbs ≤ ht o * (3000100 * 1000) := by
      rw [Int.natAbs_mul, Nat.mul_comm]
      have := Nat.mul_le_mul Nb (show ((row L s).1 - (row L i).1).natAbs ≤ 1000 by omega)
      rw [Nat.mul_assoc] at this
      exact this
    have a3 := nat_step a1 a2
    exact Nat.le_trans (Int.natAbs_add_le _ _) (Nat.le_trans a3 (up _ _ (by decide)))
theorem ht_turn (v : Vs L) {s i : Nat} (hs : s < L.length) (hi : i < L.length) {o w : Rat} (hw : ht w ≤ 2 ^ 22) : ht w ≤ ht o * 2 ^ 23 ∧ ht (o + (rr L s - rr L i) * w) ≤ ht o * 2 ^ 34 := by
  have hp := ht_pos o
  have r1 := v.r0 s hs
  have r3 := v.r0 i hi
  have od := o.den_pos
  have hn := num_le o
  have hd := den_le o
  have wn := num_le w
  have wd := den_le w
  have up : ∀ c d : Nat, c ≤ d → ht o * c ≤ ht o * d := fun c d h => Nat.mul_le_mul_left _ h
  refine ⟨Nat.le_trans hw (by have := up 1 (2 ^ 23) (by decide); have : 1 * 2 ^ 23 ≤ ht o * 2 ^ 23 := Nat.mul_le_mul_right _ hp; omega), ?_⟩
  have e2 : o + (rr L s - rr L i) * w = ((o.num * w.den + ((row L s).1 - (row L i).1) * w.num * o.den : Int) : Rat) / ((o.den * w.den : Int) : Rat) := by
    have := stretchR (x := o) (d := w) (r := (row L s).1 - (row L i).1)
    rw [this, Rat.intCast_sub]; rfl
  rw [e2]
  refine quo_ht (dd_ne o w) ?_ ?_
  · have a1 : (o.num * w.den).natAbs ≤ ht o * 2 ^ 22 := by rw [Int.natAbs_mul, Int.natAbs_natCast]; exact Nat.mul_le_mul hn (by omega)
    have a2 : (((row L s).1 - (row L i).1) * w.num * o.den).natAbs ≤ ht o * (1000 * 2 ^ 22) := by
      rw [Int.natAbs_mul, Int.natAbs_natCast, Nat.mul_comm]
      refine Nat.mul_le_mul hd ?_
      rw [Int.natAbs_mul]
      exact Nat.mul_le_mul (by omega) (by omega)
    have a3 := nat_step a1 a2
    exact Nat.le_trans (Int.natAbs_add_le _ _) (Nat.le_trans a3 (up _ _ (by decide)))
  · rw [Int.natAbs_mul, Int.natAbs_natCast, Int.natAbs_natCast]
    exact Nat.mul_le_mul hd (by omega)
/-- the first wait comes not long behind the move before -/
theorem fw_near (v : Vs L) (l : Least L f) (hS : Sh S) {T : Rat} {s : Nat} {o : Rat} (I : Iv L f S T s o) {i : Nat} {w : Rat} (hi : s < i) (hl : i < L.length) (hw : firstW L S (rr L s) (o + pp L i) = some w) :
    (∃ p ∈ turns L, w = p.1) ∨ ((∃ t, t < L.length ∧ 0 < S * rr L t - rr L s ∧ w = (o + pp L i - S * pp L t) / (S * rr L t - rr L s)) ∧ w ≤ T + 1000000) := by
  rcases fw_form hw with h | ⟨p, hp, hk, e⟩
  · exact .inl h
  right
  have ht : p.2 < L.length := ((turns_env v).mem p hp).l
  refine ⟨⟨p.2, ht, hk, e⟩, ?_⟩
  obtain ⟨k0, _⟩ := root_int (L := L) (i := i) hS hk e
  -- the slope is a hundredth at least
  have d1 := dposR S
  have hS' := ndenR S
  have ek : ((S.num * (row L p.2).1 - (row L s).1 * S.den : Int) : Rat) = (S * rr L p.2 - rr L s) * ((S.den : Int) : Rat) := by
    rw [Rat.intCast_sub, Rat.intCast_mul, Rat.intCast_mul, hS']; unfold rr; grind
  have k1 : (1 : Rat) ≤ ((S.num * (row L p.2).1 - (row L s).1 * S.den : Int) : Rat) := by exact_mod_cast k0
  have d100 : ((S.den : Int) : Rat) ≤ 100 := by exact_mod_cast hS.d
  rw [ek] at k1
  obtain ⟨q1, _, q2, q3⟩ := l.e T
  have fT := q3 p.2 ht
  have IA := I.a
  unfold Feas at IA
  have hS0 : (0 : Rat) ≤ S := by have := hS.lo; grind
  have h3 : S * f T ≤ S * ln (row L p.2) T := Rat.mul_le_mul_of_nonneg_left fT hS0
  have pi := v.p0 i hl
  have ps := (v.rR I.l).2
  have pib : pp L i ≤ 10000 := by
    have h1 : ((row L i).2 : Rat) ≤ ((10000 : Int) : Rat) := Rat.intCast_le_intCast.mpr pi.2
    have h2 : ((10000 : Int) : Rat) = 10000 := rfl
    rw [h2] at h1; exact h1
  have psb : 0 ≤ pp L s := ps
  have hwk : w * (S * rr L p.2 - rr L s) = o + pp L i - S * pp L p.2 := by
    have hne : S * rr L p.2 - rr L s ≠ 0 := by grind
    rw [e, Rat.div_mul_cancel hne]
  have h4 : (w - T) * (S * rr L p.2 - rr L s) ≤ 10000 := by unfold ln rr pp at *; grind
  by_cases hwT : w ≤ T
  · grind
  have hpos : 0 < w - T := by grind
  -- multiply by the parts of S
  have h5 : (w - T) * ((S * rr L p.2 - rr L s) * ((S.den : Int) : Rat)) ≤ 10000 * 100 := by
    have a1 : (w - T) * (S * rr L p.2 - rr L s) * ((S.den : Int) : Rat) ≤ 10000 * ((S.den : Int) : Rat) := Rat.mul_le_mul_of_nonneg_right h4 (Rat.le_of_lt d1)
    grind
  have h6 : (w - T) * 1 ≤ (w - T) * ((S * rr L p.2 - rr L s) * ((S.den : Int) : Rat)) := Rat.mul_le_mul_of_nonneg_left k1 (Rat.le_of_lt hpos)
  grind
theorem GCe.iv (v : Vs L) (l : Least L f) : ∀ {pl : List (Rat × Nat)} {T : Rat} {s : Nat} {o T' : Rat} {s' : Nat} {o' : Rat}, GCe L S T s o pl T' s' o' → Iv L f S T s o → Iv L f S T' s' o'
  | [], T, s, o, T', s', o', h, I => by
    obtain ⟨rfl, rfl, rfl⟩ := h
    exact I
  | (w, i) :: r, T, s, o, T', s', o', ⟨h1, h2, h3, h4⟩, I => GCe.iv v l h4 (I.step v l h1 h2 h3).2.1
/-- the sizes of an entry -/
structure Eb (L : Rows) (i : Nat) (w o : Rat) : Prop where
  le : w ≤ i * 1000000 + 10000
  hw : ht w ≤ 2 ^ (34 * i)
  ho : ht o ≤ 2 ^ (34 * i)
theorem ents_sz (v : Vs L) (l : Least L f) (hS : Sh S) (ht0 : ∀ p ∈ turns L, ht p.1 ≤ 2 ^ 22 ∧ p.1 ≤ 10000) : ∀ (i : Nat), i < L.length → ∀ w o b, (ents L S).getD i none = some (w, o, b) → Eb L i w o := by
  intro i
  induction i using Nat.strongRecOn with
  | ind i ih =>
    intro hi w o b e
    obtain ⟨E, hE⟩ := ents_spec L S (by have := v.lo; omega)
    by_cases h0 : i = 0
    · subst h0
      rw [E.z] at e; cases e
      exact ⟨by decide +kernel, by decide +kernel, by decide +kernel⟩
    · have be := bestE_ok L S (ents L S) i
      rw [← E.s i (by omega) (by omega)] at be
      obtain ⟨k, h1, h2, wk, ok, bk, h3, h4, h5⟩ := be.h w o b e
      have B := ih k h2 (by omega) wk ok bk h3
      have g := (mv_gce v (k + 1) k (by omega) (by omega) wk ok bk h3).1
      have I := GCe.iv v l g (Iv.zero v l)
      have hmul : 2 ^ (34 * k) * 2 ^ 34 ≤ 2 ^ (34 * i) := by rw [← Nat.pow_add]; exact Nat.pow_le_pow_right (by omega) (by omega)
      have fin : ht w ≤ ht ok * 2 ^ 23 → ht (ok + (rr L k - rr L i) * w) ≤ ht ok * 2 ^ 34 → ht w ≤ 2 ^ (34 * i) ∧ ht o ≤ 2 ^ (34 * i) := fun a b => by
        rw [h5]
        have q1 : ht ok * 2 ^ 34 ≤ 2 ^ (34 * k) * 2 ^ 34 := Nat.mul_le_mul_right _ B.ho
        have q2 : ht ok * 2 ^ 23 ≤ ht ok * 2 ^ 34 := Nat.mul_le_mul_left _ (by decide)
        omega
      have hik : ((k : Nat) : Rat) + 1 ≤ ((i : Nat) : Rat) := by exact_mod_cast h2
      rcases fw_near v l hS I h2 hi h4 with ⟨p, hp, e1⟩ | ⟨⟨t, q1, q2, q3⟩, q4⟩
      · obtain ⟨a1, a2⟩ := ht0 p hp
        obtain ⟨b1, b2⟩ := ht_turn v (s := k) (i := i) (by omega) hi (o := ok) (w := w) (by rw [e1]; exact a1)
        obtain ⟨c1, c2⟩ := fin b1 b2
        refine ⟨?_, c1, c2⟩
        have : (0 : Rat) ≤ ((k : Nat) : Rat) := by exact_mod_cast Nat.zero_le k
        rw [e1]; grind
      · obtain ⟨b1, b2⟩ := ht_root v hS (i := i) (by omega) hi q1 q2 q3
        obtain ⟨c1, c2⟩ := fin b1 b2
        refine ⟨?_, c1, c2⟩
        have := B.le
        grind
end
end Lw

set_option Elab.async false
set_option linter.all false
set_option maxRecDepth 100000
set_option maxHeartbeats 2000000
/-! within.py -/
namespace Lw
open PySem PySem.Spec PyProof.Rows L2 Py
variable {tbl : List (Nat × FD)} {n : Nat} {S : Sto}
end Lw

set_option Elab.async false
set_option linter.all false
set_option maxRecDepth 100000
set_option maxHeartbeats 2000000
/-! within.py: entries, plans -/
namespace Lw
open PySem PySem.Spec PyProof.Rows L2 Py
variable {tbl : List (Nat × FD)} {n : Nat} {S : Sto}
def optQ : Option Rat → Py.D
  | none => .non
  | some w => Q w
/-! ### entries -/
def entD : Ent → Py.D
  | none => .non
  | some (w, o, none) => .tup [Q w, Q o, .non]
  | some (w, o, some k) => .tup [Q w, Q o, .int k]
def bfD : Option Nat → Py.D
  | none => .non
  | some k => .int k
/-- a list of entries made so far -/
structure EP (L : Rows) (s : Rat) (f : List Ent) : Prop where
  g : ∃ g, ents L s = f ++ g
  e : EI L s f
theorem EP.bz {L : Rows} (v : Vs L) {s : Rat} (hs : Sh s) {f : List Ent} (h : EP L s f) {k : Nat} (hk : k < f.length) {w o : Rat} {b : Option Nat} (e : f.getD k none = some (w, o, b)) : bz w ≤ 180 ∧ bz o ≤ 180 ∧ k < L.length ∧ w ≤ 10 ^ 15 := by
  obtain ⟨g, hg⟩ := h.g
  have hhi := v.hi
  have hl := (ents_spec L s (by have := v.lo; omega)).2
  have hkl : k < L.length := by rw [← hl, hg]; simp; omega
  have e2 : (ents L s).getD k none = some (w, o, b) := by
    rw [hg]
    simp only [List.getD] at *
    rw [List.getElem?_append_left hk]; exact e
  have B := ents_sz v (lst_least v) hs (fun p hp => by
    have t := Tn.of v hp
    refine ⟨Nat.le_of_lt (Nat.lt_of_lt_of_le (ht_lt p.1) (Nat.pow_le_pow_right (by omega) (by have := t.b; omega))), ?_⟩
    rcases List.mem_cons.mp hp with rfl | hp
    · show (0 : Rat) ≤ 10000; decide +kernel
    · obtain ⟨j, q1, q2, q3⟩ := (turns_env v).crs p hp
      have h1 := (v.pwR q1 q2).1
      have p1 := v.pw j p.2 q1 q2
      have p2 := v.p0 p.2 q2
      have p3 := v.p0 j (by omega)
      have a1 : (1 : Rat) ≤ (((row L j).1 - (row L p.2).1 : Int) : Rat) := by
        have : (1 : Int) ≤ (row L j).1 - (row L p.2).1 := by omega
        exact_mod_cast this
      have a2 : (((row L p.2).2 - (row L j).2 : Int) : Rat) ≤ ((10000 : Int) : Rat) := Rat.intCast_le_intCast.mpr (by omega)
      have a3 : ((10000 : Int) : Rat) = 10000 := rfl
      rw [a3] at a2
      rw [q3]
      unfold crs
      generalize (((row L j).1 - (row L p.2).1 : Int) : Rat) = d at *
      generalize (((row L p.2).2 - (row L j).2 : Int) : Rat) = m at *
      have e : m / d * d = m := by grind
      refine Rat.le_of_mul_le_mul_right (c := d) ?_ (by grind)
      have : (10000 : Rat) * 1 ≤ 10000 * d := Rat.mul_le_mul_of_nonneg_left a1 (by decide +kernel)
      grind) k hkl w o b e2
  have q1 : 2 ^ (34 * k) ≤ 2 ^ 170 := Nat.pow_le_pow_right (by omega) (by omega)
  have q2 : 2 ^ 170 < 2 ^ (180 + 1) := Nat.pow_lt_pow_right (by omega) (by omega)
  have b1 := B.hw
  have b2 := B.ho
  refine ⟨bz_le (by omega), bz_le (by omega), hkl, ?_⟩
  have b3 := B.le
  have b4 : ((k : Nat) : Rat) ≤ 10 := by exact_mod_cast (show k ≤ 10 by omega)
  grind
end Lw

set_option Elab.async false
set_option linter.all false
set_option maxRecDepth 100000
set_option maxHeartbeats 2000000
/-! within.py: entries, plans -/
namespace Lw
open PySem PySem.Spec PyProof.Rows L2 Py
variable {tbl : List (Nat × FD)} {n : Nat} {S : Sto}
theorem ix_tup {Φ : Fns} {a : Py.Tm} {i : Int} {δ : Env} {S S1 : Sto} {ds : List Py.D} {d : Py.D} (h : ev Φ a δ S = .ok (.tup ds) S1) (h2 : L2.atI ds i = some d) : ev Φ (.ix a (.con (.int i))) δ S = .ok d S1 := by
  rw [ev, h, R.bind_ok, ev, R.bind_ok]
  show R.lift (L2.atI ds i) S1 = _
  rw [h2]; rfl
end Lw

set_option Elab.async false
set_option linter.all false
set_option maxRecDepth 100000
set_option maxHeartbeats 2000000
/-! within.py: plan_by, plan_within -/
namespace Lw
open PySem PySem.Spec PyProof.Rows L2 Py
variable {tbl : List (Nat × FD)} {n : Nat} {S : Sto}
def planF (L : Rows) (s : Rat) : List Ent → Nat → Option (List (Rat × Nat))
  | [], _ => none
  | e :: r, k => if e.isSome = true ∧ rr L k ≤ s * rr L (L.length - 1) then some (mv (ents L s) L.length k) else planF L s r (k + 1)
def planW (L : Rows) (s : Rat) : Option (List (Rat × Nat)) := planF L s (ents L s) 0
def optPl : Option (List (Rat × Nat)) → Py.D
  | none => .non
  | some pl => .tup (pl.map T2)
end Lw

set_option Elab.async false
set_option linter.all false
set_option maxRecDepth 100000
set_option maxHeartbeats 2000000
/-! the laws' own: first waits -/
namespace Lw
open PySem PySem.Spec PyProof.Rows L2 Py
variable {tbl : List (Nat × FD)} {n : Nat} {S : Sto}
/-! ### candidates -/
def rootR (L : Rows) (s r base : Rat) (t : Nat) : Rat := (base - s * pp L t) / (s * rr L t - r)
def candS (L : Rows) (s r base : Rat) (l : List Rat) (t : Nat) : List Rat := if s * rr L t - r ≠ 0 then inAll L l t ++ [rootR L s r base t] else inAll L l t
def candL (L : Rows) (s r base : Rat) : List Rat := (List.range' 0 L.length).foldl (candS L s r base) [0]
end Lw

set_option Elab.async false
set_option linter.all false
set_option maxRecDepth 100000
set_option maxHeartbeats 2000000
/-! the laws' own: first waits, tries -/
namespace Lw
open PySem PySem.Spec PyProof.Rows L2 Py
variable {tbl : List (Nat × FD)} {n : Nat} {S : Sto}
/-! ### rows of stages -/
def rowsF (l : List (List Nat)) (t : Nat) : List (List Nat) := l ++ l.map (· ++ [t])
def rowsL (m : Nat) : List (List Nat) := (List.range' 1 (m - 1)).foldl rowsF [[]]
abbrev sD (t : Nat) : Py.D := .tup [.int t, .non]
def rowD (r : List Nat) : Py.D := .lst (.tup [.int 0, .tup [.int 0, .int 1]] :: r.map sD)
end Lw

set_option Elab.async false
set_option linter.all false
set_option maxRecDepth 100000
set_option maxHeartbeats 2000000
/-! the laws' own: tries -/
namespace Lw
open PySem PySem.Spec PyProof.Rows L2 Py
variable {tbl : List (Nat × FD)} {n : Nat} {S : Sto}
def greedyF (L : Rows) (s : Rat) (u : Nat × Rat × Bool) (t : Nat) : Nat × Rat × Bool :=
  if u.2.2 then (match firstW L s (rr L u.1) (u.2.1 + pp L t) with
    | none => (u.1, u.2.1, false)
    | some w => (t, u.2.1 + (rr L u.1 - rr L t) * w, true))
  else (u.1, u.2.1, false)
def fineB (L : Rows) (s : Rat) (u : Nat × Rat × Bool) : Bool := u.2.2 && decide (rr L u.1 ≤ s * rr L (L.length - 1))
def triesB (L : Rows) (s : Rat) : Bool := (rowsL L.length).any fun r => fineB L s (r.foldl (greedyF L s) (0, 0, true))
theorem fw_sz {L : Rows} (v : Vs L) {s : Rat} (hs : Sh s) {h t : Nat} (hh : h < L.length) (ht' : t < L.length) {p w : Rat} (hw : firstW L s (rr L h) (p + pp L t) = some w) : ht w ≤ ht p * 2 ^ 23 ∧ ht (p + (rr L h - rr L t) * w) ≤ ht p * 2 ^ 34 := by
  rcases fw_form hw with ⟨q, hq, e⟩ | ⟨q, hq, hk, e⟩
  · have tq := Tn.of v hq
    refine ht_turn v hh ht' ?_
    rw [e]
    exact Nat.le_of_lt (Nat.lt_of_lt_of_le (ht_lt q.1) (Nat.pow_le_pow_right (by omega) (by have := tq.b; omega)))
  · exact ht_root v hs hh ht' (Tn.of v hq).l hk e
structure GI (L : Rows) (l : List Nat) (u : Nat × Rat × Bool) : Prop where
  h : ∃ h, Inc L.length h l ∧ u.1 ≤ h
  l : u.1 < L.length
  s : ht u.2.1 ≤ 2 ^ (34 * u.1)
theorem GI.step {L : Rows} (v : Vs L) {s : Rat} (hs : Sh s) {t : Nat} {l : List Nat} {u : Nat × Rat × Bool} (g : GI L (t :: l) u) : GI L l (greedyF L s u t) := by
  obtain ⟨h, ⟨a, b, c⟩, d⟩ := g.h
  have old : GI L l (u.1, u.2.1, false) := ⟨⟨t, c, by show u.1 ≤ t; omega⟩, g.l, g.s⟩
  unfold greedyF
  by_cases hf : u.2.2
  · rw [if_pos hf]
    cases hw : firstW L s (rr L u.1) (u.2.1 + pp L t) with
    | none => exact old
    | some w =>
      refine ⟨⟨t, c, Nat.le_refl _⟩, b, ?_⟩
      have h1 := (fw_sz v hs g.l b hw).2
      have h2 : ht u.2.1 * 2 ^ 34 ≤ 2 ^ (34 * u.1) * 2 ^ 34 := Nat.mul_le_mul_right _ g.s
      have h3 : 2 ^ (34 * u.1) * 2 ^ 34 ≤ 2 ^ (34 * t) := by rw [← Nat.pow_add]; exact Nat.pow_le_pow_right (by omega) (by omega)
      show ht (u.2.1 + (rr L u.1 - rr L t) * w) ≤ 2 ^ (34 * t)
      omega
  · rw [if_neg hf]; exact old
theorem GI.bz {L : Rows} (v : Vs L) {l : List Nat} {u : Nat × Rat × Bool} (g : GI L l u) : bz u.2.1 ≤ 180 := by
  have h1 := g.s
  have h2 := g.l
  have h3 := v.hi
  have q1 : 2 ^ (34 * u.1) ≤ 2 ^ 170 := Nat.pow_le_pow_right (by omega) (by omega)
  have q2 : 2 ^ 170 < 2 ^ (180 + 1) := Nat.pow_lt_pow_right (by omega) (by omega)
  exact bz_le (by omega)
end Lw

set_option Elab.async false
set_option linter.all false
set_option maxRecDepth 100000
set_option maxHeartbeats 2000000
/-! law k06 -/
namespace Lw
open PySem PySem.Spec PyProof.Rows L2 Py
variable {tbl : List (Nat × FD)} {n : Nat} {S : Sto}
end Lw

set_option Elab.async false
set_option linter.all false
set_option maxRecDepth 100000
set_option maxHeartbeats 2000000
/-! law k06 -/
namespace Lw
open PySem PySem.Spec PyProof.Rows L2 Py
variable {tbl : List (Nat × FD)} {n : Nat} {S : Sto}
end Lw

set_option Elab.async false
set_option linter.all false
set_option maxRecDepth 100000
set_option maxHeartbeats 2000000
/-! law k06 -/
namespace Lw
open PySem PySem.Spec PyProof.Rows L2 Py
variable {tbl : List (Nat × FD)} {n : Nat} {S : Sto}
end Lw

set_option Elab.async false
set_option linter.all false
namespace Lw
section
variable {L : Rows} {f : Rat → Rat} {S : Rat}
/-! plans whose moves are within a share, one after another -/
def Chk (L : Rows) (f : Rat → Rat) (S : Rat) : Rat → Nat → Rat → List (Rat × Nat) → Nat → Rat → Prop
  | _, s, o, [], s', o' => s = s' ∧ o = o'
  | T, s, o, (w, i) :: r, s', o' => s < i ∧ i < L.length ∧ T ≤ w ∧ Feas f S (rr L s) (o + pp L i) w ∧ Chk L f S w i (o + (rr L s - rr L i) * w) r s' o'
def lastT : Rat → List (Rat × Nat) → Rat
  | T, [] => T
  | _, (w, _) :: r => lastT w r
theorem Chk.weak {pl : List (Rat × Nat)} {T T' : Rat} {s : Nat} {o : Rat} {s' : Nat} {o' : Rat} (h : Chk L f S T s o pl s' o') (hT : T' ≤ T) : Chk L f S T' s o pl s' o' := by
  cases pl with
  | nil => exact h
  | cons p r =>
    obtain ⟨w, i⟩ := p
    exact ⟨h.1, h.2.1, Rat.le_trans hT h.2.2.1, h.2.2.2⟩
theorem Chk.app : ∀ {pl : List (Rat × Nat)} {T : Rat} {s : Nat} {o : Rat} {s1 : Nat} {o1 : Rat} {pl2 : List (Rat × Nat)} {s2 : Nat} {o2 : Rat}, Chk L f S T s o pl s1 o1 → Chk L f S (lastT T pl) s1 o1 pl2 s2 o2 → Chk L f S T s o (pl ++ pl2) s2 o2
  | [], T, s, o, s1, o1, pl2, s2, o2, h, g => by
    obtain ⟨rfl, rfl⟩ := h
    exact g
  | (w, i) :: r, T, s, o, s1, o1, pl2, s2, o2, ⟨a, b, c, d, e⟩, g => ⟨a, b, c, d, Chk.app e g⟩
theorem Chk.le_last : ∀ {pl : List (Rat × Nat)} {T : Rat} {s : Nat} {o : Rat} {s' : Nat} {o' : Rat}, Chk L f S T s o pl s' o' → T ≤ lastT T pl ∧ ∀ p ∈ pl, T ≤ p.1 ∧ p.1 ≤ lastT T pl
  | [], T, s, o, s', o', h => ⟨Rat.le_refl, fun p hp => absurd hp (by simp)⟩
  | (w, i) :: r, T, s, o, s', o', ⟨a, b, c, d, e⟩ => by
    obtain ⟨h1, h2⟩ := Chk.le_last e
    refine ⟨Rat.le_trans c h1, fun p hp => ?_⟩
    rcases List.mem_cons.mp hp with rfl | hp
    · exact ⟨c, h1⟩
    · obtain ⟨q1, q2⟩ := h2 p hp
      exact ⟨Rat.le_trans c q1, q2⟩
theorem Chk.lt : ∀ {pl : List (Rat × Nat)} {T : Rat} {s : Nat} {o : Rat} {s' : Nat} {o' : Rat}, Chk L f S T s o pl s' o' → s < L.length → s' < L.length ∧ s ≤ s'
  | [], T, s, o, s', o', h, hs => by obtain ⟨rfl, rfl⟩ := h; exact ⟨hs, Nat.le_refl _⟩
  | (w, i) :: r, T, s, o, s', o', ⟨a, b, c, d, e⟩, hs => by
    obtain ⟨h1, h2⟩ := Chk.lt e b
    exact ⟨h1, by omega⟩
/-- what a wait costs behind some moves and ahead of others -/
theorem Chk.cost {w : Rat} {r : List (Rat × Nat)} (hr : ∀ p ∈ r, w ≤ p.1) : ∀ {pl : List (Rat × Nat)} {T : Rat} {s : Nat} {o : Rat} {s' : Nat} {o' : Rat}, Chk L f S T s o pl s' o' → (∀ p ∈ pl, p.1 < w) →
    o + rr L s * T + runP L w T s (pl ++ r) = o' + rr L s' * w ∧ endP w false s (pl ++ r) = s'
  | [], T, s, o, s', o', h, hp => by
    obtain ⟨rfl, rfl⟩ := h
    cases r with
    | nil => exact ⟨by simp only [List.nil_append, runP]; grind, rfl⟩
    | cons p r =>
      obtain ⟨c, i⟩ := p
      have hc := hr (c, i) (List.mem_cons_self ..)
      have hn : ¬ c < w := by grind
      exact ⟨by simp only [List.nil_append, runP]; rw [if_neg hn]; grind, by simp only [List.nil_append, endP]; rw [if_neg (by simp [hn])]⟩
  | (c, i) :: q, T, s, o, s', o', ⟨h1, h2, hT, h3, h4⟩, hp => by
    have hc := hp (c, i) (List.mem_cons_self ..)
    obtain ⟨e1, e2⟩ := Chk.cost hr h4 (fun p hq => hp p (List.mem_cons_of_mem _ hq))
    rw [List.cons_append, runP, if_pos hc, endP, if_pos (.inl hc)]
    exact ⟨by grind, e2⟩
/-! the next wait, the moves that lead on -/
def nxtW (L : Rows) (f : Rat → Rat) (S r base b : Rat) : Option Rat := match firstW L S r base with
  | none => none
  | some w => if w < b then (if 0 ≤ S * f b - (base + r * b) then some b else none) else some w
theorem nxtW_some (v : Vs L) (l : Least L f) {r base b w : Rat} (hb : 0 ≤ b) (h : nxtW L f S r base b = some w) : b ≤ w ∧ Feas f S r base w ∧ (w = b ∨ firstW L S r base = some w) := by
  have F := firstW_spec v l S r base
  unfold nxtW at h
  cases e : firstW L S r base with
  | none => rw [e] at h; cases h
  | some w1 =>
    rw [e] at h F
    dsimp only at h
    by_cases h1 : w1 < b
    · rw [if_pos h1] at h
      by_cases h2 : 0 ≤ S * f b - (base + r * b)
      · rw [if_pos h2] at h; cases h
        exact ⟨Rat.le_refl, by unfold Feas; grind, .inl rfl⟩
      · rw [if_neg h2] at h; cases h
    · rw [if_neg h1] at h; cases h
      exact ⟨by grind, F.2.1, .inr rfl⟩
def furS (L : Rows) (f : Rat → Rat) (S : Rat) (g : Nat → Rat → Rat → Option (List (Rat × Nat))) (s : Nat) (o b : Rat) (i : Nat) : Option (List (Rat × Nat)) := match nxtW L f S (rr L s) (o + pp L i) b with
  | none => none
  | some w => match g i (o + (rr L s - rr L i) * w) w with
    | none => none
    | some r => some ((w, i) :: r)
def furF (L : Rows) (f : Rat → Rat) (S : Rat) : Nat → Nat → Rat → Rat → Option (List (Rat × Nat))
  | 0, _, _, _ => none
  | n + 1, s, o, b => if rr L s ≤ S * rr L (L.length - 1) then some [] else (List.range' (s + 1) (L.length - (s + 1))).findSome? (furS L f S (furF L f S n) s o b)
end
end Lw

set_option Elab.async false
set_option linter.all false
namespace Lw
section
variable {L : Rows} {f : Rat → Rat} {S : Rat}
/-- sizes: one step, to another stage -/
theorem ht_root2 (v : Vs L) (hS : Sh S) {s i j t : Nat} (hs : s < L.length) (hi : i < L.length) (hj : j < L.length) (ht' : t < L.length) {o w : Rat} (hk : 0 < S * rr L t - rr L s) (hw : w = (o + pp L i - S * pp L t) / (S * rr L t - rr L s)) :
    ht w ≤ ht o * 2 ^ 23 ∧ ht (o + (rr L s - rr L j) * w) ≤ ht o * 2 ^ 34 := by
  obtain ⟨k0, e⟩ := root_int hS hk hw
  obtain ⟨n1, n2⟩ := S_num hS
  have sd := hS.d
  have sdp := S.den_pos
  have r1 := v.r0 s hs
  have r2 := v.r0 t ht'
  have r3 := v.r0 j hj
  have p1 := v.p0 i hi
  have p2 := v.p0 t ht'
  have od := o.den_pos
  have hn := num_le o
  have hd := den_le o
  generalize hk' : S.num * (row L t).1 - (row L s).1 * S.den = k at *
  have kb : k ≤ 300000 := by
    have a1 : S.num * (row L t).1 ≤ 300 * 1000 := Int.mul_le_mul n2 r2.2 r2.1 (by omega)
    have a2 : 0 ≤ (row L s).1 * S.den := Int.mul_nonneg r1.1 (by omega)
    omega
  generalize hm : (row L i).2 * S.den - S.num * (row L t).2 = m at *
  have mb : m.natAbs ≤ 3000000 := by
    have a1 : (row L i).2 * S.den ≤ 10000 * 100 := Int.mul_le_mul p1.2 (by omega) (by omega) (by omega)
    have a2 : 0 ≤ (row L i).2 * S.den := Int.mul_nonneg p1.1 (by omega)
    have a3 : S.num * (row L t).2 ≤ 300 * 10000 := Int.mul_le_mul n2 p2.2 p2.1 (by omega)
    have a4 : 0 ≤ S.num * (row L t).2 := Int.mul_nonneg (by omega) p2.1
    omega
  generalize hNN : o.num * S.den + m * o.den = N at *
  have Nb : N.natAbs ≤ ht o * 3000100 := by
    have a1 : (o.num * S.den).natAbs ≤ ht o * 100 := by rw [Int.natAbs_mul, Int.natAbs_natCast]; exact Nat.mul_le_mul hn sd
    have a2 : (m * o.den).natAbs ≤ ht o * 3000000 := by rw [Int.natAbs_mul, Int.natAbs_natCast, Nat.mul_comm]; exact Nat.mul_le_mul hd mb
    have a3 := nat_step a1 a2
    have : N.natAbs ≤ (o.num * S.den).natAbs + (m * o.den).natAbs := by rw [← hNN]; exact Int.natAbs_add_le _ _
    exact Nat.le_trans this (by simpa using a3)
  have Db : (o.den * k : Int).natAbs ≤ ht o * 300000 := by
    rw [Int.natAbs_mul, Int.natAbs_natCast]; exact Nat.mul_le_mul hd (by omega)
  have Dn : (o.den * k : Int) ≠ 0 := Int.mul_ne_zero (by omega) (by omega)
  have up : ∀ c d : Nat, c ≤ d → ht o * c ≤ ht o * d := fun c d h => Nat.mul_le_mul_left _ h
  constructor
  · rw [e]
    exact quo_ht Dn (Nat.le_trans Nb (up _ _ (by decide))) (Nat.le_trans Db (up _ _ (by decide)))
  · have e2 : o + (rr L s - rr L j) * w = ((o.num * k + ((row L s).1 - (row L j).1) * N : Int) : Rat) / ((o.den * k : Int) : Rat) := by
      rw [e]
      simp only [Rat.intCast_add, Rat.intCast_mul, Rat.intCast_sub]
      have d2 : (0 : Rat) < ((o.den : Int) : Rat) := by exact_mod_cast o.den_pos
      have dk : (0 : Rat) < (k : Rat) := by exact_mod_cast k0
      have e3 := intR 0 o
      have ho' : ((o.num : Int) : Rat) = o * ((o.den : Int) : Rat) := by grind
      rw [ho']
      generalize ((o.den : Int) : Rat) = z at *
      have hz := Rat.mul_pos d2 dk
      have e4 : (N : Rat) / (z * k) * (z * k) = N := by grind
      generalize (N : Rat) / (z * k) = y at *
      rw [← e4]
      have : o * z * (k : Rat) + (((row L s).1 : Rat) - ((row L j).1 : Rat)) * (y * (z * k)) = (o + (rr L s - rr L j) * y) * (z * k) := by unfold rr; grind
      rw [this, Rat.mul_div_cancel (by grind)]
    rw [e2]
    refine quo_ht Dn ?_ (Nat.le_trans Db (up _ _ (by decide)))
    have a1 : (o.num * k).natAbs ≤ ht o * 300000 := by rw [Int.natAbs_mul]; exact Nat.mul_le_mul hn (by omega)
    have a2 : (((row L s).1 - (row L j).1) * N).natAbs ≤ ht o * (3000100 * 1000) := by
      rw [Int.natAbs_mul, Nat.mul_comm]
      have := Nat.mul_le_mul Nb (show ((row L s).1 - (row L j).1).natAbs ≤ 1000 by omega)
      rw [Nat.mul_assoc] at this
      exact this
    have a3 := nat_step a1 a2
    exact Nat.le_trans (Int.natAbs_add_le _ _) (Nat.le_trans a3 (up _ _ (by decide)))
/-- the first wait comes not long behind a wait that is within -/
theorem fw_near2 (v : Vs L) (l : Least L f) (hS : Sh S) {T : Rat} {s : Nat} {o : Rat} (Il : s < L.length) (IA : Feas f S (rr L s) (o + pp L s) T) {i : Nat} {w : Rat} (hi : s < i) (hl : i < L.length) (hw : firstW L S (rr L s) (o + pp L i) = some w) :
    (∃ p ∈ turns L, w = p.1) ∨ ((∃ t, t < L.length ∧ 0 < S * rr L t - rr L s ∧ w = (o + pp L i - S * pp L t) / (S * rr L t - rr L s)) ∧ w ≤ T + 1000000) := by
  rcases fw_form hw with h | ⟨p, hp, hk, e⟩
  · exact .inl h
  right
  have ht : p.2 < L.length := ((turns_env v).mem p hp).l
  refine ⟨⟨p.2, ht, hk, e⟩, ?_⟩
  obtain ⟨k0, _⟩ := root_int (L := L) (i := i) hS hk e
  -- the slope is a hundredth at least
  have d1 := dposR S
  have hS' := ndenR S
  have ek : ((S.num * (row L p.2).1 - (row L s).1 * S.den : Int) : Rat) = (S * rr L p.2 - rr L s) * ((S.den : Int) : Rat) := by
    rw [Rat.intCast_sub, Rat.intCast_mul, Rat.intCast_mul, hS']; unfold rr; grind
  have k1 : (1 : Rat) ≤ ((S.num * (row L p.2).1 - (row L s).1 * S.den : Int) : Rat) := by exact_mod_cast k0
  have d100 : ((S.den : Int) : Rat) ≤ 100 := by exact_mod_cast hS.d
  rw [ek] at k1
  obtain ⟨q1, _, q2, q3⟩ := l.e T
  have fT := q3 p.2 ht
  unfold Feas at IA
  have hS0 : (0 : Rat) ≤ S := by have := hS.lo; grind
  have h3 : S * f T ≤ S * ln (row L p.2) T := Rat.mul_le_mul_of_nonneg_left fT hS0
  have pi := v.p0 i hl
  have ps := (v.rR Il).2
  have pib : pp L i ≤ 10000 := by
    have h1 : ((row L i).2 : Rat) ≤ ((10000 : Int) : Rat) := Rat.intCast_le_intCast.mpr pi.2
    have h2 : ((10000 : Int) : Rat) = 10000 := rfl
    rw [h2] at h1; exact h1
  have psb : 0 ≤ pp L s := ps
  have hwk : w * (S * rr L p.2 - rr L s) = o + pp L i - S * pp L p.2 := by
    have hne : S * rr L p.2 - rr L s ≠ 0 := by grind
    rw [e, Rat.div_mul_cancel hne]
  have h4 : (w - T) * (S * rr L p.2 - rr L s) ≤ 10000 := by unfold ln rr pp at *; grind
  by_cases hwT : w ≤ T
  · grind
  have hpos : 0 < w - T := by grind
  -- multiply by the parts of S
  have h5 : (w - T) * ((S * rr L p.2 - rr L s) * ((S.den : Int) : Rat)) ≤ 10000 * 100 := by
    have a1 : (w - T) * (S * rr L p.2 - rr L s) * ((S.den : Int) : Rat) ≤ 10000 * ((S.den : Int) : Rat) := Rat.mul_le_mul_of_nonneg_right h4 (Rat.le_of_lt d1)
    grind
  have h6 : (w - T) * 1 ≤ (w - T) * ((S * rr L p.2 - rr L s) * ((S.den : Int) : Rat)) := Rat.mul_le_mul_of_nonneg_left k1 (Rat.le_of_lt hpos)
  grind

/-- the sizes of what leads on -/
structure Fz (L : Rows) (s : Nat) (o b : Rat) : Prop where
  n : 0 ≤ b
  le : b ≤ s * 1000000 + 10000
  ho : ht o ≤ 2 ^ (34 * s)
  hb : ht b ≤ 2 ^ (34 * s + 22)
  ex : ∃ (q : Nat) (p : Rat), q ≤ s ∧ ht p ≤ 2 ^ (34 * q) ∧ o = p + (rr L q - rr L s) * b ∧ ∀ i, s < i → i < L.length → ht (p + (rr L q - rr L i) * b) ≤ ht p * 2 ^ 34
theorem pw_le {a b : Nat} (h : a ≤ b) : 2 ^ a ≤ 2 ^ b := Nat.pow_le_pow_right (by decide) h
theorem Fz.start (v : Vs L) {s : Nat} {o b : Rat} (hs : s < L.length) (ho : ht o ≤ 2 ^ (34 * s)) (h0 : 0 ≤ b) (h1 : b ≤ 10000) (hb : ht b ≤ 2 ^ 22) : Fz L s o b := by
  have hss : (0 : Rat) ≤ ((s : Nat) : Rat) := by exact_mod_cast Nat.zero_le s
  refine ⟨h0, by grind, ho, Nat.le_trans hb (pw_le (by omega)), s, o, Nat.le_refl _, ho, by grind, fun i h1 h2 => (ht_turn v hs h2 hb).2⟩
theorem Fz.step (v : Vs L) (l : Least L f) (hS : Sh S) (ht0 : ∀ p ∈ turns L, ht p.1 ≤ 2 ^ 22 ∧ p.1 ≤ 10000) {s : Nat} {o b : Rat} (F : Fz L s o b) (hs : s < L.length) (hF : Feas f S (rr L s) (o + pp L s) b) {i : Nat} {w : Rat} (hi : s < i) (hl : i < L.length) (hw : nxtW L f S (rr L s) (o + pp L i) b = some w) : Fz L i (o + (rr L s - rr L i) * w) w := by
  obtain ⟨w1, w2, w3⟩ := nxtW_some v l F.n hw
  have hsi : ((s : Nat) : Rat) + 1 ≤ ((i : Nat) : Rat) := by exact_mod_cast hi
  have hss : (0 : Rat) ≤ ((s : Nat) : Rat) := by exact_mod_cast Nat.zero_le s
  by_cases hwb : w = b
  · subst hwb
    obtain ⟨q, p, q1, q2, q3, q4⟩ := F.ex
    have e : o + (rr L s - rr L i) * w = p + (rr L q - rr L i) * w := by rw [q3]; grind
    refine ⟨F.n, by have := F.le; grind, ?_, Nat.le_trans F.hb (pw_le (by omega)), q, p, by omega, q2, e, fun j h1 h2 => q4 j (by omega) h2⟩
    rw [e]
    have a1 := q4 i hi hl
    have a2 : ht p * 2 ^ 34 ≤ 2 ^ (34 * q) * 2 ^ 34 := Nat.mul_le_mul_right _ q2
    rw [← Nat.pow_add] at a2
    exact Nat.le_trans a1 (Nat.le_trans a2 (pw_le (by omega)))
  · rcases w3 with w3 | w3
    · exact absurd w3 hwb
    have a2 : ht o * 2 ^ 34 ≤ 2 ^ (34 * s) * 2 ^ 34 := Nat.mul_le_mul_right _ F.ho
    have a3 : ht o * 2 ^ 23 ≤ 2 ^ (34 * s) * 2 ^ 23 := Nat.mul_le_mul_right _ F.ho
    rw [← Nat.pow_add] at a2 a3
    rcases fw_near2 v l hS hs hF hi hl w3 with ⟨p, hp, e1⟩ | ⟨⟨t, q1, q2, q3⟩, q4⟩
    · obtain ⟨b1, b2⟩ := ht0 p hp
      rw [← e1] at b1 b2
      refine ⟨Rat.le_trans F.n w1, by grind, Nat.le_trans (ht_turn v hs hl b1).2 (Nat.le_trans a2 (pw_le (by omega))), Nat.le_trans b1 (pw_le (by omega)), s, o, by omega, F.ho, rfl, fun j h1 h2 => (ht_turn v hs h2 b1).2⟩
    · have k := fun j (hj : j < L.length) => ht_root2 v hS (s := s) (i := i) (j := j) (t := t) hs hl hj q1 q2 q3
      refine ⟨Rat.le_trans F.n w1, by have := F.le; grind, Nat.le_trans (k i hl).2 (Nat.le_trans a2 (pw_le (by omega))), Nat.le_trans (k i hl).1 (Nat.le_trans a3 (pw_le (by omega))), s, o, by omega, F.ho, rfl, fun j h1 h2 => (k j h2).2⟩
theorem bz_of_ht {r : Rat} {k : Nat} (h : ht r ≤ 2 ^ k) : bz r ≤ k := bz_le (Nat.lt_of_le_of_lt h (Nat.pow_lt_pow_right (by decide) (by omega)))
theorem Fz.bz (v : Vs L) {s : Nat} {o b : Rat} (F : Fz L s o b) (hs : s < L.length) : bz o ≤ 170 ∧ bz b ≤ 192 ∧ b ≤ 10 ^ 15 := by
  have hhi := v.hi
  refine ⟨Nat.le_trans (bz_of_ht F.ho) (by omega), Nat.le_trans (bz_of_ht F.hb) (by omega), ?_⟩
  have hss : ((s : Nat) : Rat) ≤ 6 := by exact_mod_cast (show s ≤ 6 by omega)
  have := F.le
  grind
/-! ### the least of what is there -/
def minF {α : Type} (b c : Option (α × Rat)) : Option (α × Rat) := match c with
  | none => b
  | some x => match b with
    | none => some x
    | some y => if x.2 < y.2 then some x else some y
def candT (L : Rows) (f : Rat → Rat) (S w : Rat) (s : Nat) : Option (List (Rat × Nat) × Rat) := match (ents L S).getD s none with
  | none => none
  | some (e0, e1, _) => if (s = 0 ∨ e0 < w) ∧ 0 ≤ S * f w - (e1 + pp L s + rr L s * w) then (match furF L f S 6 s e1 w with
      | none => none
      | some r => some (mv (ents L S) L.length s ++ r, e1 + pp L s + rr L s * w)) else none
def trustW (L : Rows) (f : Rat → Rat) (S w : Rat) : Option (List (Rat × Nat) × Rat) := ((List.range' 0 L.length).map (candT L f S w)).foldl minF none
theorem Chk.split {w : Rat} : ∀ {pl : List (Rat × Nat)} {T : Rat} {s : Nat} {o : Rat} {s' : Nat} {o' : Rat}, Chk L f S T s o pl s' o' → ∃ a r s1 o1, pl = a ++ r ∧ Chk L f S T s o a s1 o1 ∧ Chk L f S (lastT T a) s1 o1 r s' o' ∧ (∀ p ∈ a, p.1 < w) ∧ ∀ p ∈ r, w ≤ p.1
  | [], T, s, o, s', o', h => ⟨[], [], s, o, rfl, ⟨rfl, rfl⟩, h, fun p hp => absurd hp (by simp), fun p hp => absurd hp (by simp)⟩
  | (c, i) :: q, T, s, o, s', o', h => by
    by_cases hc : c < w
    · obtain ⟨a1, a2, a3, a4, a5⟩ := h
      obtain ⟨a, r, s1, o1, e1, e2, e3, e4, e5⟩ := Chk.split (w := w) a5
      refine ⟨(c, i) :: a, r, s1, o1, by rw [e1]; rfl, ⟨a1, a2, a3, a4, e2⟩, e3, fun p hp => ?_, e5⟩
      rcases List.mem_cons.mp hp with rfl | hp
      · exact hc
      · exact e4 p hp
    · refine ⟨[], (c, i) :: q, s, o, rfl, ⟨rfl, rfl⟩, h, fun p hp => absurd hp (by simp), fun p hp => ?_⟩
      have h2 := h.2.2.2.2.le_last.2
      rcases List.mem_cons.mp hp with rfl | hp
      · grind
      · have := (h2 p hp).1; grind
end
end Lw

set_option Elab.async false
set_option linter.all false
set_option maxRecDepth 100000
set_option maxHeartbeats 2000000
/-! guessing.py -/
namespace Lw
open PySem PySem.Spec PyProof.Rows L2 Py
variable {tbl : List (Nat × FD)} {n : Nat} {S : Sto}
end Lw

set_option Elab.async false
set_option linter.all false
set_option maxRecDepth 100000
set_option maxHeartbeats 2000000
/-! guessing.py: further, trusting -/
namespace Lw
open PySem PySem.Spec PyProof.Rows L2 Py
variable {tbl : List (Nat × FD)} {n : Nat} {S : Sto}
end Lw

set_option Elab.async false
set_option linter.all false
set_option maxRecDepth 100000
set_option maxHeartbeats 2000000
/-! guessing.py: trusting -/
namespace Lw
open PySem PySem.Spec PyProof.Rows L2 Py
variable {tbl : List (Nat × FD)} {n : Nat} {S : Sto}
abbrev Tr := Option (List (Rat × Nat) × Rat)
def trD : Tr → Py.D
  | none => .non
  | some (pl, c) => .tup [.tup (pl.map T2), Q c]
/-- a wait that is not great -/
structure Ws (w : Rat) : Prop where
  n : 0 ≤ w
  m : w ≤ 10000
  b : bz w ≤ 20
theorem Wt.ws {w : Rat} (h : Wt w) : Ws w := ⟨h.n, by have := h.m; grind, h.b⟩
theorem Ws.ht {w : Rat} (h : Ws w) : Lw.ht w ≤ 2 ^ 22 := Nat.le_of_lt (Nat.lt_of_lt_of_le (ht_lt w) (Nat.pow_le_pow_right (by omega) (by have := h.b; omega)))
end Lw

set_option Elab.async false
set_option linter.all false
set_option maxRecDepth 100000
set_option maxHeartbeats 2000000
/-! law k17 -/
namespace Lw
open PySem PySem.Spec PyProof.Rows L2 Py
variable {tbl : List (Nat × FD)} {n : Nat} {S : Sto}
structure TrF (L : Rows) (s w : Rat) (pl : List (Rat × Nat)) (c : Rat) : Prop where
  p : PlanOk L 192 0 0 pl
  e : c = costP L pl w false
  l : lst L w ≤ c
  b : bz c ≤ 400
  x : ∃ x o, shareP L pl = some (x, o) ∧ lshareP L pl = some (x, o.isSome) ∧ ShF L pl x o ∧ x ≤ s
end Lw

set_option Elab.async false
set_option linter.all false
set_option maxRecDepth 100000
set_option maxHeartbeats 2000000
/-! plans on a grid (laws k15, k16) -/
namespace Lw
open PySem PySem.Spec PyProof.Rows L2 Py
variable {tbl : List (Nat × FD)} {n : Nat} {S : Sto}
/-! ### equality of plain data -/
def Pd (k : Nat) (d : Py.D) (x : PyData) : Prop := d.py = some x ∧ x.canLay0 = true ∧ x.depth ≤ k
theorem Pd_int (k : Nat) (i : Int) : Pd k (.int i) (.int i) := ⟨rfl, rfl, Nat.zero_le _⟩
theorem Pd_list {k : Nat} : ∀ {ds : List Py.D} {xs : List PyData}, ds.length = xs.length → (∀ p ∈ ds.zip xs, Pd k p.1 p.2) → D.pys ds = some xs ∧ PyData.canLayAll0 xs = true ∧ PyData.depthAll xs ≤ k
  | [], [], _, _ => ⟨rfl, rfl, Nat.zero_le _⟩
  | d :: ds, x :: xs, hl, h => by
    obtain ⟨a, b, c⟩ : Pd k d x := h (d, x) (by simp)
    obtain ⟨a', b', c'⟩ := Pd_list (ds := ds) (xs := xs) (by simpa using hl) (fun p hp => h p (by rw [List.zip_cons_cons]; exact List.mem_cons_of_mem _ hp))
    refine ⟨by rw [D.pys, a, a'], by rw [PyData.canLayAll0, b, b']; rfl, by rw [PyData.depthAll]; exact Nat.max_le.mpr ⟨c, c'⟩⟩
  | [], _ :: _, hl, _ => by simp at hl
  | _ :: _, [], hl, _ => by simp at hl
theorem Pd_lst {k : Nat} {ds : List Py.D} {xs : List PyData} (hl : ds.length = xs.length) (h : ∀ p ∈ ds.zip xs, Pd k p.1 p.2) : Pd (k + 1) (.lst ds) (.list xs) := by
  obtain ⟨a, b, c⟩ := Pd_list hl h
  exact ⟨by rw [D.py, a]; rfl, by rw [PyData.canLay0]; exact b, by rw [PyData.depth]; omega⟩
theorem Pd_map {X : Type} {k : Nat} {g : X → Py.D} {f : X → PyData} {l : List X} (h : ∀ x ∈ l, Pd k (g x) (f x)) : (l.map g).length = (l.map f).length ∧ ∀ p ∈ (l.map g).zip (l.map f), Pd k p.1 p.2 := by
  refine ⟨by simp, fun p hp => ?_⟩
  induction l with
  | nil => simp at hp
  | cons x l ih =>
    rw [List.map_cons, List.map_cons, List.zip_cons_cons] at hp
    rcases List.mem_cons.mp hp with rfl | hp
    · exact h x (List.mem_cons_self ..)
    · exact ih (fun y hy => h y (List.mem_cons_of_mem _ hy)) hp
theorem eqD_Pd {a b : Py.D} {x y : PyData} {k : Nat} (hk : k ≤ 64) (ha : Pd k (deref S a) x) (hb : Pd k (deref S b) y) : eqD S a b = some (PyData.eqv x y) := by
  unfold eqD
  rw [ha.1, hb.1]
  have h1 : SeqAt.shaped x = true := by
    show (x.canLay0 && decide (x.depth ≤ 64)) = true
    rw [ha.2.1, decide_eq_true (Nat.le_trans ha.2.2 hk)]; rfl
  have h2 : SeqAt.shaped y = true := by
    show (y.canLay0 && decide (y.depth ≤ 64)) = true
    rw [hb.2.1, decide_eq_true (Nat.le_trans hb.2.2 hk)]; rfl
  dsimp only
  rw [h1, h2]; rfl
/-! ### the mathematics -/
abbrev GM := List (Int × Nat)
def G2 (p : Int × Nat) : Py.D := .tup [.int p.1, .int (p.2 : Int)]
def gD (ms : GM) : Py.D := .tup (ms.map G2)
def GOk (m : Nat) (z : Int) : Int → Nat → GM → Prop
  | _, _, [] => True
  | a, s, (b, i) :: r => a ≤ b ∧ b ≤ z ∧ s < i ∧ i < m ∧ GOk m z b i r
def gp (by_ : Int) (ms : GM) : List (Rat × Nat) := ms.map fun p => ((p.1 : Rat) / (by_ : Rat), p.2)
def gnum (a b : Int) (q : Int × Int) : Int := q.1 * a + q.2 * b
def gmin (L : Rows) (a b : Int) : Int := (minL (L.map (gnum a b))).getD 0
def gw (L : Rows) (by_ ov un : Int) : Int → Int → Nat → GM → Bool
  | _, _, s, [] => decide (un * (row L s).1 ≤ ov * (row L (L.length - 1)).1)
  | paid, here, s, (a, i) :: r =>
    if un * (paid + (row L s).1 * (a - here) + (row L s).2 * by_) > ov * gmin L a by_ ∨ un * (paid + (row L s).1 * (a - here) + (row L i).2 * by_) > ov * gmin L a by_ then false
    else gw L by_ ov un (paid + (row L s).1 * (a - here)) a i r
/-! ### what a wait costs by moves of the grid -/
def gcF (L : Rows) (z : Int) (t : Int × Int × Nat) (p : Int × Nat) : Int × Int × Nat := if p.1 < z then (t.1 + (row L t.2.2).1 * (p.1 - t.2.1), p.1, p.2) else t
def gcost (L : Rows) (by_ z : Int) (ms : GM) : Int := 
  let t := ms.foldl (gcF L z) (0, 0, 0)
  t.1 + (row L t.2.2).1 * (z - t.2.1) + (row L t.2.2).2 * by_
end Lw

set_option Elab.async false
set_option linter.all false
set_option maxRecDepth 100000
set_option maxHeartbeats 2000000
/-! texts (laws k10, k11): words, numbers in words -/
namespace Lw
open PySem PySem.Spec PyProof.Rows L2 Py TL
variable {tbl : List (Nat × FD)} {n : Nat} {S : Sto}
/-- signs below 128 -/
def Ac (w : Str) : Prop := ∀ c ∈ tl w, c < 128
theorem Ac.ok {w : Str} (h : Ac w) : PyData.strOk w = true := by
  unfold PyData.strOk
  rw [← Array.all_toList, List.all_eq_true]
  intro c hc
  have := h c hc
  exact decide_eq_true (by omega)
theorem Ac.sh {w : Str} (h : Ac w) : SeqAt.shaped (.str w) = true := by
  unfold SeqAt.shaped PyData.canLay0 PyData.depth
  rw [h.ok]; rfl
theorem Ac.pd {w : Str} (h : Ac w) (k : Nat) : Pd k (.str w) (.str w) := ⟨rfl, by unfold PyData.canLay0; exact h.ok, Nat.zero_le _⟩
theorem str_beq (a b : Str) : (a == b) = decide (a = b) := by
  by_cases h : a = b
  · rw [decide_eq_true h, h]; exact beq_self_eq_true _
  · rw [decide_eq_false h]; exact beq_eq_false_iff_ne.mpr h
theorem eqD_asc {a b : Str} (ha : Ac a) (hb : Ac b) : eqD S (.str a) (.str b) = some (decide (a = b)) := by
  rw [← str_beq]
  show (if SeqAt.shaped (.str a) && SeqAt.shaped (.str b) then some (PyData.eqv (.str a) (.str b)) else none) = _
  rw [ha.sh, hb.sh]; rfl
theorem len_eq (w : Str) : w.length = (tl w).length := len_tl w
/-! ### digits -/
def dig (c : Nat) : Bool := decide (48 ≤ c ∧ c ≤ 57)
abbrev tens : Str := "0123456789"
theorem tl_tens : tl tens = [48, 49, 50, 51, 52, 53, 54, 55, 56, 57] := by decide +kernel
theorem in_tens (c : Nat) : inD S (.str ⟨#[c]⟩) (.str tens) = some (dig c) := by
  show some (!(Builtin.Str.occurrences tens ⟨#[c]⟩ 0 tens.length 1).isEmpty) = _
  rw [StrLaws.found_one]
  congr 1
  unfold dig
  refine decide_eq_decide.mpr ?_
  rw [show tens.cps.toList = [48, 49, 50, 51, 52, 53, 54, 55, 56, 57] from tl_tens]
  simp only [List.mem_cons, List.not_mem_nil, or_false]
  omega
theorem digs_iff (l : List Nat) : l.all dig = true ↔ NumText.AllDigits l := by
  rw [List.all_eq_true]
  exact ⟨fun h c hc => of_decide_eq_true (h c hc), fun h c hc => decide_eq_true (h c hc)⟩
theorem val_snoc (l : List Nat) (d : Nat) : NumText.digitsVal (l ++ [d]) = NumText.digitsVal l * 10 + (d - 48) := by
  unfold NumText.digitsVal
  rw [List.foldl_append]; rfl
theorem numL_head : ∀ (n : Nat), 0 < n → ∀ c r, numL n = c :: r → c ≠ 48 := by
  intro n
  induction n using Nat.strongRecOn with
  | _ n ih =>
    intro h0 c r e
    by_cases h : n < 10
    · rw [numL_lt h] at e
      injection e with e1 _
      omega
    · rw [numL_step (by omega)] at e
      cases e2 : numL (n / 10) with
      | nil => exact absurd e2 (numL_ne _)
      | cons c' r' =>
        rw [e2] at e
        have e : c' :: (r' ++ [48 + n % 10]) = c :: r := e
        injection e with e1 _
        subst e1
        exact ih (n / 10) (by omega) (by omega) _ _ e2
/-- a number without noughts ahead -/
theorem numL_back : ∀ (k : Nat) (l : List Nat), l.length = k → NumText.AllDigits l → l ≠ [] → (l = [48] ∨ l.head? ≠ some 48) → numL (NumText.digitsVal l) = l := by
  intro k
  induction k with
  | zero => intro l hl _ h; exact absurd (List.length_eq_zero_iff.mp hl) h
  | succ k ih =>
    intro l hl hd h0 hh
    obtain ⟨l', d, rfl⟩ : ∃ l' d, l = l' ++ [d] := ⟨l.dropLast, l.getLast h0, (List.dropLast_concat_getLast h0).symm⟩
    have hdd := hd d (by simp)
    rw [val_snoc]
    by_cases he : l' = []
    · subst he
      have : NumText.digitsVal [] = 0 := rfl
      rw [this, numL_lt (by omega)]
      show [48 + (0 * 10 + (d - 48))] = [d]
      congr 1; omega
    · have hh' : l'.head? ≠ some 48 := by
        rcases hh with hh | hh
        · exfalso
          have hq : l'.length + 1 = 1 := by have := congrArg List.length hh; simpa using this
          have h2 : 0 < l'.length := List.length_pos_iff.mpr he
          omega
        · cases l' with
          | nil => exact absurd rfl he
          | cons a r => simpa using hh
      have i := ih l' (by simpa using hl) (fun c hc => hd c (List.mem_append_left _ hc)) he (.inr hh')
      have hv : 0 < NumText.digitsVal l' := by
        rcases Nat.eq_zero_or_pos (NumText.digitsVal l') with z | z
        · exfalso
          rw [z, numL_lt (by omega)] at i
          rw [← i] at hh'
          exact hh' rfl
        · exact z
      rw [numL_step (by omega)]
      have e1 : (NumText.digitsVal l' * 10 + (d - 48)) / 10 = NumText.digitsVal l' := by omega
      have e2 : 48 + (NumText.digitsVal l' * 10 + (d - 48)) % 10 = d := by omega
      rw [e1, e2, i]
theorem numL_iff {l : List Nat} (hd : NumText.AllDigits l) (h0 : l ≠ []) : numL (NumText.digitsVal l) = l ↔ (l = [48] ∨ l.head? ≠ some 48) := by
  refine ⟨fun h => ?_, numL_back _ l rfl hd h0⟩
  rcases Nat.eq_zero_or_pos (NumText.digitsVal l) with z | z
  · left
    rw [z, numL_lt (by omega)] at h
    exact h.symm
  · right
    cases l with
    | nil => exact absurd rfl h0
    | cons c r =>
      have := numL_head _ z c r h
      simpa using this
/-- the value of a word -/
abbrev wv (w : Str) : Nat := NumText.digitsVal (tl w)
/-- a word that is a number between two -/
def numOk (w : Str) (lo hi : Int) : Bool := decide (1 ≤ w.length ∧ w.length ≤ 7) && (tl w).all dig && decide (numL (wv w) = tl w) && decide (lo ≤ (wv w : Int) ∧ (wv w : Int) ≤ hi)
theorem ist_ok {w : Str} (h1 : 1 ≤ w.length) (h7 : w.length ≤ 7) (hd : (tl w).all dig = true) : istD (.str w) = some (.int (wv w)) := by
  have e := intText_digits (x := w) ((digs_iff _).mp hd) (by intro z; rw [len_eq] at h1; have : tl w = [] := z; rw [this] at h1; simp at h1) (by omega)
  show (if w.length ≤ 640 then (PySem.intText? w).map Py.D.int else none) = _
  rw [if_pos (by omega)]
  rw [e]; rfl
/-- a number as a text -/
def numT (m : Nat) : Str := Str.ofString (toString (m : Int))
theorem tl_numT (m : Nat) : tl (numT m) = numL m := tl_num m
theorem sti_ok (m : Nat) (h : m < 10 ^ 7) : stiD (.int (m : Int)) = some (.str (numT m)) := by
  have : m.log2 < 30 := by
    rcases Nat.eq_zero_or_pos m with z | z
    · rw [z]; decide
    · exact (Nat.log2_lt (by omega)).mpr (Nat.lt_of_lt_of_le h (by decide))
  unfold stiD
  dsimp only
  rw [if_pos (by rw [Int.natAbs_natCast]; omega)]
  rfl
theorem num_asc (m : Nat) : Ac (numT m) := fun c hc => by
  rw [tl_numT] at hc
  have := numL_digits m c hc
  omega
theorem wv_lt {w : Str} (h7 : w.length ≤ 7) (hd : (tl w).all dig = true) : wv w < 10 ^ 7 := by
  have key : ∀ (l : List Nat) (a : Nat), NumText.AllDigits l → l.foldl (fun acc c => acc * 10 + (c - 48)) a < (a + 1) * 10 ^ l.length := by
    intro l
    induction l with
    | nil => intro a _; simp
    | cons c r ih =>
      intro a h
      have hc := h c (List.mem_cons_self ..)
      have := ih (a * 10 + (c - 48)) (fun x hx => h x (List.mem_cons_of_mem _ hx))
      rw [List.foldl_cons, List.length_cons, Nat.pow_succ]
      refine Nat.lt_of_lt_of_le this ?_
      rw [Nat.mul_comm (10 ^ r.length) 10, ← Nat.mul_assoc]
      exact Nat.mul_le_mul_right _ (by omega)
  have h := key (tl w) 0 ((digs_iff _).mp hd)
  have e : wv w = (tl w).foldl (fun acc c => acc * 10 + (c - 48)) 0 := rfl
  rw [e]
  refine Nat.lt_of_lt_of_le h ?_
  rw [Nat.zero_add, Nat.one_mul]
  exact Nat.pow_le_pow_right (by omega) (by rw [← len_eq]; exact h7)
theorem ne_word {w : Str} (ha : Ac w) : eqD S (.str (numT (wv w))) (.str w) = some (decide (numL (wv w) = tl w)) := by
  rw [eqD_asc (num_asc _) ha]
  congr 1
  refine decide_eq_decide.mpr ⟨fun h => by rw [← tl_numT, h], fun h => ext_tl (by rw [tl_numT]; exact h)⟩
theorem bools_map : ∀ bs : List Bool, boolsD (bs.map .bl) = some bs
  | [] => rfl
  | b :: bs => by rw [List.map_cons, boolsD, bools_map bs]; rfl
theorem all_txt {Φ : Fns} {δ : Env} {i v : Nat} {w : Str} {e : Py.Tm} (hw : w.length ≤ 9000) (h1 : ev Φ (.var i) δ S = .ok (.str w) S) (hv : v < δ.length) (he : ∀ c, compB Φ [v] (.nm v) .nil e δ (.str ⟨#[c]⟩) S = .ok (some (.bl (dig c))) S) :
    ev Φ (.bi .all (.cons (.comp false [v] (.nm v) (.txt (.var i)) .nil e) .nil)) δ S = .ok (.bl ((tl w).all dig)) S := by
  have ec := comp_map (S := S) (S1 := S) (Φ := Φ) (vs := [v]) (t := .nm v) (w := .txt (.var i)) (c := .nil) (e := e) (δ := δ) (xs := (tl w).map fun c => .str ⟨#[c]⟩) (c' := []) (l := tl w) (fun c : Nat => Py.D.str ⟨#[c]⟩) (fun c => .bl (dig c))
    (by rw [evI, h1, R.bind_ok]; rfl) rfl (fun c _ => he c) (by rw [← len_eq]; exact hw)
  rw [ev, evs, ec, R.bind_ok, evs, R.bind_ok, R.bind_ok]
  have : ((tl w).map fun c => Py.D.bl (dig c)) = ((tl w).map dig).map Py.D.bl := by rw [List.map_map]; rfl
  rw [this]
  show R.lift ((lseqD S (.lst (((tl w).map dig).map .bl))).bind fun ds => (boolsD ds).map fun bs => Py.D.bl (bs.all id)) S = _
  rw [show lseqD S (.lst (((tl w).map dig).map .bl)) = some (((tl w).map dig).map .bl) from rfl, Option.bind_some, bools_map, Option.map_some, R.lift_some, List.all_map]
  rfl
/-- what is told of a text that is none -/
def exT (l k : Int) : Ex := ⟨"InvalidText", ["word", "line"], [.int k, .int l]⟩
/-- a word or nothing -/
abbrev wd (ws : List Str) (at_ : Nat) : Str := ws.getD at_ ""
theorem asc_nil : Ac "" := fun c hc => by
  have : tl ("" : Str) = [] := by decide +kernel
  rw [this] at hc; simp at hc
theorem run_exc {Φ : Fns} {fd : FD} {ds : List Py.D} {S S' : Sto} {e : Ex} {δ' : Env} {r : R Py.D} (h : ds.length = fd.np) (hb : evSs Φ fd.body (ds.map some ++ List.replicate (fd.ns - fd.np) none) S = .exc e δ' S') (hc : cutX S.length e S' = r) : runF Φ fd ds S = r := by
  rw [runF, if_pos h, hb]; exact hc
theorem cutX_s80 (k : Nat) (e : Ex) (S : Sto) (h : S.length ≤ k) : cutX k e S = .exc e S := by unfold cutX; rw [if_pos h]
theorem number_in_ok [K109 tbl] {ws : List Str} {at_ : Nat} {lo hi l : Int} (hws : ws.length ≤ 10000) (ha : ∀ w ∈ ws, Ac w ∧ w.length ≤ 9000) :
    Phi tbl (n + 1) 109 [.lst (ws.map .str), .int at_, .int lo, .int hi, .int l] S = if numOk (wd ws at_) lo hi then .ok (.int (wv (wd ws at_))) S else .exc (exT l (at_ + 1)) S := by
  have hw : Ac (wd ws at_) ∧ (wd ws at_).length ≤ 9000 := by
    by_cases h : at_ < ws.length
    · have : wd ws at_ = ws[at_] := by simp [wd, List.getD, h]
      rw [this]; exact ha _ (List.getElem_mem h)
    · have : wd ws at_ = "" := by simp [wd, List.getD, List.getElem?_eq_none (Nat.le_of_not_lt h)]
      rw [this]; exact ⟨asc_nil, by decide +kernel⟩
  generalize hW : wd ws at_ = W at hw
  obtain ⟨hA, hL⟩ := hw
  have e0 : ∀ (δ : Env), evS (Phi tbl n) (.asg (.nm 5) (.ite (.cmp .lt (.var 1) (.bi .len (.cons (.var 0) .nil))) (.ix (.var 0) (.var 1)) (.con (.str "")))) [some (.lst (ws.map .str)), some (.int at_), some (.int lo), some (.int hi), some (.int l), none, none] S
      = .nxt [some (.lst (ws.map .str)), some (.int at_), some (.int lo), some (.int hi), some (.int l), some (.str W), none] S := fun _ => by
    by_cases h : at_ < ws.length
    · have e2 : ws[at_] = W := by rw [← hW]; simp [wd, List.getD, h]
      refine asg_eq (d := .str W) (S' := S) ?_ (by simp)
      simp [h, ixN_nat h, e2]
    · have e2 : W = "" := by rw [← hW]; simp [wd, List.getD, List.getElem?_eq_none (Nat.le_of_not_lt h)]
      refine asg_eq (d := .str W) (S' := S) ?_ (by simp)
      simp [h, e2]
  have e1 := all_txt (S := S) (Φ := Phi tbl n) (δ := [some (.lst (ws.map .str)), some (.int at_), some (.int lo), some (.int hi), some (.int l), some (.str W), none]) (i := 5) (v := 6) (w := W) (e := ce109_0) hL (by simp) (by simp) (fun c => by
    simp [compB, wipeE, ce109_0, in_tens])
  let δ1 : Env := [some (.lst (ws.map .str)), some (.int at_), some (.int lo), some (.int hi), some (.int l), some (.str W), none]
  have hL2 : W.length ≤ 10000 := by omega
  have c2 : evT (Phi tbl n) (.or (.not (.cha .le .le (.con (.int 1)) (.bi .len (.cons (.var 5) .nil)) (.gco "MOST_FIGURES" (.int 7)))) (.not (.bi .all (.cons (.comp false [6] (.nm 6) (.txt (.var 5)) .nil ce109_0) .nil)))) δ1 S = .ok (!(decide (1 ≤ W.length ∧ W.length ≤ 7) && (tl W).all dig)) S := by
    have e1' : ev (Phi tbl n) (.not (.bi .all (.cons (.comp false [6] (.nm 6) (.txt (.var 5)) .nil ce109_0) .nil))) δ1 S = .ok (.bl (!(tl W).all dig)) S := by
      rw [ev, e1]; rfl
    have e3 : ev (Phi tbl n) (.not (.cha .le .le (.con (.int 1)) (.bi .len (.cons (.var 5) .nil)) (.gco "MOST_FIGURES" (.int 7)))) δ1 S = .ok (.bl (!decide (1 ≤ W.length ∧ W.length ≤ 7))) S := by
      by_cases q1 : 1 ≤ W.length
      · by_cases q7 : W.length ≤ 7
        · have q1' : (1 : Int) ≤ W.length := by omega
          have q7' : (W.length : Int) ≤ 7 := by omega
          simp [δ1, hL2, q1, q7, q1', q7']
        · have q1' : (1 : Int) ≤ W.length := by omega
          have q7' : ¬ (W.length : Int) ≤ 7 := by omega
          simp [δ1, hL2, q1, q7, q1', q7']
      · have q1' : ¬ (1 : Int) ≤ W.length := by omega
        simp [δ1, hL2, q1, q1']
    rw [evT, ev, e3]
    cases hq : decide (1 ≤ W.length ∧ W.length ≤ 7)
    · rfl
    · rw [R.bind_ok, show truthD (.bl (!true)) = some false from rfl, R.lift_some, R.bind_ok, if_neg Bool.false_ne_true, e1']
      rfl
  unfold numOk
  rw [phi109]
  cases hc2 : (decide (1 ≤ W.length ∧ W.length ≤ 7) && (tl W).all dig) with
  | false =>
    rw [hc2] at c2
    simp only [Bool.false_and, Bool.false_eq_true, if_false]
    refine run_exc (fd := fd109) (δ' := δ1) (by rfl) (S' := S) ?_ (cutX_s80 _ _ _ (Nat.le_refl _))
    show evSs (Phi tbl n) _ [some (.lst (ws.map .str)), some (.int at_), some (.int lo), some (.int hi), some (.int l), none, none] S = _
    unfold fd109
    rw [evSs_step (e0 []), evSs_cons, ite_eq c2]
    simp [δ1, exT]
  | true =>
    rw [hc2] at c2
    obtain ⟨hq, hd⟩ := Bool.and_eq_true_iff.mp hc2
    obtain ⟨h1, h7⟩ := of_decide_eq_true hq
    have hi1 := ist_ok h1 h7 hd
    have hs := sti_ok _ (wv_lt h7 hd)
    have hn := ne_word (S := S) hA
    have c3 : evT (Phi tbl n) (.or (.cmp .ne (.sti (.ist (.var 5))) (.var 5)) (.not (.cha .le .le (.var 2) (.ist (.var 5)) (.var 3)))) δ1 S = .ok (!(decide (numL (wv W) = tl W) && decide (lo ≤ (wv W : Int) ∧ (wv W : Int) ≤ hi))) S := by
      by_cases q : numL (wv W) = tl W
      · by_cases q1 : lo ≤ (wv W : Int)
        · simp [δ1, hi1, hs, hn, q, q1]
        · simp [δ1, hi1, hs, hn, q, q1]
      · simp [δ1, hi1, hs, hn, q]
    rw [Bool.true_and]
    cases hc3 : (decide (numL (wv W) = tl W) && decide (lo ≤ (wv W : Int) ∧ (wv W : Int) ≤ hi)) with
    | false =>
      rw [hc3] at c3
      simp only [Bool.false_eq_true, if_false]
      refine run_exc (fd := fd109) (δ' := δ1) (by rfl) (S' := S) ?_ (cutX_s80 _ _ _ (Nat.le_refl _))
      show evSs (Phi tbl n) _ [some (.lst (ws.map .str)), some (.int at_), some (.int lo), some (.int hi), some (.int l), none, none] S = _
      unfold fd109
      rw [evSs_step (e0 []), evSs_cons, ite_eq c2]
      show (Out.nxt δ1 S).bind _ = _
      rw [Out.bind_nxt, evSs_cons, ite_eq c3]
      simp [δ1, exT]
    | true =>
      rw [hc3] at c3
      rw [if_pos rfl]
      refine run_ret (fd := fd109) (by rfl) (d := .int (wv W)) (S' := S) ?_ (by simp [fd109])
      show evSs (Phi tbl n) _ [some (.lst (ws.map .str)), some (.int at_), some (.int lo), some (.int hi), some (.int l), none, none] S = _
      unfold fd109
      rw [evSs_step (e0 []), evSs_step ((ite_eq c2).trans (by rfl)), evSs_step ((ite_eq c3).trans (by rfl))]
      simp [δ1, hi1]
theorem word0 {W : Str} (h1 : 1 ≤ W.length) : ∃ c r, tl W = c :: r := by
  cases e : tl W with
  | nil => rw [len_eq, e] at h1; simp at h1
  | cons c r => exact ⟨c, r, rfl⟩
theorem asc_zero : Ac "0" := fun c hc => by
  have : tl ("0" : Str) = [48] := by decide +kernel
  rw [this] at hc; simp at hc; omega
theorem law_number_ok [K113 tbl] {W : Str} {lo hi : Int} (hA : Ac W) (hL : W.length ≤ 9000) : Phi tbl (n + 1) 113 [.str W, .int lo, .int hi] S = .ok (.bl (numOk W lo hi)) S := by
  let δ1 : Env := [some (.str W), some (.int lo), some (.int hi), none]
  have hL2 : W.length ≤ 10000 := by omega
  have hnil : (W = "") ↔ ¬ 1 ≤ W.length := by
    rw [len_eq]
    constructor
    · intro e; rw [e]; decide +kernel
    · intro e
      refine ext_tl ?_
      have : tl ("" : Str) = [] := by decide +kernel
      rw [this]
      exact List.length_eq_zero_iff.mp (by omega)
  have e0 := eqD_asc (S := S) hA asc_nil
  have ec := comp_filter (S := S) (S1 := S) (Φ := Phi tbl n) (vs := [3]) (t := .nm 3) (w := .txt (.var 0)) (c := cc113_0) (e := ce113_1) (δ := δ1) (xs := (tl W).map fun c => .str ⟨#[c]⟩) (c' := []) (l := tl W) (fun c : Nat => Py.D.str ⟨#[c]⟩) (fun c => .str ⟨#[c]⟩) (fun c => !dig c)
    (by simp [δ1, txtW]) rfl (fun c _ => by
      have := in_tens (S := S) c
      cases hd : dig c <;> simp [compB, wipeE, cc113_0, ce113_1, this, hd, δ1]) (by rw [← len_eq]; exact hL)
  have hfl : ((tl W).filter fun c => !dig c) = [] ↔ (tl W).all dig = true := by
    rw [List.filter_eq_nil_iff, List.all_eq_true]
    exact ⟨fun h c hc => by have := h c hc; simpa using this, fun h c hc => by rw [h c hc]; decide⟩
  have e3 : eqD S (.lst (((tl W).filter fun c => !dig c).map fun c => Py.D.str ⟨#[c]⟩)) (.lst []) = some ((tl W).all dig) := by
    have P1 : Pd 1 (deref S (.lst (((tl W).filter fun c => !dig c).map fun c => Py.D.str ⟨#[c]⟩))) (.list (((tl W).filter fun c => !dig c).map fun c => PyData.str ⟨#[c]⟩)) := by
      obtain ⟨a, b⟩ := Pd_map (k := 0) (g := fun c => Py.D.str ⟨#[c]⟩) (f := fun c => PyData.str ⟨#[c]⟩) (l := (tl W).filter fun c => !dig c) (fun c hc => by
        have hc := hA c ((List.mem_filter.mp hc).1)
        exact Ac.pd (w := ⟨#[c]⟩) (fun x hx => by
          have : x = c := by simpa [tl] using hx
          omega) 0)
      exact Pd_lst a b
    rw [eqD_Pd (by decide) P1 (y := .list []) ⟨rfl, rfl, by decide⟩]
    congr 1
    cases hd : (tl W).all dig with
    | true => rw [hfl.mpr hd]; rfl
    | false =>
      cases he : ((tl W).filter fun c => !dig c) with
      | nil => rw [hfl.mp he] at hd; cases hd
      | cons a r => rfl
  have c1 : evT (Phi tbl n) (.or (.cmp .eq (.var 0) (.con (.str ""))) (.or (.cmp .gt (.bi .len (.cons (.var 0) .nil)) (.con (.int 7))) (.cmp .ne (.comp false [3] (.nm 3) (.txt (.var 0)) cc113_0 ce113_1) (.lst false .nil)))) δ1 S = .ok (!(decide (1 ≤ W.length ∧ W.length ≤ 7) && (tl W).all dig)) S := by
    by_cases q1 : 1 ≤ W.length
    · have q1' : W ≠ "" := fun e => hnil.mp e q1
      by_cases q7 : W.length ≤ 7
      · have q7' : ¬ (7 : Int) < W.length := by omega
        have ec' : ev (Phi tbl n) (.cmp .ne (.comp false [3] (.nm 3) (.txt (.var 0)) cc113_0 ce113_1) (.lst false .nil)) δ1 S = .ok (.bl (!(tl W).all dig)) S := by
          rw [ev, ec, R.bind_ok]
          simp [e3]
        rw [evT, ev]
        rw [show ev (Phi tbl n) (.cmp .eq (.var 0) (.con (.str ""))) δ1 S = .ok (.bl false) S by simp [δ1, e0, q1'], R.bind_ok, show truthD (.bl false) = some false from rfl, R.lift_some, R.bind_ok, if_neg Bool.false_ne_true, ev]
        rw [show ev (Phi tbl n) (.cmp .gt (.bi .len (.cons (.var 0) .nil)) (.con (.int 7))) δ1 S = .ok (.bl false) S by simp [δ1, hL2, q7'], R.bind_ok, show truthD (.bl false) = some false from rfl, R.lift_some, R.bind_ok, if_neg Bool.false_ne_true, ec']
        simp [q1, q7]
      · have q7' : (7 : Int) < W.length := by omega
        simp [δ1, e0, q1', hL2, q7', q7, -Py.ev, Py.ev]
    · have q1' : W = "" := hnil.mpr q1
      have e00 : eqD S (.str "") (.str "") = some true := by rw [eqD_asc asc_nil asc_nil]; simp
      have hz : ¬ 1 ≤ ("" : Str).length := by rw [← q1']; exact q1
      simp [δ1, q1', e00, hz]
  unfold numOk
  rw [phi113]
  refine run_ret (fd := fd113) (by rfl) (d := .bl (decide (1 ≤ W.length ∧ W.length ≤ 7) && (tl W).all dig && decide (numL (wv W) = tl W) && decide (lo ≤ (wv W : Int) ∧ (wv W : Int) ≤ hi))) (S' := S) ?_ (by simp [fd113])
  show evSs (Phi tbl n) _ δ1 S = _
  unfold fd113
  cases hc2 : (decide (1 ≤ W.length ∧ W.length ≤ 7) && (tl W).all dig) with
  | false =>
    rw [hc2] at c1
    rw [evSs_cons, ite_eq c1]
    simp [δ1]
  | true =>
    rw [hc2] at c1
    obtain ⟨hq, hd⟩ := Bool.and_eq_true_iff.mp hc2
    obtain ⟨h1, h7⟩ := of_decide_eq_true hq
    have hi1 := ist_ok h1 h7 hd
    obtain ⟨c, r, hcr⟩ := word0 h1
    have hAD := (digs_iff _).mp hd
    have hiff := numL_iff hAD (by rw [hcr]; simp)
    have hc : c < 128 := hA c (by rw [hcr]; simp)
    have hac : Ac ⟨#[c]⟩ := fun x hx => by
      have : x = c := by simpa [tl] using hx
      omega
    have t0 : tl ("0" : Str) = [48] := by decide +kernel
    have x1 := eqD_asc (S := S) hA asc_zero
    have x2 := eqD_asc (S := S) hac asc_zero
    have y1 : (W = "0") ↔ tl W = [48] := ⟨fun e => by rw [e]; exact t0, fun e => ext_tl (by rw [e, t0])⟩
    have y2 : ((⟨#[c]⟩ : Str) = "0") ↔ c = 48 := ⟨fun e => by have := congrArg tl e; rw [t0] at this; simpa [tl] using this, fun e => ext_tl (by rw [t0, e])⟩
    have gx : ixsD (.str W) (.int 0) = some (.str ⟨#[c]⟩) := by
      have : W.cps[0]? = some c := by
        have : (tl W)[0]? = some c := by rw [hcr]; rfl
        rwa [Array.getElem?_toList] at this
      show (if (0 : Int) ≤ 0 ∧ (0 : Int) < 10000 then (W.cps[(0 : Int).toNat]?).map fun c => Py.D.str ⟨#[c]⟩ else none) = _
      rw [if_pos (by decide), show (0 : Int).toNat = 0 from rfl, this]; rfl
    have hnum : decide (numL (wv W) = tl W) = (decide (W = "0") || !decide ((⟨#[c]⟩ : Str) = "0")) := by
      have hh : (tl W).head? ≠ some 48 ↔ ¬ c = 48 := by rw [hcr]; simp
      by_cases z1 : W = "0"
      · rw [decide_eq_true z1, decide_eq_true (hiff.mpr (.inl (y1.mp z1)))]; rfl
      · rw [decide_eq_false z1, Bool.false_or]
        by_cases z2 : c = 48
        · rw [decide_eq_true (y2.mpr z2), decide_eq_false]
          · rfl
          · intro z
            rcases hiff.mp z with z | z
            · exact z1 (y1.mpr z)
            · exact hh.mp z z2
        · rw [decide_eq_false (fun e => z2 (y2.mp e)), decide_eq_true (hiff.mpr (.inr (hh.mpr z2)))]; rfl
    rw [hnum, Bool.true_and]
    rw [evSs_step ((ite_eq c1).trans (by rfl))]
    have cA : ev (Phi tbl n) (.or (.cmp .eq (.var 0) (.con (.str "0"))) (.cmp .ne (.ixs (.var 0) (.con (.int 0))) (.con (.str "0")))) δ1 S = .ok (.bl (decide (W = "0") || !decide ((⟨#[c]⟩ : Str) = "0"))) S := by
      generalize decide (W = "0") = b1 at x1
      generalize decide ((⟨#[c]⟩ : Str) = "0") = b2 at x2
      cases b1 <;> simp [δ1, x1, x2, gx]
    have cB : ev (Phi tbl n) (.cha .le .le (.var 1) (.ist (.var 0)) (.var 2)) δ1 S = .ok (.bl (decide (lo ≤ (wv W : Int) ∧ (wv W : Int) ≤ hi))) S := by
      by_cases q1 : lo ≤ (wv W : Int) <;> simp [δ1, hi1, q1]
    generalize (decide (W = "0") || !decide ((⟨#[c]⟩ : Str) = "0")) = b1 at cA
    generalize decide (lo ≤ (wv W : Int) ∧ (wv W : Int) ≤ hi) = b2 at cB
    rw [evSs_cons, ret_eq (S' := S) (d := .bl (b1 && b2))]
    · rfl
    · rw [ev, cA, R.bind_ok, show truthD (.bl b1) = some b1 from rfl, R.lift_some, R.bind_ok]
      cases b1
      · rfl
      · rw [if_pos rfl, cB]; cases b2 <;> rfl
end Lw

set_option Elab.async false
set_option linter.all false
set_option maxRecDepth 100000
set_option maxHeartbeats 2000000
/-! texts: lines, words, _law_wrong, _law_due -/
namespace Lw
open PySem PySem.Spec PyProof.Rows L2 Py TL
variable {tbl : List (Nat × FD)} {n : Nat} {S : Sto}
abbrev nl : Str := "\n"
abbrev sp : Str := " "
theorem tl_nl : tl nl = [10] := by decide +kernel
theorem tl_sp : tl sp = [32] := by decide +kernel
/-- a line that may stand: at most B signs -/
structure Ln (B : Nat) (l : Str) : Prop where
  a : Ac l
  n : 10 ∉ tl l
  b : l.length ≤ B
theorem pre32 (c : Nat) (r : List Nat) : pre [32] (c :: r) = decide (c = 32) := by
  unfold pre
  show (List.take 1 (c :: r) == [32]) = _
  rw [show List.take 1 (c :: r) = [c] from rfl]
  by_cases h : c = 32
  · rw [h]; rfl
  · rw [decide_eq_false h]; exact beq_eq_false_iff_ne.mpr fun e => h (by injection e)
theorem spl_mem : ∀ (l acc : List Nat), (∀ p ∈ spl [32] 0 acc l, ∀ c ∈ p, c ∈ acc ∨ c ∈ l) ∧ ((spl [32] 0 acc l).map List.length).sum + (spl [32] 0 acc l).length = acc.length + l.length + 1
  | [], acc => by
    rw [spl_nil]
    exact ⟨fun p hp c hc => .inl (by simp at hp; rw [← hp]; exact hc), by simp⟩
  | c :: r, acc => by
    by_cases h : c = 32
    · rw [spl_hit (by rw [pre32, decide_eq_true h])]
      obtain ⟨h1, h2⟩ := spl_mem r []
      refine ⟨fun p hp x hx => ?_, ?_⟩
      · rcases List.mem_cons.mp hp with rfl | hp
        · exact .inl hx
        · rcases h1 p hp x hx with q | q
          · simp at q
          · exact .inr (List.mem_cons_of_mem _ q)
      · show ((acc :: spl [32] 0 [] r).map List.length).sum + (acc :: spl [32] 0 [] r).length = _
        simp only [List.map_cons, List.sum_cons, List.length_cons, List.length_nil] at h2 ⊢
        omega
    · rw [spl_miss (by rw [pre32, decide_eq_false h])]
      obtain ⟨h1, h2⟩ := spl_mem r (acc ++ [c])
      refine ⟨fun p hp x hx => ?_, ?_⟩
      · rcases h1 p hp x hx with q | q
        · rcases List.mem_append.mp q with q | q
          · exact .inl q
          · exact .inr (by rw [List.mem_singleton.mp q]; exact List.mem_cons_self ..)
        · exact .inr (List.mem_cons_of_mem _ q)
      · rw [List.length_append] at h2
        simp only [List.length_cons, List.length_nil] at h2 ⊢
        omega
theorem split_tl (x : Str) : (Txt.split x sp).map tl = spl [32] 0 [] (tl x) := by
  rw [split_spl x sp (by rw [tl_sp]; simp) (kind_ok (by decide +kernel)), tl_sp]
theorem split_sum (x : Str) : ((Txt.split x sp).map (·.length)).sum + (Txt.split x sp).length = x.length + 1 := by
  have h := (spl_mem (tl x) []).2
  rw [← split_tl] at h
  have e : ((Txt.split x sp).map tl).map List.length = (Txt.split x sp).map (·.length) := by
    rw [List.map_map]; exact List.map_congr_left fun w _ => (len_eq w).symm
  rw [e, List.length_map, ← len_eq] at h
  simpa using h
theorem mem_sum {l : List Nat} {x : Nat} (h : x ∈ l) : x ≤ l.sum := by
  induction l with
  | nil => simp at h
  | cons a r ih =>
    rw [List.sum_cons]
    rcases List.mem_cons.mp h with rfl | h
    · omega
    · have := ih h; omega
/-- the pieces of a line -/
theorem Ln.piece {B : Nat} {l : Str} (h : Ln B l) {p : Str} (hp : p ∈ Txt.split l sp) : Ln B p := by
  have hm : tl p ∈ spl [32] 0 [] (tl l) := by rw [← split_tl]; exact List.mem_map_of_mem hp
  have h1 := (spl_mem (tl l) []).1 _ hm
  have key : ∀ c ∈ tl p, c ∈ tl l := fun c hc => (h1 c hc).resolve_left (by simp)
  refine ⟨fun c hc => h.a c (key c hc), fun hc => h.n (key 10 hc), ?_⟩
  have h2 := split_sum l
  have h3 := mem_sum (List.mem_map_of_mem (f := fun w : Str => w.length) hp)
  have h4 : 1 ≤ (Txt.split l sp).length := by
    cases e : Txt.split l sp with
    | nil => rw [e] at hp; simp at hp
    | cons a b => simp
  have := h.b
  omega
theorem Ln.pieces {B : Nat} {l : Str} (h : Ln B l) : (Txt.split l sp).length ≤ B + 1 := by
  have h2 := split_sum l
  have := h.b
  omega
/-- the words of a line -/
def wds (l : Str) : List Str := (Txt.split l sp).filter fun w => !decide (w = "")
theorem Ln.word {B : Nat} {l : Str} (h : Ln B l) {w : Str} (hw : w ∈ wds l) : Ln B w := h.piece (List.mem_filter.mp hw).1
theorem Ln.words {B : Nat} {l : Str} (h : Ln B l) : (wds l).length ≤ B + 1 := Nat.le_trans (List.length_filter_le _ _) h.pieces
theorem split_ev {Φ : Fns} {δ : Env} {e : Py.Tm} {B : Nat} {l : Str} (hl : Ln B l) (hB : B ≤ 9000) (he : ev Φ e δ S = .ok (.str l) S) : ev Φ (.tsp e (.con (.str " "))) δ S = .ok (.lst ((Txt.split l sp).map .str)) S := by
  have h1 : l.length ≤ 10000 := by have := hl.b; omega
  have h2 : (sp.length == 0) = false := by decide +kernel
  rw [ev, he, R.bind_ok, if_pos (show isStrD (.str l) = true from rfl), ev, R.bind_ok]
  show R.lift (if (sp.length == 0) = false ∧ l.length ≤ 10000 then some (Py.D.lst ((Txt.split l sp).map .str)) else none) S = _
  rw [if_pos ⟨h2, h1⟩]; rfl
/-- [word for word in line.split(" ") if word != ""] -/
theorem words_ev {Φ : Fns} {δ : Env} {e : Py.Tm} {v : Nat} {c : Tms} {e1 : Py.Tm} {B : Nat} {l : Str} (hl : Ln B l) (hB : B ≤ 8000) (he : ev Φ e δ S = .ok (.str l) S) (hv : v < δ.length)
    (hc : ∀ (w : Str) (b : Bool), eqD S (.str w) (.str "") = some b → compB Φ [v] (.nm v) c e1 δ (.str w) S = .ok (if !b then some (.str w) else none) S) :
    ev Φ (.comp false [v] (.nm v) (.val (.tsp e (.con (.str " ")))) c e1) δ S = .ok (.lst ((wds l).map .str)) S := by
  refine comp_filter (S := S) (S1 := S) (xs := (Txt.split l sp).map .str) (c' := (Txt.split l sp).map .str) (l := Txt.split l sp) Py.D.str Py.D.str (fun w => !decide (w = "")) ?_ rfl (fun w hw => ?_) ?_
  · rw [evI, split_ev hl (by omega) he]; rfl
  · exact hc w _ (eqD_asc (hl.piece hw).a asc_nil)
  · have := hl.pieces; omega
theorem stage_asc : Ac "stage" := fun c hc => by
  have : tl ("stage" : Str) = [115, 116, 97, 103, 101] := by decide +kernel
  rw [this] at hc
  simp at hc
  omega
/-- the number of the first wrong word -/
def wrong (k : Nat) (ws : List Str) (R P : Int) : Option Int :=
  if 5 < k ∨ ws.head? ≠ some "stage" then some 1 else
  if numOk (wd ws 1) 0 (R - 1) = false then some 2 else
  if numOk (wd ws 2) (P + 1) (if 0 < k then 10000 else 0) = false then some 3 else
  if 3 < ws.length then some 4 else none
def optI : Option Int → Py.D
  | some i => .int i
  | none => .non
/-- words that may stand -/
def Wok (ws : List Str) : Prop := ws.length ≤ 9000 ∧ ∀ w ∈ ws, Ac w ∧ w.length ≤ 9000
theorem Ln.wok {B : Nat} {l : Str} (h : Ln B l) (hB : B ≤ 8000) : Wok (wds l) :=
  ⟨by have := h.words; omega, fun w hw => ⟨(h.word hw).a, by have := (h.word hw).b; omega⟩⟩
theorem numOk_nil (lo hi : Int) : numOk "" lo hi = false := by
  unfold numOk
  have : ¬ (1 ≤ ("" : Str).length ∧ ("" : Str).length ≤ 7) := by decide +kernel
  rw [decide_eq_false this]; rfl
theorem wd_none {ws : List Str} {i : Nat} (h : ws.length ≤ i) : wd ws i = "" := by simp [wd, List.getD, List.getElem?_eq_none h]
theorem wd_some {ws : List Str} {i : Nat} (h : i < ws.length) : wd ws i = ws[i] := by simp [wd, List.getD, h]
theorem eqD_strs {ws : List Str} (h : Wok ws) : eqD S (.lst (ws.map .str)) (.lst []) = some (decide (ws = [])) := by
  obtain ⟨a, b⟩ := Pd_map (k := 0) (g := Py.D.str) (f := PyData.str) (l := ws) (fun w hw => (h.2 w hw).1.pd 0)
  rw [eqD_Pd (S := S) (a := .lst (ws.map .str)) (b := .lst []) (k := 1) (by omega) (Pd_lst a b) (y := .list []) ⟨rfl, rfl, by simp [PyData.depth, PyData.depthAll]⟩]
  cases ws <;> rfl
theorem law_wrong_ok [K114 tbl] {ws : List Str} {k : Nat} {R P : Int} (h : Wok ws) : Phi tbl (n + 2) 114 [.int k, .lst (ws.map .str), .int R, .int P] S = .ok (optI (wrong k ws R P)) S := by
  rw [phi114]
  have e0 := eqD_strs (S := S) h
  let δ : Env := [some (.int k), some (.lst (ws.map .str)), some (.int R), some (.int P)]
  have hl := h.1
  refine run_ret (fd := fd114) (by rfl) (d := optI (wrong k ws R P)) (S' := S) ?_ (by simp [fd114])
  show evSs (Phi tbl (n + 1)) _ δ S = _
  have c1 : evT (Phi tbl (n + 1)) (.or (.cmp .gt (.var 0) (.con (.int 5))) (.or (.cmp .eq (.var 1) (.lst false .nil)) (.cmp .ne (.ix (.var 1) (.con (.int 0))) (.con (.str "stage"))))) δ S = .ok (decide (5 < k ∨ ws.head? ≠ some "stage")) S := by
    by_cases q : 5 < k
    · have q' : (5 : Int) < k := by omega
      simp [δ, q, q']
    · have q' : ¬ (5 : Int) < k := by omega
      cases ws with
      | nil => simp [δ, q', eqD_nil]
      | cons w r =>
        have e1 : eqD S (.lst (Py.D.str w :: r.map .str)) (.lst []) = some false := by simpa using e0
        have i0 : L2.ixN (r.length + 1) 0 = some 0 := by exact_mod_cast ixN_nat (n := r.length + 1) (i := 0) (by omega)
        have e2 := eqD_asc (S := S) (h.2 w (List.mem_cons_self ..)).1 stage_asc
        by_cases z : w = "stage"
        · have e2' : eqD S (.str "stage") (.str "stage") = some true := by rw [eqD_asc stage_asc stage_asc]; simp
          simp [δ, q, q', e1, i0, z] at *
          simp [e1, e2']
        · have e2' : eqD S (.str w) (.str "stage") = some false := by rw [e2, decide_eq_false z]
          simp [δ, q, q', e1, i0, e2', z]
  have cn : ∀ (i : Nat) (a b : Int) (tl_ th : Py.Tm) (lo hi : Int), a = (i : Int) + 1 → b = (i : Int) → ev (Phi tbl (n + 1)) tl_ δ S = .ok (.int lo) S → ev (Phi tbl (n + 1)) th δ S = .ok (.int hi) S →
      evT (Phi tbl (n + 1)) (.or (.cmp .lt (.bi .len (.cons (.var 1) .nil)) (.con (.int a))) (.not (.call 113 (.cons (.ix (.var 1) (.con (.int b))) (.cons tl_ (.cons th .nil)))))) δ S = .ok (!numOk (wd ws i) lo hi) S := by
    intro i a b tl_ th lo hi ea eb h1 h2
    subst ea eb
    by_cases q : ws.length ≤ i
    · rw [wd_none q, numOk_nil]
      have q' : (ws.length : Int) < (i : Int) + 1 := by omega
      simp [δ, q']
    · have q2 : i < ws.length := by omega
      have q' : ¬ (ws.length : Int) < (i : Int) + 1 := by omega
      obtain ⟨g1, g2⟩ := h.2 ws[i] (List.getElem_mem q2)
      have e := law_number_ok (tbl := tbl) (n := n) (S := S) (W := ws[i]) (lo := lo) (hi := hi) g1 g2
      rw [wd_some q2]
      simp [δ, q', ixN_nat q2, List.getElem?_eq_getElem q2, h1, h2, e]
  have c2 := cn 1 2 1 (.con (.int 0)) (.bin .Sub (.var 2) (.con (.int 1))) 0 (R - 1) (by decide) (by decide) (by simp) (by simp [δ])
  have c3 := cn 2 3 2 (.bin .Add (.var 3) (.con (.int 1))) (.ite (.cmp .gt (.var 0) (.con (.int 0))) (.con (.int 10000)) (.con (.int 0))) (P + 1) (if 0 < k then 10000 else 0) (by decide) (by decide) (by simp [δ]) (by
    by_cases q : 0 < k
    · have q' : (0 : Int) < k := by omega
      simp [δ, q', q]
    · have q' : ¬ (0 : Int) < k := by omega
      have : k = 0 := by omega
      simp [δ, this])
  unfold wrong fd114
  by_cases z1 : 5 < k ∨ ws.head? ≠ some "stage"
  · rw [decide_eq_true z1] at c1
    rw [if_pos z1, evSs_cons, ite_eq c1]; simp [optI]
  · rw [decide_eq_false z1] at c1
    rw [if_neg z1, evSs_step ((ite_eq c1).trans (by rfl))]
    cases z2 : numOk (wd ws 1) 0 (R - 1) with
    | false =>
      rw [z2] at c2
      rw [if_pos rfl, evSs_cons, ite_eq c2]; simp [optI]
    | true =>
      rw [z2] at c2
      rw [if_neg (by decide), evSs_step ((ite_eq c2).trans (by rfl))]
      cases z3 : numOk (wd ws 2) (P + 1) (if 0 < k then 10000 else 0) with
      | false =>
        rw [z3] at c3
        rw [if_pos rfl, evSs_cons, ite_eq c3]; simp [optI]
      | true =>
        rw [z3] at c3
        rw [if_neg (by decide), evSs_step ((ite_eq c3).trans (by rfl))]
        by_cases z4 : 3 < ws.length
        · have q' : (3 : Int) < ws.length := by omega
          rw [if_pos z4]; simp [δ, q', optI]
        · have q' : ¬ (3 : Int) < ws.length := by omega
          rw [if_neg z4]; simp [δ, q', optI]
def dueG : Nat → List (List Str) → Int → Int → Option (Int × Int)
  | _, [], _, _ => none
  | k, ws :: r, R, P => match wrong k ws R P with
    | some i => some ((k : Int) + 1, i)
    | none => dueG (k + 1) r (wv (wd ws 1)) (wv (wd ws 2))
def due (wss : List (List Str)) : Option (Int × Int) := match dueG 0 wss 1001 (-1) with
  | some p => some p
  | none => if wss.length < 2 then some (2, 1) else none
def optP : Option (Int × Int) → Py.D
  | some p => .tup [.int p.1, .int p.2]
  | none => .non
theorem wrong_none {k : Nat} {ws : List Str} {R P : Int} (h : wrong k ws R P = none) : k ≤ 5 ∧ ws.head? = some "stage" ∧ numOk (wd ws 1) 0 (R - 1) = true ∧ numOk (wd ws 2) (P + 1) (if 0 < k then 10000 else 0) = true ∧ ws.length = 3 := by
  unfold wrong at h
  by_cases z1 : 5 < k ∨ ws.head? ≠ some "stage"
  · rw [if_pos z1] at h; cases h
  rw [if_neg z1] at h
  cases z2 : numOk (wd ws 1) 0 (R - 1) with
  | false => rw [z2, if_pos rfl] at h; cases h
  | true =>
    rw [z2, if_neg (by decide)] at h
    cases z3 : numOk (wd ws 2) (P + 1) (if 0 < k then 10000 else 0) with
    | false => rw [z3, if_pos rfl] at h; cases h
    | true =>
      rw [z3, if_neg (by decide)] at h
      by_cases z4 : 3 < ws.length
      · rw [if_pos z4] at h; cases h
      · refine ⟨by omega, by simpa using (not_or.mp z1).2, rfl, rfl, ?_⟩
        by_cases z5 : ws.length ≤ 2
        · rw [wd_none z5, numOk_nil] at z3; cases z3
        · omega
theorem numOk_ist {w : Str} {lo hi : Int} (h : numOk w lo hi = true) : istD (.str w) = some (.int (wv w)) ∧ lo ≤ (wv w : Int) ∧ (wv w : Int) ≤ hi ∧ numL (wv w) = tl w := by
  unfold numOk at h
  simp only [Bool.and_eq_true, decide_eq_true_eq] at h
  obtain ⟨⟨⟨h1, h2⟩, h3⟩, h4⟩ := h
  exact ⟨ist_ok h1.1 h1.2 h2, h4.1, h4.2, h3⟩
theorem due_loop [K115 tbl] {B : Nat} {ls : List Str} (hls : ∀ l ∈ ls, Ln B l) (hB : B ≤ 8000) {xs c : List Py.D} : ∀ (rest : List Str) (k : Nat) (R P : Int) (o1 o4 o5 o6 : Option Py.D), ls.drop k = rest →
    ∃ p1 p2 p3 p4 p5 p6, forL (.nm 1) (evSs (Phi tbl (n + 2)) fb115_2) (xs, none, c) (rngD (k : Int) rest.length) [some (.lst (ls.map .str)), o1, some (.int R), some (.int P), o4, o5, o6] S
      = match dueG k (rest.map wds) R P with
        | some p => .ret (.tup [.int p.1, .int p.2]) S
        | none => .nxt [some (.lst (ls.map .str)), p1, p2, p3, p4, p5, p6] S
  | [], k, R, P, o1, o4, o5, o6, _ => ⟨o1, _, _, o4, o5, o6, rfl⟩
  | l :: r, k, R, P, o1, o4, o5, o6, hd => by
    have hk : k < ls.length := by
      rcases Nat.lt_or_ge k ls.length with q | q
      · exact q
      · rw [List.drop_eq_nil_of_le q] at hd; cases hd
    have hg : ls[k] = l := by
      rw [List.drop_eq_getElem_cons hk] at hd
      injection hd
    have hr : ls.drop (k + 1) = r := by
      rw [List.drop_eq_getElem_cons hk] at hd
      injection hd
    have hL := hls l (by rw [← hg]; exact List.getElem_mem hk)
    have hW := hL.wok hB
    let δ : Env := [some (.lst (ls.map .str)), some (.int k), some (.int R), some (.int P), o4, o5, o6]
    have ew := words_ev (S := S) (Φ := Phi tbl (n + 2)) (δ := δ) (e := .ix (.var 0) (.var 1)) (v := 6) (c := cc115_0) (e1 := ce115_1) hL hB (by
      simp [δ, ixN_nat hk, List.getElem?_eq_getElem hk, hg]) (by simp [δ]) (fun w b hb => by
      cases b <;> simp [compB, wipeE, cc115_0, ce115_1, hb, δ])
    have e2 := law_wrong_ok (tbl := tbl) (n := n) (S := S) (ws := wds l) (k := k) (R := R) (P := P) hW
    rw [List.length_cons, rngD, forL_cons, List.map_cons]
    have e3 : turnF (.nm 1) (evSs (Phi tbl (n + 2)) fb115_2) (.int (k : Int)) [some (.lst (ls.map .str)), o1, some (.int R), some (.int P), o4, o5, o6] S = evSs (Phi tbl (n + 2)) fb115_2 δ S := rfl
    rw [e3]
    unfold fb115_2
    rw [evSs_step (asg_eq (δ' := [some (.lst (ls.map .str)), some (.int k), some (.int R), some (.int P), some (.lst ((wds l).map .str)), o5, o6]) ew (by simp [δ]))]
    rw [evSs_step (asg_eq (d := optI (wrong k (wds l) R P)) (S' := S) (δ' := [some (.lst (ls.map .str)), some (.int k), some (.int R), some (.int P), some (.lst ((wds l).map .str)), some (optI (wrong k (wds l) R P)), o6]) (by simp [e2]) (by simp))]
    rw [dueG.eq_def]
    dsimp only
    cases hw : wrong k (wds l) R P with
    | some i =>
      refine ⟨o1, o1, o1, o1, o1, o1, ?_⟩
      simp [optI]
    | none =>
      obtain ⟨_, _, w1, w2, w3⟩ := wrong_none hw
      have a1 := (numOk_ist w1).1
      have a2 := (numOk_ist w2).1
      have l1 : 1 < (wds l).length := by omega
      have l2 : 2 < (wds l).length := by omega
      rw [wd_some l1] at a1
      rw [wd_some l2] at a2
      have i1 : L2.ixN (wds l).length 1 = some 1 := by exact_mod_cast ixN_nat l1
      have i2 : L2.ixN (wds l).length 2 = some 2 := by exact_mod_cast ixN_nat l2
      obtain ⟨p1, p2, p3, p4, p5, p6, e⟩ := due_loop hls hB (xs := xs) (c := c) r (k + 1) (wv (wd (wds l) 1)) (wv (wd (wds l) 2)) (some (.int k)) (some (.lst ((wds l).map .str))) (some .non) o6 hr
      refine ⟨p1, p2, p3, p4, p5, p6, ?_⟩
      rw [show (((k + 1 : Nat)) : Int) = (k : Int) + 1 by omega, wd_some l1, wd_some l2] at e
      rw [evSs_step (skip_eq (S' := S) (by simp [optI]))]
      rw [evSs_step (par_eq (ds := [.int (wv (wds l)[1]), .int (wv (wds l)[2])]) (S' := S) (δ' := [some (.lst (ls.map .str)), some (.int k), some (.int (wv (wds l)[1])), some (.int (wv (wds l)[2])), some (.lst ((wds l).map .str)), some .non, o6]) (by simp [i1, i2, List.getElem?_eq_getElem l1, List.getElem?_eq_getElem l2, a1, a2]) (by simp [optI])), evSs_nil, Out.bind_nxt, wd_some l1, wd_some l2]
      exact e
theorem law_due_ok [K115 tbl] {B : Nat} {ls : List Str} (hls : ∀ l ∈ ls, Ln B l) (hB : B ≤ 8000) (hn : ls.length ≤ 1000) : Phi tbl (n + 3) 115 [.lst (ls.map .str)] S = .ok (optP (due (ls.map wds))) S := by
  rw [phi115]
  obtain ⟨p1, p2, p3, p4, p5, p6, e⟩ := due_loop (tbl := tbl) (n := n) (S := S) hls hB (xs := rngD 0 ls.length) (c := []) ls 0 1001 (-1) none none none none rfl
  rw [show ((0 : Nat) : Int) = 0 from rfl] at e
  refine run_ret (fd := fd115) (by rfl) (d := optP (due (ls.map wds))) (S' := S) ?_ (by simp [fd115])
  show evSs (Phi tbl (n + 2)) _ [some (.lst (ls.map .str)), none, none, none, none, none, none] S = _
  have rg := rngW_one (m := ls.length) (by omega)
  unfold fd115
  rw [evSs_step (asg_eq (d := .tup [.int 1001, .int (-1)]) (S' := S) (δ' := [some (.lst (ls.map .str)), none, some (.int 1001), some (.int (-1)), none, none, none]) (by simp) (by simp))]
  rw [evSs_cons, for_eq (k := (rngD 0 ls.length, none, [])) (S := S) (by simp [rg, -rngW]), e]
  unfold due
  cases hd : dueG 0 (ls.map wds) 1001 (-1) with
  | some p => rfl
  | none =>
    by_cases q : ls.length < 2
    · have q' : (ls.length : Int) < 2 := by omega
      simp [q, q', optP]
    · have q' : ¬ (ls.length : Int) < 2 := by omega
      simp [q, q', optP]
end Lw

set_option Elab.async false
set_option linter.all false
set_option maxRecDepth 100000
set_option maxHeartbeats 2000000
/-! texts: read, _law_answer -/
namespace Lw
open PySem PySem.Spec PyProof.Rows L2 Py TL
variable {tbl : List (Nat × FD)} {n : Nat} {S : Sto}
/-- the two lists of read -/
abbrev St2 (S : Sto) (rs ps : List Int) : Sto := S ++ [.lst (rs.map .int), .lst (ps.map .int)]
theorem st2_a (S : Sto) (rs ps : List Int) : (St2 S rs ps)[S.length]? = some (.lst (rs.map .int)) := by simp
theorem st2_b (S : Sto) (rs ps : List Int) : (St2 S rs ps)[S.length + 1]? = some (.lst (ps.map .int)) := by simp
theorem st2_sa (S : Sto) (rs ps rs' : List Int) : (St2 S rs ps).set S.length (.lst (rs'.map .int)) = St2 S rs' ps := by simp
theorem st2_sb (S : Sto) (rs ps ps' : List Int) : (St2 S rs ps).set (S.length + 1) (.lst (ps'.map .int)) = St2 S rs ps' := by simp
theorem eqD_intsL (S : Sto) (n : Nat) (is : List Int) (h : S[n]? = some (.lst (is.map .int))) : eqD S (.loc n) (.lst []) = some (decide (is = [])) := by
  obtain ⟨a, b⟩ := Pd_map (k := 0) (g := Py.D.int) (f := PyData.int) (l := is) (fun w hw => Pd_int 0 w)
  have e : deref S (.loc n) = .lst (is.map .int) := by simp [h]
  rw [eqD_Pd (S := S) (a := .loc n) (b := .lst []) (k := 1) (by omega) (by rw [e]; exact Pd_lst a b) (y := .list []) ⟨rfl, rfl, by simp [PyData.depth, PyData.depthAll]⟩]
  cases is <;> rfl
def lastR (rs : List Int) : Int := rs.getLast?.getD 1001
def lastP (ps : List Int) : Int := ps.getLast?.getD (-1)
theorem lastR_snoc (rs : List Int) (x : Int) : lastR (rs ++ [x]) = x := by simp [lastR]
theorem lastP_snoc (rs : List Int) (x : Int) : lastP (rs ++ [x]) = x := by simp [lastP]
theorem ix_last {ds : List Int} (h : ds ≠ []) : (L2.ixN ds.length (-1)).bind (fun j => (ds.map Py.D.int)[j]?) = some (.int (ds.getLast?.getD 0)) := by
  have hp : 0 < ds.length := List.length_pos_iff.mpr h
  rw [ixN_m1 hp, Option.bind_some, List.getElem?_map, ← List.getLast?_eq_getElem?]
  cases e : ds.getLast? with
  | none => rw [List.getLast?_eq_none_iff] at e; exact absurd e h
  | some x => rfl
theorem hd_take (ws : List Str) (h : Wok ws) : eqD S (.lst ((ws.map Py.D.str).take 1)) (.lst [.str "stage"]) = some (decide (ws.head? = some "stage")) := by
  have ps : Pd 0 (.str "stage") (.str "stage") := stage_asc.pd 0
  have P2 : Pd 1 (deref S (.lst [.str "stage"])) (.list [.str "stage"]) := Pd_lst (ds := [.str "stage"]) (xs := [.str "stage"]) rfl (fun p hp => by
    have : p = (.str "stage", .str "stage") := by simpa using hp
    rw [this]; exact ps)
  cases ws with
  | nil =>
    rw [eqD_Pd (S := S) (a := .lst ((([] : List Str).map Py.D.str).take 1)) (x := .list []) (k := 1) (by omega) ⟨rfl, rfl, by simp [PyData.depth, PyData.depthAll]⟩ P2]
    rfl
  | cons w r =>
    have pw := (h.2 w (List.mem_cons_self ..)).1.pd 0
    have P1 : Pd 1 (deref S (.lst (((w :: r).map Py.D.str).take 1))) (.list [.str w]) := Pd_lst (ds := [.str w]) (xs := [.str w]) rfl (fun p hp => by
      have : p = (.str w, .str w) := by simpa using hp
      rw [this]; exact pw)
    rw [eqD_Pd (S := S) (a := .lst (((w :: r).map Py.D.str).take 1)) (k := 1) (by omega) P1 P2]
    congr 1
    show (PyData.eqv (.str w) (.str "stage") && true) = _
    rw [Bool.and_true]
    show (w == "stage") = _
    rw [str_beq]
    simp
theorem cut_one {α : Type} (l : List α) : Py.cutD l none (some 1) = l.take 1 := by exact_mod_cast cut_take l 1
def rsOf (ls : List Str) : List Int := ls.map fun l => (wv (wd (wds l) 1) : Int)
def psOf (ls : List Str) : List Int := ls.map fun l => (wv (wd (wds l) 2) : Int)
theorem app_ev {Φ : Fns} {i k : Nat} {e : Py.Tm} {δ : Env} {S : Sto} {xs : List Py.D} {d : Py.D} (hi : ev Φ (.var i) δ S = .ok (.loc k) S) (hk : S[k]? = some (.lst xs)) (he : ev Φ e δ S = .ok d S) (hl : xs.length < 10000) :
    evS Φ (.ex (.bm .append (.var i) (.cons e .nil))) δ S = .nxt δ (S.set k (.lst (xs ++ [d]))) := by
  rw [evS, ev, hi, R.bind_ok, if_pos (by simp [hk]), evs, he, R.bind_ok, evs, R.bind_ok, R.bind_ok]
  simp [hk, hl]
theorem app_exc {Φ : Fns} {i k : Nat} {e : Py.Tm} {δ : Env} {S : Sto} {xs : List Py.D} {x : Ex} (hi : ev Φ (.var i) δ S = .ok (.loc k) S) (hk : S[k]? = some (.lst xs)) (he : ev Φ e δ S = .exc x S) :
    evS Φ (.ex (.bm .append (.var i) (.cons e .nil))) δ S = .exc x δ S := by
  rw [evS, ev, hi, R.bind_ok, if_pos (by simp [hk]), evs, he]
  rfl
theorem call_exc {Φ : Fns} {f : Nat} {es : Tms} {δ : Env} {S S' S'' : Sto} {ds : List Py.D} {x : Ex} (h : evs Φ es δ S = .ok ds S') (h2 : Φ f ds S' = .exc x S'') : ev Φ (.call f es) δ S = .exc x S'' := by
  rw [ev, h, R.bind_ok, h2]
theorem read_turn [K110 tbl] {B : Nat} {l : Str} (hl : Ln B l) (hB : B ≤ 8000) {S0 : Sto} {rs ps : List Int} {k : Nat} (hr : rs.length = k) (hp : ps.length = k) (hk : k ≤ 9000) (t : Py.D) (o5 o6 o7 : Option Py.D) :
    let δ : Env := [some t, some (.loc S0.length), some (.loc (S0.length + 1)), some (.int ((k : Int) + 1)), some (.str l), o5, o6, o7]
    ∃ δ', (∃ p5 p6, δ' = [some t, some (.loc S0.length), some (.loc (S0.length + 1)), some (.int ((k : Int) + 1)), some (.str l), p5, p6, o7]) ∧
    ∃ rs' ps', evSs (Phi tbl (n + 1)) fb110_2 δ (St2 S0 rs ps) = match wrong k (wds l) (lastR rs) (lastP ps) with
      | some i => .exc (exT ((k : Int) + 1) i) δ' (St2 S0 rs' ps')
      | none => .nxt δ' (St2 S0 (rs ++ [(wv (wd (wds l) 1) : Int)]) (ps ++ [(wv (wd (wds l) 2) : Int)])) := by
  intro δ
  have hW := hl.wok hB
  have ew := words_ev (S := St2 S0 rs ps) (Φ := Phi tbl (n + 1)) (δ := δ) (e := .var 4) (v := 7) (c := cc110_0) (e1 := ce110_1) hl hB (by simp [δ]) (by simp [δ]) (fun w b hb => by
    cases b <;> simp [compB, wipeE, cc110_0, ce110_1, hb, δ])
  let δ1 : Env := [some t, some (.loc S0.length), some (.loc (S0.length + 1)), some (.int ((k : Int) + 1)), some (.str l), some (.lst ((wds l).map .str)), o6, o7]
  have z := hW.1
  have c1 : evT (Phi tbl (n + 1)) (.or (.cmp .gt (.var 3) (.gco "MOST_STAGES" (.int 6))) (.cmp .ne (.sl (.var 5) (.con .non) (.con (.int 1))) (.lst false (.cons (.con (.str "stage")) .nil)))) δ1 (St2 S0 rs ps) = .ok (decide (5 < k ∨ (wds l).head? ≠ some "stage")) (St2 S0 rs ps) := by
    have hh := hd_take (S := St2 S0 rs ps) (wds l) hW
    by_cases q : 5 < k
    · have q' : (6 : Int) < (k : Int) + 1 := by omega
      simp [δ1, q, q']
    · have q' : ¬ (6 : Int) < (k : Int) + 1 := by omega
      by_cases q2 : (wds l).head? = some "stage"
      · rw [decide_eq_true q2] at hh
        simp [δ1, q', cut_one, -List.map_take, hh, q2, q]
      · rw [decide_eq_false q2] at hh
        simp [δ1, q', cut_one, -List.map_take, hh, q2]
        exact .inr q2
  unfold fb110_2
  rw [evSs_step (asg_eq (δ' := δ1) ew (by simp [δ, δ1]))]
  unfold wrong
  by_cases z1 : 5 < k ∨ (wds l).head? ≠ some "stage"
  · rw [decide_eq_true z1] at c1
    refine ⟨δ1, ⟨_, _, rfl⟩, rs, ps, ?_⟩
    rw [if_pos z1, evSs_cons, ite_eq c1]
    simp [δ1, exT]
  rw [decide_eq_false z1] at c1
  rw [if_neg z1, evSs_step ((ite_eq c1).trans (by rfl))]
  have hrl : rs.length < 10000 := by omega
  have hpl : ps.length < 10000 := by omega
  -- the first number
  have h1 : ev (Phi tbl (n + 1)) (.ite (.cmp .ne (.var 1) (.lst false .nil)) (.bin .Sub (.ix (.var 1) (.neg (.con (.int 1)))) (.con (.int 1))) (.gco "MOST_RATE" (.int 1000))) δ1 (St2 S0 rs ps) = .ok (.int (lastR rs - 1)) (St2 S0 rs ps) := by
    have q := eqD_intsL (St2 S0 rs ps) S0.length rs (st2_a ..)
    by_cases hn : rs = []
    · rw [decide_eq_true hn] at q
      have hv : lastR rs - 1 = 1000 := by rw [hn]; rfl
      rw [hv]
      simp [δ1, q]
    · rw [decide_eq_false hn] at q
      have il := ix_last hn
      have hv : rs.getLast?.getD 0 = lastR rs := by
        unfold lastR
        cases e : rs.getLast? with
        | none => rw [List.getLast?_eq_none_iff] at e; exact absurd e hn
        | some x => rfl
      rw [hv] at il
      simp [δ1, q, il, -List.getElem?_map]
  have N1 := number_in_ok (tbl := tbl) (n := n) (S := St2 S0 rs ps) (ws := wds l) (at_ := 1) (lo := 0) (hi := lastR rs - 1) (l := (k : Int) + 1) (by omega) hW.2
  have A1 : evs (Phi tbl (n + 1)) (.cons (.var 5) (.cons (.con (.int 1)) (.cons (.con (.int 0)) (.cons (.ite (.cmp .ne (.var 1) (.lst false .nil)) (.bin .Sub (.ix (.var 1) (.neg (.con (.int 1)))) (.con (.int 1))) (.gco "MOST_RATE" (.int 1000))) (.cons (.var 3) .nil))))) δ1 (St2 S0 rs ps)
      = .ok [.lst ((wds l).map .str), .int 1, .int 0, .int (lastR rs - 1), .int ((k : Int) + 1)] (St2 S0 rs ps) :=
    evsc (S1 := St2 S0 rs ps) (by simp [δ1]) (evsc (S1 := St2 S0 rs ps) (by simp) (evsc (S1 := St2 S0 rs ps) (by simp) (evsc h1 (evs1 (by simp [δ1])))))
  cases z2 : numOk (wd (wds l) 1) 0 (lastR rs - 1) with
  | false =>
    rw [z2, if_neg (by decide)] at N1
    refine ⟨δ1, ⟨_, _, rfl⟩, rs, ps, ?_⟩
    rw [if_pos rfl, evSs_cons, app_exc (xs := rs.map .int) (k := S0.length) (by simp [δ1]) (st2_a ..) (call_exc A1 N1)]
    rfl
  | true =>
    rw [z2, if_pos rfl] at N1
    rw [if_neg (by decide)]
    have e1 := app_ev (Φ := Phi tbl (n + 1)) (i := 1) (δ := δ1) (S := St2 S0 rs ps) (xs := rs.map .int) (k := S0.length) (by simp [δ1]) (st2_a ..) (call_eq A1 N1) (by simpa using hrl)
    have e1' : rs.map Py.D.int ++ [.int (wv (wd (wds l) 1) : Int)] = (rs ++ [(wv (wd (wds l) 1) : Int)]).map .int := by simp
    rw [e1', st2_sa] at e1
    rw [evSs_step e1]
    generalize hrs : rs ++ [(wv (wd (wds l) 1) : Int)] = rs1
    have hps : ∀ (Sx : Sto) (δx : Env) (f g : Py.Tm) (a b : Int), Sx = St2 S0 rs1 ps → δx[2]? = some (some (.loc (S0.length + 1))) → ev (Phi tbl (n + 1)) f δx Sx = .ok (.int a) Sx → ev (Phi tbl (n + 1)) g δx Sx = .ok (.int b) Sx →
        ev (Phi tbl (n + 1)) (.ite (.cmp .ne (.var 2) (.lst false .nil)) f g) δx Sx = .ok (.int (if ps = [] then b else a)) Sx := by
      intro Sx δx f g a b hs hv hf hg
      subst hs
      have q := eqD_intsL (St2 S0 rs1 ps) (S0.length + 1) ps (st2_b ..)
      by_cases hn : ps = []
      · rw [decide_eq_true hn] at q
        simp [hv, q, hg, if_pos hn]
      · rw [decide_eq_false hn] at q
        simp [hv, q, hf, if_neg hn]
    have hlow : ev (Phi tbl (n + 1)) (.ite (.cmp .ne (.var 2) (.lst false .nil)) (.bin .Add (.ix (.var 2) (.neg (.con (.int 1)))) (.con (.int 1))) (.con (.int 0))) δ1 (St2 S0 rs1 ps) = .ok (.int (lastP ps + 1)) (St2 S0 rs1 ps) := by
      have q := eqD_intsL (St2 S0 rs1 ps) (S0.length + 1) ps (st2_b ..)
      by_cases hn : ps = []
      · rw [decide_eq_true hn] at q
        have hv : lastP ps + 1 = 0 := by rw [hn]; rfl
        rw [hv]
        simp [δ1, q]
      · rw [decide_eq_false hn] at q
        have il := ix_last hn
        have hv : ps.getLast?.getD 0 = lastP ps := by
          unfold lastP
          cases e : ps.getLast? with
          | none => rw [List.getLast?_eq_none_iff] at e; exact absurd e hn
          | some x => rfl
        rw [hv] at il
        simp [δ1, q, il, -List.getElem?_map]
    let δ2 : Env := [some t, some (.loc S0.length), some (.loc (S0.length + 1)), some (.int ((k : Int) + 1)), some (.str l), some (.lst ((wds l).map .str)), some (.int (lastP ps + 1)), o7]
    have hhi := hps (St2 S0 rs1 ps) δ2 (.gco "MOST_PRICE" (.int 10000)) (.con (.int 0)) 10000 0 rfl rfl (by simp) (by simp)
    have hps2 : (if ps = [] then (0 : Int) else 10000) = (if 0 < k then 10000 else 0) := by
      by_cases hn : ps = []
      · rw [if_pos hn, if_neg (by rw [hn] at hp; simp at hp; omega)]
      · have := List.length_pos_iff.mpr hn
        rw [if_neg hn, if_pos (by omega)]
    rw [hps2] at hhi
    rw [evSs_step (asg_eq (δ' := δ2) hlow (by simp [δ1, δ2]))]
    have N2 := number_in_ok (tbl := tbl) (n := n) (S := St2 S0 rs1 ps) (ws := wds l) (at_ := 2) (lo := lastP ps + 1) (hi := if 0 < k then 10000 else 0) (l := (k : Int) + 1) (by omega) hW.2
    have A2 : evs (Phi tbl (n + 1)) (.cons (.var 5) (.cons (.con (.int 2)) (.cons (.var 6) (.cons (.ite (.cmp .ne (.var 2) (.lst false .nil)) (.gco "MOST_PRICE" (.int 10000)) (.con (.int 0))) (.cons (.var 3) .nil))))) δ2 (St2 S0 rs1 ps)
        = .ok [.lst ((wds l).map .str), .int 2, .int (lastP ps + 1), .int (if 0 < k then 10000 else 0), .int ((k : Int) + 1)] (St2 S0 rs1 ps) :=
      evsc (S1 := St2 S0 rs1 ps) (by simp [δ2]) (evsc (S1 := St2 S0 rs1 ps) (by simp) (evsc (S1 := St2 S0 rs1 ps) (by simp [δ2]) (evsc hhi (evs1 (by simp [δ2])))))
    cases z3 : numOk (wd (wds l) 2) (lastP ps + 1) (if 0 < k then 10000 else 0) with
    | false =>
      rw [z3, if_neg Bool.false_ne_true] at N2
      refine ⟨δ2, ⟨_, _, rfl⟩, rs1, ps, ?_⟩
      rw [if_pos rfl, evSs_cons, app_exc (xs := ps.map .int) (k := S0.length + 1) (by simp [δ2]) (st2_b ..) (call_exc A2 N2)]
      rfl
    | true =>
      rw [z3, if_pos (rfl : true = true)] at N2
      rw [if_neg (by decide : ¬ (true = false))]
      have e1 := app_ev (Φ := Phi tbl (n + 1)) (i := 2) (δ := δ2) (S := St2 S0 rs1 ps) (xs := ps.map .int) (k := S0.length + 1) (by simp [δ2]) (st2_b ..) (call_eq A2 N2) (by simpa using hpl)
      have e1' : ps.map Py.D.int ++ [.int (wv (wd (wds l) 2) : Int)] = (ps ++ [(wv (wd (wds l) 2) : Int)]).map .int := by simp
      rw [e1', st2_sb] at e1
      rw [evSs_step e1]
      refine ⟨δ2, ⟨_, _, rfl⟩, rs1, ps ++ [(wv (wd (wds l) 2) : Int)], ?_⟩
      by_cases z4 : 3 < (wds l).length
      · have q' : (3 : Int) < (wds l).length := by omega
        rw [if_pos z4]
        simp [δ2, q', exT]
      · have q' : ¬ (3 : Int) < (wds l).length := by omega
        rw [if_neg z4]
        simp [δ2, q']
/-- what a text gives, when nothing is wrong -/
theorem dueG_none : ∀ (ls : List Str) (k : Nat) (R P : Int), dueG k (ls.map wds) R P = none → k ≤ 6 → fall (R - 1) (rsOf ls) ∧ climb k (P + 1) (psOf ls) ∧ k + ls.length ≤ 6
  | [], k, R, P, _, hk => ⟨trivial, trivial, by simpa using hk⟩
  | l :: r, k, R, P, h, hk => by
    rw [List.map_cons, dueG.eq_def] at h
    dsimp only at h
    cases hw : wrong k (wds l) R P with
    | some i => rw [hw] at h; cases h
    | none =>
      rw [hw] at h
      dsimp only at h
      obtain ⟨w0, _, w1, w2, w3⟩ := wrong_none hw
      obtain ⟨_, a1, a2, _⟩ := numOk_ist w1
      obtain ⟨_, b1, b2, _⟩ := numOk_ist w2
      obtain ⟨i1, i2, i3⟩ := dueG_none r (k + 1) _ _ h (by omega)
      refine ⟨⟨a1, a2, i1⟩, ⟨b1, ?_, by exact_mod_cast i2⟩, by rw [List.length_cons]; omega⟩
      by_cases q : 0 < k
      · rw [if_pos q] at b2
        rw [if_pos (by omega)]; exact b2
      · rw [if_neg q] at b2
        rw [if_neg (by omega)]; exact b2
theorem read_loop [K110 tbl] {B : Nat} {ls : List Str} (hls : ∀ l ∈ ls, Ln B l) (hB : B ≤ 8000) {S0 : Sto} {t : Py.D} {xs c : List Py.D} : ∀ (rest : List Str) (k : Nat) (rs ps : List Int) (o3 o4 o5 o6 o7 : Option Py.D), (∀ l ∈ rest, l ∈ ls) → rs.length = k → ps.length = k → k + rest.length ≤ 9000 →
    ∃ δ' rs' ps' p3 p4 p5 p6 p7, forL (.tp (.cons (.nm 3) (.cons (.nm 4) .nil))) (evSs (Phi tbl (n + 1)) fb110_2) (xs, none, c) (enumD ((k : Int) + 1) (rest.map .str)) [some t, some (.loc S0.length), some (.loc (S0.length + 1)), o3, o4, o5, o6, o7] (St2 S0 rs ps)
      = match dueG k (rest.map wds) (lastR rs) (lastP ps) with
        | some p => .exc (exT p.1 p.2) δ' (St2 S0 rs' ps')
        | none => .nxt [some t, some (.loc S0.length), some (.loc (S0.length + 1)), p3, p4, p5, p6, p7] (St2 S0 (rs ++ rsOf rest) (ps ++ psOf rest))
  | [], k, rs, ps, o3, o4, o5, o6, o7, _, _, _, _ => ⟨[], [], [], o3, o4, o5, o6, o7, by simp [rsOf, psOf, dueG]; rfl⟩
  | l :: r, k, rs, ps, o3, o4, o5, o6, o7, hm, hr, hp, hk => by
    have hL := hls l (hm l (List.mem_cons_self ..))
    obtain ⟨δ', ⟨p5, p6, hδ⟩, rs', ps', e⟩ := read_turn (tbl := tbl) (n := n) hL hB (S0 := S0) (rs := rs) (ps := ps) hr hp (by simp at hk; omega) t o5 o6 o7
    rw [List.map_cons, enumD, forL_cons, List.map_cons, dueG.eq_def]
    dsimp only
    have e3 : turnF (.tp (.cons (.nm 3) (.cons (.nm 4) .nil))) (evSs (Phi tbl (n + 1)) fb110_2) (.tup [.int ((k : Int) + 1), .str l]) [some t, some (.loc S0.length), some (.loc (S0.length + 1)), o3, o4, o5, o6, o7] (St2 S0 rs ps) = evSs (Phi tbl (n + 1)) fb110_2 [some t, some (.loc S0.length), some (.loc (S0.length + 1)), some (.int ((k : Int) + 1)), some (.str l), o5, o6, o7] (St2 S0 rs ps) := rfl
    rw [e3, e]
    cases hw : wrong k (wds l) (lastR rs) (lastP ps) with
    | some i => exact ⟨δ', rs', ps', o3, o3, o3, o3, o3, rfl⟩
    | none =>
      dsimp only
      rw [Out.bind_nxt, hδ]
      obtain ⟨δ2, rs2, ps2, q3, q4, q5, q6, q7, e2⟩ := read_loop hls hB (t := t) (xs := xs) (c := c) r (k + 1) (rs ++ [(wv (wd (wds l) 1) : Int)]) (ps ++ [(wv (wd (wds l) 2) : Int)]) (some (.int ((k : Int) + 1))) (some (.str l)) p5 p6 o7 (fun x hx => hm x (List.mem_cons_of_mem _ hx)) (by simp [hr]) (by simp [hp]) (by simp at hk; omega)
      refine ⟨δ2, rs2, ps2, q3, q4, q5, q6, q7, ?_⟩
      rw [lastR_snoc, lastP_snoc] at e2
      rw [show ((k + 1 : Nat) : Int) = (k : Int) + 1 by omega] at e2
      rw [e2]
      have a1 : rs ++ [(wv (wd (wds l) 1) : Int)] ++ rsOf r = rs ++ rsOf (l :: r) := by simp [rsOf]
      have a2 : ps ++ [(wv (wd (wds l) 2) : Int)] ++ psOf r = ps ++ psOf (l :: r) := by simp [psOf]
      rw [a1, a2]
/-- the rows that a text tells -/
def rowsOf (ls : List Str) : Rows := (rsOf ls).zip (psOf ls)
theorem due_fit {ls : List Str} (h : due (ls.map wds) = none) : Fit (rowsOf ls) ∧ rts (rowsOf ls) = (rsOf ls).map .int ∧ prs (rowsOf ls) = (psOf ls).map .int := by
  unfold due at h
  cases hg : dueG 0 (ls.map wds) 1001 (-1) with
  | some p => rw [hg] at h; cases h
  | none =>
    rw [hg] at h
    dsimp only at h
    obtain ⟨a, b, c⟩ := dueG_none ls 0 _ _ hg (by omega)
    have hl : ¬ ls.length < 2 := by
      intro q
      rw [List.length_map, if_pos q] at h; cases h
    have e : (psOf ls).length = (rsOf ls).length := by simp [psOf, rsOf]
    exact ⟨⟨rsOf ls, psOf ls, rfl, by simp [rsOf]; omega, by simp [rsOf]; omega, a, e, by exact_mod_cast b⟩, rts_zip e, prs_zip e⟩
end Lw

set_option Elab.async false
set_option linter.all false
set_option maxRecDepth 100000
set_option maxHeartbeats 2000000
/-! texts: read of joined lines, _law_answer -/
namespace Lw
open PySem PySem.Spec PyProof.Rows L2 Py TL
variable {tbl : List (Nat × FD)} {n : Nat} {S : Sto}
theorem nl_split {B : Nat} {ls : List Str} (h0 : ls ≠ []) (hls : ∀ l ∈ ls, Ln B l) : Txt.split (Txt.join nl ls) nl = ls :=
  split_join tl_nl (by decide +kernel) h0 fun p hp => (hls p hp).n
theorem nl_ev {Φ : Fns} {δ : Env} {e : Py.Tm} {B : Nat} {ls : List Str} (h0 : ls ≠ []) (hls : ∀ l ∈ ls, Ln B l) (hl : (Txt.join nl ls).length ≤ 10000) (he : ev Φ e δ S = .ok (.str (Txt.join nl ls)) S) : ev Φ (.tsp e (.con (.str "\n"))) δ S = .ok (.lst (ls.map .str)) S := by
  have h2 : (nl.length == 0) = false := by decide +kernel
  rw [ev, he, R.bind_ok, if_pos (show isStrD (.str (Txt.join nl ls)) = true from rfl), ev, R.bind_ok]
  show R.lift (if (nl.length == 0) = false ∧ (Txt.join nl ls).length ≤ 10000 then some (Py.D.lst ((Txt.split (Txt.join nl ls) nl).map .str)) else none) S = _
  rw [if_pos ⟨h2, hl⟩, nl_split h0 hls]; rfl
theorem cutX_back {e : Ex} {S os : Sto} (hS : closed S.length S = true) (he : D.unds S.length e.ds = true) : cutX S.length e (S ++ os) = .exc e S := by
  unfold cutX
  by_cases h : (S ++ os).length ≤ S.length
  · rw [if_pos h]
    have : os = [] := List.length_eq_zero_iff.mp (by rw [List.length_append] at h; omega)
    rw [this, List.append_nil]
  · rw [if_neg h, List.take_left, hS, he]; rfl
theorem cut_back {d : Py.D} {S os : Sto} (hS : closed S.length S = true) (hd : d.und S.length = true) (hn : ∀ n, d ≠ .loc n) : Py.cut S.length d (S ++ os) = .ok d S := by
  unfold Py.cut
  by_cases h : (S ++ os).length ≤ S.length
  · rw [if_pos h]
    have : os = [] := List.length_eq_zero_iff.mp (by rw [List.length_append] at h; omega)
    rw [this, List.append_nil]
  · rw [if_neg h, List.take_left, hS, if_pos rfl]
    cases d with
    | loc n => exact absurd rfl (hn n)
    | _ => dsimp only; rw [if_pos hd]
theorem read_ok [K110 tbl] {B : Nat} {ls : List Str} (h0 : ls ≠ []) (hls : ∀ l ∈ ls, Ln B l) (hB : B ≤ 8000) (hl : (Txt.join nl ls).length ≤ 10000) (hn : ls.length ≤ 9000) (hS : closed S.length S = true) :
    Phi tbl (n + 4) 110 [.str (Txt.join nl ls)] S = match due (ls.map wds) with
      | some p => .exc (exT p.1 p.2) S
      | none => .ok (stg (rowsOf ls)) S := by
  rw [phi110]
  obtain ⟨δ', rs', ps', p3, p4, p5, p6, p7, e⟩ := read_loop (tbl := tbl) (n := n + 2) hls hB (S0 := S) (t := .str (Txt.join nl ls)) (xs := enumD 1 (ls.map .str)) (c := []) ls 0 [] [] none none none none none (fun _ h => h) rfl rfl (by omega)
  rw [show ((0 : Nat) : Int) + 1 = 1 from rfl, show lastR [] = 1001 from rfl, show lastP [] = -1 from rfl] at e
  let δ0 : Env := [some (.str (Txt.join nl ls)), none, none, none, none, none, none, none]
  let δ1 : Env := [some (.str (Txt.join nl ls)), some (.loc S.length), some (.loc (S.length + 1)), none, none, none, none, none]
  have s1 : evS (Phi tbl (n + 3)) (.par [1, 2] (.cons (.lst true .nil) (.cons (.lst true .nil) .nil))) δ0 S = .nxt δ1 (St2 S [] []) :=
    par_eq (ds := [.loc S.length, .loc (S.length + 1)]) (by simp) (by simp [δ0, δ1])
  have s2 : evI (Phi tbl (n + 3)) (.enk (.tsp (.var 0) (.con (.str "\n"))) (.con (.int 1))) δ1 (St2 S [] []) = .ok (enumD 1 (ls.map .str), none, []) (St2 S [] []) := by
    rw [evI, nl_ev (S := St2 S [] []) (δ := δ1) h0 hls hl (by simp [δ1]), R.bind_ok, ev, R.bind_ok]
    rfl
  unfold due
  cases hd : dueG 0 (ls.map wds) 1001 (-1) with
  | some p =>
    rw [hd] at e
    dsimp only at e ⊢
    refine run_exc (fd := fd110) (δ' := δ') (by rfl) (S' := St2 S rs' ps') ?_ (cutX_back hS (by simp [exT, D.unds, D.und]))
    show evSs (Phi tbl (n + 3)) _ δ0 S = _
    unfold fd110
    rw [evSs_step s1, evSs_cons, for_eq s2, e]; rfl
  | none =>
    rw [hd] at e
    dsimp only at e ⊢
    simp only [List.nil_append] at e
    rw [List.length_map]
    have zl : (rsOf ls).length = ls.length := by simp [rsOf]
    have zp : (psOf ls).length = ls.length := by simp [psOf]
    have ga := st2_a S (rsOf ls) (psOf ls)
    have gb := st2_b S (rsOf ls) (psOf ls)
    by_cases q : ls.length < 2
    · have q' : (ls.length : Int) < 2 := by omega
      rw [if_pos q]
      refine run_exc (fd := fd110) (δ' := [some (.str (Txt.join nl ls)), some (.loc S.length), some (.loc (S.length + 1)), p3, p4, p5, p6, p7]) (by rfl) (S' := St2 S (rsOf ls) (psOf ls)) ?_ (cutX_back hS (by simp [exT, D.unds, D.und]))
      show evSs (Phi tbl (n + 3)) _ δ0 S = _
      unfold fd110
      rw [evSs_step s1, evSs_step ((for_eq s2).trans e)]
      simp [q', zl, exT]
    · have q' : ¬ (ls.length : Int) < 2 := by omega
      rw [if_neg q]
      have hdue : due (ls.map wds) = none := by unfold due; rw [hd]; dsimp only; rw [List.length_map, if_neg q]
      obtain ⟨F, r1, r2⟩ := due_fit hdue
      have hcl : closed (St2 S (rsOf ls) (psOf ls)).length (St2 S (rsOf ls) (psOf ls)) = true := by
        refine closed_app (closed_mono (by simp) hS) ?_
        simp [closed, O.und, unds_ints]
      have en := new_ok (tbl := tbl) (n := n) F hcl
      rw [r1, r2] at en
      refine run_ret (fd := fd110) (by rfl) (d := stg (rowsOf ls)) (S' := St2 S (rsOf ls) (psOf ls)) ?_ (by
        rw [if_neg (show ¬ fd110.own = true by simp [fd110])]
        exact cut_back hS (by simp [D.und, D.unds, unds_rows]) (by simp))
      show evSs (Phi tbl (n + 3)) _ δ0 S = _
      unfold fd110
      rw [evSs_step s1, evSs_step ((for_eq s2).trans e)]
      rw [evSs_step (skip_eq (S' := St2 S (rsOf ls) (psOf ls)) (by simp [q', zl]))]
      rw [evSs_cons, ret_eq (new_eq (ds := [.tup ((rsOf ls).map .int), .tup ((psOf ls).map .int)]) (S' := St2 S (rsOf ls) (psOf ls)) (by simp [zl, zp]) en)]
      rfl
/-- what _law_answer tells -/
theorem law_answer_ok [K116 tbl] {B : Nat} {ls : List Str} (h0 : ls ≠ []) (hls : ∀ l ∈ ls, Ln B l) (hB : B ≤ 8000) (hl : (Txt.join nl ls).length ≤ 10000) (hn : ls.length ≤ 9000) (hS : closed S.length S = true) :
    Phi tbl (n + 5) 116 [.str (Txt.join nl ls)] S = .ok (optP (due (ls.map wds))) S := by
  have e := read_ok (tbl := tbl) (n := n) (S := S) h0 hls hB hl hn hS
  rw [phi116]
  refine run_ret (fd := fd116) (by rfl) (d := optP (due (ls.map wds))) (S' := S) ?_ (by simp [fd116])
  show evSs (Phi tbl (n + 4)) _ [some (.str (Txt.join nl ls)), none, none] S = _
  cases hd : due (ls.map wds) with
  | some p =>
    rw [hd] at e
    dsimp only at e
    have z1 : subX "InvalidText" "InvalidText" = true := by decide +kernel
    have z3 : (Str.ofString "word" = Str.ofString "line") = False := eq_false (by decide +kernel)
    have z2 : subX "InvalidText" "StageError" = true := by decide +kernel
    simp [fd116, e, hdX, okI, exT, hdG, z1, z2, z3, evHT, evHLs, evHL, unE, optP]
  | none =>
    rw [hd] at e
    dsimp only at e
    simp [fd116, e, optP]
end Lw

set_option Elab.async false
set_option linter.all false
set_option maxRecDepth 100000
set_option maxHeartbeats 2000000
/-! texts: _law_changed -/
namespace Lw
open PySem PySem.Spec PyProof.Rows L2 Py TL
variable {tbl : List (Nat × FD)} {n : Nat} {S : Sto}
theorem cutT80 {α : Type} (l : List α) (k : Nat) : Py.cutD l none (some (k : Int)) = l.take k := by
  unfold Py.cutD
  rw [HT.sIx_none, HT.sIx_nat, List.drop_zero, Nat.sub_zero, List.take_eq_take_iff]
  omega
theorem cutF80 {α : Type} (l : List α) (k : Nat) : Py.cutD l (some (k : Int)) none = l.drop k := by
  unfold Py.cutD
  rw [HT.sIx_none, HT.sIx_nat]
  by_cases h : k ≤ l.length
  · rw [Nat.min_eq_left h, List.take_of_length_le (by simp)]
  · rw [Nat.min_eq_right (by omega), List.drop_length, List.take_nil, List.drop_of_length_le (by omega)]
theorem mem_joinL : ∀ {ps : List (List Nat)} {c : Nat}, c ∈ joinL [32] ps → c = 32 ∨ ∃ p ∈ ps, c ∈ p
  | [], c, h => by simp [joinL] at h
  | [p], c, h => .inr ⟨p, by simp, h⟩
  | p :: q :: r, c, h => by
    rw [joinL] at h
    rcases List.mem_append.mp h with h | h
    · exact .inr ⟨p, by simp, h⟩
    · rcases List.mem_append.mp h with h | h
      · exact .inl (by simpa using h)
      · rcases mem_joinL h with h | ⟨x, hx, hc⟩
        · exact .inl h
        · exact .inr ⟨x, List.mem_cons_of_mem _ hx, hc⟩
theorem len_joinL (s : Nat) : ∀ (ps : List (List Nat)), (joinL [s] ps).length ≤ (ps.map List.length).sum + ps.length
  | [] => by simp [joinL]
  | [p] => by simp [joinL]
  | p :: q :: r => by
    have := len_joinL s (q :: r)
    rw [joinL, List.length_append, List.length_append]
    simp only [List.map_cons, List.sum_cons, List.length_cons, List.length_nil] at this ⊢
    omega
theorem join_len {y : Str} {s : Nat} (hy : tl y = [s]) (ps : List Str) : (Txt.join y ps).length ≤ (ps.map (·.length)).sum + ps.length := by
  rw [join_eq, len_eq, tl_join, hy]
  have := len_joinL s (ps.map tl)
  rw [List.length_map, List.map_map] at this
  have e : (List.length ∘ tl : Str → Nat) = (·.length) := by funext w; exact (len_eq w).symm
  rw [e] at this
  exact this
/-- words that are joined -/
theorem join_ln {B C : Nat} {ps : List Str} (h : ∀ p ∈ ps, Ln B p) (hs : (ps.map (·.length)).sum + ps.length ≤ C) : Ln C (Txt.join sp ps) := by
  have e : tl (Txt.join sp ps) = joinL [32] (ps.map tl) := by rw [join_eq, tl_join, tl_sp]
  have key : ∀ c ∈ tl (Txt.join sp ps), c = 32 ∨ ∃ p ∈ ps, c ∈ tl p := fun c hc => by
    rw [e] at hc
    rcases mem_joinL hc with q | ⟨x, hx, hc⟩
    · exact .inl q
    · obtain ⟨p, hp, rfl⟩ := List.mem_map.mp hx
      exact .inr ⟨p, hp, hc⟩
  refine ⟨fun c hc => ?_, fun hc => ?_, Nat.le_trans (join_len tl_sp ps) hs⟩
  · rcases key c hc with rfl | ⟨p, hp, hc⟩
    · decide
    · exact (h p hp).a c hc
  · rcases key 10 hc with q | ⟨p, hp, hc⟩
    · exact absurd q (by decide)
    · exact (h p hp).n hc
theorem strsD_map : ∀ l : List Str, strsD (l.map .str) = some l
  | [] => rfl
  | a :: l => by rw [List.map_cons, strsD, strsD_map l]; rfl
theorem join_ev {Φ : Fns} {δ : Env} {e : Py.Tm} {y : Str} {s : Nat} {S' : Sto} {ps : List Str} (hy : tl y = [s]) (hs : (ps.map (·.length)).sum + ps.length ≤ 10000) (he : ev Φ e δ S = .ok (.lst (ps.map .str)) S') : ev Φ (.tjn (.con (.str y)) e) δ S = .ok (.str (Txt.join y ps)) S' := by
  have hyl : y.length = 1 := by rw [len_eq, hy]; rfl
  rw [ev, ev, R.bind_ok, if_pos (show isStrD (.str y) = true from rfl), he, R.bind_ok]
  show R.lift (((seqD S' (.lst (ps.map .str))).bind strsD).bind fun ys => if (ys.map (·.length)).sum + ys.length * y.length ≤ 10000 then some (Py.D.str (Txt.join y ys)) else none) S' = _
  rw [show seqD S' (.lst (ps.map .str)) = some (ps.map .str) from rfl, Option.bind_some, strsD_map, Option.bind_some, if_pos (by rw [hyl]; omega)]
  rfl
theorem sum_take_drop (l : List Nat) (k m : Nat) : (l.take k).sum + (l.drop (k + m)).sum ≤ l.sum := by
  have h : l.sum = (l.take k).sum + ((l.drop k).take m).sum + ((l.drop k).drop m).sum := by
    conv => lhs; rw [← List.take_append_drop k l, List.sum_append, ← List.take_append_drop m (l.drop k), List.sum_append]
    omega
  rw [List.drop_drop] at h
  omega
theorem sl_to {Φ : Fns} {δ : Env} {S S1 S2 : Sto} {a b : Py.Tm} {l : List Str} {k : Nat} (ha : ev Φ a δ S = .ok (.lst (l.map .str)) S1) (hb : ev Φ b δ S1 = .ok (.int k) S2) (hn : isNon b = false) : ev Φ (.sl a (.con .non) b) δ S = .ok (.lst ((l.take k).map .str)) S2 := by
  have c := cutT80 (l.map Py.D.str) k
  rw [ev, ha, R.bind_ok, if_pos (show isNon (.con .non) = true from rfl), R.bind_ok, hn, if_neg Bool.false_ne_true, hb, R.bind_ok, Py.intR, R.bind_ok]
  simp [c]
theorem sl_from {Φ : Fns} {δ : Env} {S S1 S2 : Sto} {a b : Py.Tm} {l : List Str} {k : Nat} (ha : ev Φ a δ S = .ok (.lst (l.map .str)) S1) (hb : ev Φ b δ S1 = .ok (.int k) S2) (hn : isNon b = false) : ev Φ (.sl a b (.con .non)) δ S = .ok (.lst ((l.drop k).map .str)) S2 := by
  have c := cutF80 (l.map Py.D.str) k
  rw [ev, ha, R.bind_ok, hn, if_neg Bool.false_ne_true, hb, R.bind_ok, Py.intR, R.bind_ok, if_pos (show isNon (.con .non) = true from rfl), R.bind_ok]
  simp [c]
theorem add_ev {Φ : Fns} {δ : Env} {S S1 S2 : Sto} {a b : Py.Tm} {l m : List Str} (ha : ev Φ a δ S = .ok (.lst (l.map .str)) S1) (hb : ev Φ b δ S1 = .ok (.lst (m.map .str)) S2) (h : l.length + m.length ≤ 10000) : ev Φ (.bin .Add a b) δ S = .ok (.lst ((l ++ m).map .str)) S2 := by
  refine bin_eq ha hb ?_
  simp [h]
theorem one_ev {Φ : Fns} {δ : Env} {S S1 : Sto} {a : Py.Tm} {w : Str} (ha : ev Φ a δ S = .ok (.str w) S1) : ev Φ (.lst false (.cons a .nil)) δ S = .ok (.lst ([w].map .str)) S1 := by
  rw [ev, evs1 ha, R.bind_ok]; rfl
theorem picks_ok [K6 tbl] {rest S : Sto} (ws : List Str) (h : Hs rest S) (h0 : 0 < ws.length) (h1 : ws.length ≤ 10000) :
    ∃ w S', Phi tbl (n + 2) 6 [.loc 1, .lst (ws.map .str)] S = .ok (.str w) S' ∧ Hs rest S' ∧ w ∈ ws := by
  obtain ⟨d, S', e, q, m⟩ := pick_ok (tbl := tbl) (n := n) (ds := ws.map .str) h (by simpa using h0) (by simpa using h1)
  obtain ⟨w, hw, rfl⟩ := List.mem_map.mp m
  exact ⟨w, S', e, q, hw⟩
/-- lines -/
structure Lns (B : Nat) (ls : List Str) : Prop where
  ne : ls ≠ []
  l : ∀ l ∈ ls, Ln B l
theorem Ln.mono {B C : Nat} {l : Str} (h : Ln B l) (hc : B ≤ C) : Ln C l := ⟨h.a, h.n, Nat.le_trans h.b hc⟩
theorem put_lns {B C : Nat} {ls : List Str} (h : Lns B ls) (hc : B ≤ C) (i j : Nat) {w : Str} (hw : Ln C w) : Lns C (ls.take i ++ [w] ++ ls.drop j) := by
  refine ⟨by simp, fun l hl => ?_⟩
  rcases List.mem_append.mp hl with hl | hl
  · rcases List.mem_append.mp hl with hl | hl
    · exact (h.l l (List.mem_of_mem_take hl)).mono hc
    · rw [List.mem_singleton.mp hl]; exact hw
  · exact (h.l l (List.mem_of_mem_drop hl)).mono hc
theorem changed_ok [K117 tbl] {rest S : Sto} (h : Hs rest S) {B : Nat} {ls odd : List Str} (hL : Lns B ls) (hB : 20 ≤ B ∧ B ≤ 900) (hn : ls.length ≤ 100) (ho : ∀ w ∈ odd, Ln 5 w) (ho0 : 0 < odd.length) (ho1 : odd.length ≤ 100) (hr : closed (rest.length + 2) rest = true) :
    ∃ ls' S', Phi tbl (n + 3) 117 [.loc 1, .lst (ls.map .str), .lst (odd.map .str)] S = .ok (.lst (ls'.map .str)) S' ∧ Hs rest S' ∧ Lns (B + 7) ls' ∧ ls'.length ≤ ls.length + 1 := by
  have hne : 0 < ls.length := List.length_pos_iff.mpr hL.ne
  obtain ⟨v1, S1, e1, h1, a1, b1⟩ := next_ok (tbl := tbl) (n := n + 1) (cap := ls.length) h (by omega) (by omega)
  obtain ⟨v2, S2, e2, h2, a2, b2⟩ := next_ok (tbl := tbl) (n := n + 1) (cap := 7) h1 (by omega) (by omega)
  obtain ⟨spot, rfl⟩ : ∃ i : Nat, v1 = i := ⟨v1.toNat, (Int.toNat_of_nonneg a1).symm⟩
  obtain ⟨kind, rfl⟩ : ∃ i : Nat, v2 = i := ⟨v2.toNat, (Int.toNat_of_nonneg a2).symm⟩
  have hs : spot < ls.length := by omega
  have hline := hL.l ls[spot] (List.getElem_mem hs)
  generalize hrow : Txt.split ls[spot] sp = row
  have hrl : row.length ≤ B + 1 := by rw [← hrow]; exact hline.pieces
  have hsum : (row.map (·.length)).sum + row.length ≤ B + 1 := by
    have := split_sum ls[spot]
    rw [hrow] at this
    have := hline.b
    omega
  have hpc : ∀ p ∈ row, Ln B p := fun p hp => hline.piece (by rw [hrow]; exact hp)
  obtain ⟨v3, S3, e3, h3, a3, b3⟩ := next_ok (tbl := tbl) (n := n + 1) (cap := (row.length : Int) + 1) h2 (by omega) (by omega)
  obtain ⟨k, rfl⟩ : ∃ i : Nat, v3 = i := ⟨v3.toNat, (Int.toNat_of_nonneg a3).symm⟩
  let δ0 : Env := [some (.loc 1), some (.lst (ls.map .str)), some (.lst (odd.map .str)), none, none, none, none, none]
  let δ1 : Env := [some (.loc 1), some (.lst (ls.map .str)), some (.lst (odd.map .str)), none, none, some (.int spot), some (.int kind), none]
  let δ2 : Env := [some (.loc 1), some (.lst (ls.map .str)), some (.lst (odd.map .str)), some (.lst (row.map .str)), some (.int k), some (.int spot), some (.int kind), none]
  have s1 : evS (Phi tbl (n + 2)) (.par [5, 6] (.cons (.call 4 (.cons (.var 0) (.cons (.bi .len (.cons (.var 1) .nil)) .nil))) (.cons (.call 4 (.cons (.var 0) (.cons (.con (.int 7)) .nil))) .nil))) δ0 S = .nxt δ1 S2 :=
    par_eq (ds := [.int spot, .int kind]) (by simp [δ0, e1, e2]) (by simp [δ0, δ1])
  have es := split_ev (S := S2) (Φ := Phi tbl (n + 2)) (δ := δ1) (e := .ix (.var 1) (.var 5)) hline (by omega) (by simp [δ1, ixN_nat hs, List.getElem?_eq_getElem hs])
  rw [hrow] at es
  have hL1 : ls.length ≤ 10000 := by omega
  rw [phi117]
  -- what stays of the lines
  have k1 : ∀ (Sx : Sto) (δx : Env), δx[1]? = some (some (.lst (ls.map .str))) → δx[5]? = some (some (.int spot)) → ev (Phi tbl (n + 2)) (.sl (.var 1) (.con .non) (.var 5)) δx Sx = .ok (.lst ((ls.take spot).map .str)) Sx := fun Sx δx g1 g5 =>
    sl_to (S1 := Sx) (by simp [g1]) (by simp [g5]) rfl
  have k2 : ∀ (Sx : Sto) (δx : Env), δx[1]? = some (some (.lst (ls.map .str))) → δx[5]? = some (some (.int spot)) → ev (Phi tbl (n + 2)) (.sl (.var 1) (.bin .Add (.var 5) (.con (.int 1))) (.con .non)) δx Sx = .ok (.lst ((ls.drop (spot + 1)).map .str)) Sx := fun Sx δx g1 g5 =>
    sl_from (S1 := Sx) (by simp [g1]) (by simp [g5]) rfl
  have k3 : ∀ (Sx : Sto) (δx : Env), δx[1]? = some (some (.lst (ls.map .str))) → δx[5]? = some (some (.int spot)) → ev (Phi tbl (n + 2)) (.sl (.var 1) (.con .non) (.bin .Add (.var 5) (.con (.int 1)))) δx Sx = .ok (.lst ((ls.take (spot + 1)).map .str)) Sx := fun Sx δx g1 g5 =>
    sl_to (S1 := Sx) (by simp [g1]) (by simp [g5]) rfl
  have k4 : ∀ (Sx : Sto) (δx : Env), δx[1]? = some (some (.lst (ls.map .str))) → δx[5]? = some (some (.int spot)) → ev (Phi tbl (n + 2)) (.sl (.var 1) (.var 5) (.con .non)) δx Sx = .ok (.lst ((ls.drop spot).map .str)) Sx := fun Sx δx g1 g5 =>
    sl_from (S1 := Sx) (by simp [g1]) (by simp [g5]) rfl
  have hd : ∀ (ls' : List Str) (S' : Sto), Hs rest S' → evSs (Phi tbl (n + 2)) fd117.body δ0 S = .ret (.lst (ls'.map .str)) S' → runF (Phi tbl (n + 2)) fd117 [.loc 1, .lst (ls.map .str), .lst (odd.map .str)] S = .ok (.lst (ls'.map .str)) S' := fun ls' S' hh hb =>
    run_ret (fd := fd117) (by rfl) hb (by rw [if_neg (show ¬ fd117.own = true by simp [fd117])]; exact h.cut hh _)
  have s2 : ∀ (ss : Sms), evSs (Phi tbl (n + 2)) (.cons (.par [5, 6] (.cons (.call 4 (.cons (.var 0) (.cons (.bi .len (.cons (.var 1) .nil)) .nil))) (.cons (.call 4 (.cons (.var 0) (.cons (.con (.int 7)) .nil))) .nil))) (.cons (.asg (.nm 3) (.tsp (.ix (.var 1) (.var 5)) (.con (.str " ")))) (.cons (.asg (.nm 4) (.call 4 (.cons (.var 0) (.cons (.bin .Add (.bi .len (.cons (.var 3) .nil)) (.con (.int 1))) .nil)))) ss))) δ0 S = evSs (Phi tbl (n + 2)) ss δ2 S3 := fun ss => by
    rw [evSs_step s1, evSs_step (asg_eq (δ' := [some (.loc 1), some (.lst (ls.map .str)), some (.lst (odd.map .str)), some (.lst (row.map .str)), none, some (.int spot), some (.int kind), none]) es (by simp [δ1])),
      evSs_step (asg_eq (d := .int k) (S' := S3) (δ' := δ2) (by simp [e3]) (by simp [δ2]))]
  by_cases q3 : kind < 3
  · have q3' : (kind : Int) < 3 := by omega
    obtain ⟨o, S4, e4, h4, mo⟩ := picks_ok (tbl := tbl) (n := n) odd h3 ho0 (by omega)
    have hO := ho o mo
    obtain ⟨m, em⟩ : ∃ m : Nat, (m : Int) = (if (1 : Int) < (kind : Int) then (1 : Int) else (kind : Int)) := by
      by_cases z : (1 : Int) < (kind : Int)
      · exact ⟨1, by rw [if_pos z]; rfl⟩
      · exact ⟨kind, by rw [if_neg z]⟩
    let new := row.take k ++ [o] ++ row.drop (k + m)
    have hnew : (new.map (·.length)).sum + new.length ≤ B + 7 := by
      have t1 := sum_take_drop (row.map (·.length)) k m
      have t2 : (row.take k).length + (row.drop (k + m)).length ≤ row.length := by
        rw [List.length_take, List.length_drop]; omega
      have := hO.b
      show ((row.take k ++ [o] ++ row.drop (k + m)).map (·.length)).sum + (row.take k ++ [o] ++ row.drop (k + m)).length ≤ _
      simp only [List.map_append, List.map_take, List.map_drop, List.sum_append, List.length_append, List.map_cons, List.map_nil, List.sum_cons, List.sum_nil, List.length_cons, List.length_nil]
      omega
    have hnl : Ln (B + 7) (Txt.join sp new) := join_ln (B := B) (fun p hp => by
      rcases List.mem_append.mp hp with hp | hp
      · rcases List.mem_append.mp hp with hp | hp
        · exact hpc p (List.mem_of_mem_take hp)
        · rw [List.mem_singleton.mp hp]; exact hO.mono (by omega)
      · exact hpc p (List.mem_of_mem_drop hp)) hnew
    have ej := join_ev (S := S3) (S' := S4) (Φ := Phi tbl (n + 2)) (δ := δ2) (y := " ") (ps := new) tl_sp (by omega) (e := .bin .Add (.bin .Add (.sl (.var 3) (.con .non) (.var 4)) (.lst false (.cons (.call 6 (.cons (.var 0) (.cons (.var 2) .nil))) .nil))) (.sl (.var 3) (.bin .Add (.var 4) (.bi .min2 (.cons (.var 6) (.cons (.con (.int 1)) .nil)))) (.con .non)))
      (add_ev (S1 := S4) (add_ev (S1 := S3) (sl_to (S1 := S3) (by simp [δ2]) (by simp [δ2]) rfl) (one_ev (by simp [δ2, e4])) (by rw [List.length_take]; simp; omega)) (sl_from (S1 := S4) (by simp [δ2]) (by simp [δ2, ← em]) rfl) (by rw [List.length_append, List.length_take, List.length_drop]; simp; omega))
    let δ3 : Env := [some (.loc 1), some (.lst (ls.map .str)), some (.lst (odd.map .str)), some (.lst (row.map .str)), some (.int k), some (.int spot), some (.int kind), some (.str (Txt.join sp new))]
    refine ⟨ls.take spot ++ [Txt.join sp new] ++ ls.drop (spot + 1), S4, hd _ S4 h4 ?_, h4, put_lns hL (by omega) _ _ hnl, by simp; omega⟩
    unfold fd117
    rw [s2, evSs_cons, ite_eq (S' := S3) (t := true) (by simp [δ2, q3']), if_pos rfl, evSs_step (asg_eq (δ' := δ3) ej (by simp [δ2, δ3])), evSs_cons,
      ret_eq (add_ev (S1 := S4) (add_ev (S1 := S4) (k1 _ _ rfl rfl) (one_ev (w := Txt.join sp new) (by simp [δ3])) (by simp; omega)) (k2 _ _ rfl rfl) (by simp; omega))]
    rfl
  · have q3' : ¬ (kind : Int) < 3 := by omega
    have f1 : evS (Phi tbl (n + 2)) (.ite (.cmp .lt (.var 6) (.con (.int 3))) (.cons (.asg (.nm 7) (.tjn (.con (.str " ")) (.bin .Add (.bin .Add (.sl (.var 3) (.con .non) (.var 4)) (.lst false (.cons (.call 6 (.cons (.var 0) (.cons (.var 2) .nil))) .nil))) (.sl (.var 3) (.bin .Add (.var 4) (.bi .min2 (.cons (.var 6) (.cons (.con (.int 1)) .nil)))) (.con .non))))) (.cons (.ret (.bin .Add (.bin .Add (.sl (.var 1) (.con .non) (.var 5)) (.lst false (.cons (.var 7) .nil))) (.sl (.var 1) (.bin .Add (.var 5) (.con (.int 1))) (.con .non)))) .nil)) .nil) δ2 S3 = .nxt δ2 S3 := skip_eq (by simp [δ2, q3'])
    by_cases q4 : kind = 3
    · subst q4
      have hnew : ((row.take k).map (·.length)).sum + (row.take k).length ≤ B + 7 := by
        have t1 := sum_take_drop (row.map (·.length)) k 0
        rw [List.map_take, List.length_take]
        omega
      have hnl : Ln (B + 7) (Txt.join sp (row.take k)) := join_ln (B := B) (fun p hp => hpc p (List.mem_of_mem_take hp)) hnew
      have ej := join_ev (S := S3) (S' := S3) (Φ := Phi tbl (n + 2)) (δ := δ2) (y := " ") (ps := row.take k) tl_sp (by omega) (e := .sl (.var 3) (.con .non) (.var 4)) (sl_to (S1 := S3) (by simp [δ2]) (by simp [δ2]) rfl)
      refine ⟨ls.take spot ++ [Txt.join sp (row.take k)] ++ ls.drop (spot + 1), S3, hd _ S3 h3 ?_, h3, put_lns hL (by omega) _ _ hnl, by simp; omega⟩
      unfold fd117
      rw [s2, evSs_step f1, evSs_cons, ite_eq (S' := S3) (t := true) (by simp [δ2]), if_pos rfl, evSs_cons,
        ret_eq (add_ev (S1 := S3) (add_ev (S1 := S3) (k1 _ _ rfl rfl) (one_ev ej) (by simp; omega)) (k2 _ _ rfl rfl) (by simp; omega))]
      rfl
    · have f2 : ∀ a : Sms, evS (Phi tbl (n + 2)) (.ite (.cmp .eq (.var 6) (.con (.int 3))) a .nil) δ2 S3 = .nxt δ2 S3 := fun a => skip_eq (by
        have : ¬ (kind : Int) = 3 := by omega
        simp [δ2, this])
      by_cases q5 : kind = 4
      · subst q5
        have n0 : Ln B "" := ⟨asc_nil, by decide +kernel, by
          have : ("" : Str).length = 0 := by decide +kernel
          omega⟩
        have n1 : Ln B "stage" := ⟨stage_asc, by decide +kernel, by
          have : ("stage" : Str).length = 5 := by decide +kernel
          omega⟩
        have n2 : Ln B "stage 0 9999" := by
          have e : tl ("stage 0 9999" : Str) = [115, 116, 97, 103, 101, 32, 48, 32, 57, 57, 57, 57] := by decide +kernel
          refine ⟨fun c hc => ?_, by rw [e]; decide, by rw [len_eq, e]; simp; omega⟩
          rw [e] at hc
          simp at hc
          omega
        obtain ⟨o, S4, e4, h4, mo⟩ := picks_ok (tbl := tbl) (n := n) ["", "stage", ls[spot], "stage 0 9999"] h3 (by simp) (by simp)
        have hO : Ln B o := by
          simp only [List.mem_cons, List.not_mem_nil, or_false] at mo
          rcases mo with rfl | rfl | rfl | rfl
          · exact n0
          · exact n1
          · exact hline
          · exact n2
        refine ⟨ls.take (spot + 1) ++ [o] ++ ls.drop (spot + 1), S4, hd _ S4 h4 ?_, h4, put_lns hL (by omega) _ _ (hO.mono (by omega)), by simp; omega⟩
        unfold fd117
        rw [s2, evSs_step f1, evSs_step (f2 _), evSs_cons, ite_eq (S' := S3) (t := true) (by simp [δ2]), if_pos rfl, evSs_cons,
          ret_eq (add_ev (S1 := S4) (add_ev (S1 := S3) (k3 _ _ rfl rfl) (one_ev (w := o) (by
            have e4' : Phi tbl (n + 2) 6 [.loc 1, .lst [.str "", .str "stage", .str ls[spot], .str "stage 0 9999"]] S3 = .ok (.str o) S4 := e4
            simp [δ2, ixN_nat hs, List.getElem?_eq_getElem hs, e4'])) (by simp; omega)) (k2 _ _ rfl rfl) (by simp; omega))]
        rfl
      · have f3 : ∀ a : Sms, evS (Phi tbl (n + 2)) (.ite (.cmp .eq (.var 6) (.con (.int 4))) a .nil) δ2 S3 = .nxt δ2 S3 := fun a => skip_eq (by
          have : ¬ (kind : Int) = 4 := by omega
          simp [δ2, this])
        by_cases q6 : kind = 5
        · subst q6
          obtain ⟨m, em⟩ : ∃ m : Nat, (m : Int) = (if (1 : Int) < (spot : Int) then (spot : Int) else (1 : Int)) := by
            by_cases z : (1 : Int) < (spot : Int)
            · exact ⟨spot, by rw [if_pos z]⟩
            · exact ⟨1, by rw [if_neg z]; rfl⟩
          have hm : 0 < m := by
            by_cases z : (1 : Int) < (spot : Int)
            · rw [if_pos z] at em; omega
            · rw [if_neg z] at em; omega
          refine ⟨ls.take m, S3, hd _ S3 h3 ?_, h3, ⟨by
            intro e
            have := congrArg List.length e
            rw [List.length_take, List.length_nil] at this
            omega, fun l hl => (hL.l l (List.mem_of_mem_take hl)).mono (by omega)⟩, by rw [List.length_take]; omega⟩
          unfold fd117
          have c5 : evT (Phi tbl (n + 2)) (.cmp .eq (.var 6) (.con (.int 5))) δ2 S3 = .ok true S3 := by simp [δ2]
          rw [s2, evSs_step f1, evSs_step (f2 _), evSs_step (f3 _), evSs_cons, ret_eq (S' := S3) (d := .lst ((ls.take m).map .str))]
          · rfl
          · have := sl_to (S := S3) (S1 := S3) (S2 := S3) (Φ := Phi tbl (n + 2)) (δ := δ2) (a := .var 1) (b := .bi .max2 (.cons (.con (.int 1)) (.cons (.var 5) .nil))) (l := ls) (k := m) (by simp [δ2]) (by simp [δ2, ← em]) rfl
            rw [ev, show ev (Phi tbl (n + 2)) (.cmp .eq (.var 6) (.con (.int 5))) δ2 S3 = .ok (.bl true) S3 by simp [δ2], R.bind_ok, show truthD (.bl true) = some true from rfl, R.lift_some, R.bind_ok, if_pos rfl, this]
        · refine ⟨ls.drop spot ++ ls.take spot, S3, hd _ S3 h3 ?_, h3, ⟨by
            intro e
            have := congrArg List.length e
            rw [List.length_append, List.length_drop, List.length_nil] at this
            omega, fun l hl => by
              rcases List.mem_append.mp hl with hl | hl
              · exact (hL.l l (List.mem_of_mem_drop hl)).mono (by omega)
              · exact (hL.l l (List.mem_of_mem_take hl)).mono (by omega)⟩, by rw [List.length_append, List.length_drop, List.length_take]; omega⟩
          unfold fd117
          rw [s2, evSs_step f1, evSs_step (f2 _), evSs_step (f3 _), evSs_cons, ret_eq (S' := S3) (d := .lst ((ls.drop spot ++ ls.take spot).map .str))]
          · rfl
          · have := add_ev (S := S3) (S1 := S3) (S2 := S3) (Φ := Phi tbl (n + 2)) (δ := δ2) (k4 S3 δ2 rfl rfl) (k1 S3 δ2 rfl rfl) (by rw [List.length_drop, List.length_take]; omega)
            have q6' : ¬ (kind : Int) = 5 := by omega
            rw [ev, show ev (Phi tbl (n + 2)) (.cmp .eq (.var 6) (.con (.int 5))) δ2 S3 = .ok (.bl false) S3 by simp [δ2, q6'], R.bind_ok, show truthD (.bl false) = some false from rfl, R.lift_some, R.bind_ok, if_neg Bool.false_ne_true, this]
end Lw

set_option Elab.async false
set_option linter.all false
set_option maxRecDepth 100000
set_option maxHeartbeats 2000000
/-! law k11 -/
namespace Lw
open PySem PySem.Spec PyProof.Rows L2 Py TL
variable {tbl : List (Nat × FD)} {n : Nat} {S : Sto}
/-- a line as it is written -/
def stL (r p : Nat) : Str := ((("stage " : Str) ++ numT r) ++ " ") ++ numT p
theorem tl_stage : tl ("stage " : Str) = [115, 116, 97, 103, 101, 32] := by decide +kernel
theorem tl_stL (r p : Nat) : tl (stL r p) = [115, 116, 97, 103, 101, 32] ++ numL r ++ [32] ++ numL p := by
  unfold stL
  rw [tl_append, tl_append, tl_append, tl_stage, tl_sp, tl_numT, tl_numT]
theorem stL_ln {r p : Nat} (hr : r < 10 ^ 4) (hp : p < 10 ^ 5) : Ln 20 (stL r p) := by
  have e := tl_stL r p
  have key : ∀ c ∈ tl (stL r p), c < 128 ∧ c ≠ 10 := fun c hc => by
    rw [e] at hc
    rcases List.mem_append.mp hc with hc | hc
    · rcases List.mem_append.mp hc with hc | hc
      · rcases List.mem_append.mp hc with hc | hc
        · simp at hc; omega
        · have := numL_digits r c hc; omega
      · simp at hc; omega
    · have := numL_digits p c hc; omega
  refine ⟨fun c hc => (key c hc).1, fun hc => (key 10 hc).2 rfl, ?_⟩
  have h1 := numL_len (n := r) (k := 4) (by omega) hr
  have h2 := numL_len (n := p) (k := 5) (by omega) hp
  rw [len_eq, e]
  simp only [List.length_append, List.length_cons, List.length_nil]
  omega
theorem numT_len {r : Nat} (h : r < 10 ^ 7) : (numT r).length ≤ 7 := by
  rw [len_eq, tl_numT]
  exact numL_len (by omega) h
theorem len_app (a b : Str) : (a ++ b).length = a.length + b.length := by rw [len_eq, tl_append, List.length_append, ← len_eq, ← len_eq]
/-- "stage " + str(..) + " " + str(..) -/
theorem stL_ev {Φ : Fns} {δ : Env} {a b : Py.Tm} {r p : Nat} (ha : ev Φ a δ S = .ok (.int r) S) (hb : ev Φ b δ S = .ok (.int p) S) (hr : r < 10 ^ 7) (hp : p < 10 ^ 7) :
    ev Φ (.bin .Add (.bin .Add (.bin .Add (.con (.str "stage ")) (.sti a)) (.con (.str " "))) (.sti b)) δ S = .ok (.str (stL r p)) S := by
  have l0 : ("stage " : Str).length = 6 := by decide +kernel
  have l1 : (" " : Str).length = 1 := by decide +kernel
  have l2 := numT_len hr
  have l3 := numT_len hp
  have s1 : ev Φ (.sti a) δ S = .ok (.str (numT r)) S := by rw [ev, ha, R.bind_ok, sti_ok r hr]; rfl
  have s2 : ev Φ (.sti b) δ S = .ok (.str (numT p)) S := by rw [ev, hb, R.bind_ok, sti_ok p hp]; rfl
  have g : ∀ (x y : Str), x.length + y.length ≤ 10000 → binD .Add S (.str x) (.str y) = some (.str (x ++ y)) := fun x y h => by simp [h]
  have k0 : ev Φ (.con (.str "stage ")) δ S = .ok (.str "stage ") S := by rw [ev]
  have k1 : ev Φ (.con (.str " ")) δ S = .ok (.str " ") S := by rw [ev]
  refine bin_eq (bin_eq (bin_eq k0 s1 (g _ _ (by omega))) k1 (g _ _ ?_)) s2 (g _ _ ?_)
  · rw [len_app]; omega
  · rw [len_app, len_app]; omega
def odd11 : List Str := ["", "0", "1", "7", "02", "-1", "1000", "1001", "10000", "10001", "x", "+1", "1.0", "stage", "Stage", "\t"]
theorem odd_ln : ∀ w ∈ odd11, Ln 5 w := by
  have h : (odd11.all fun w => (tl w).all (fun c => decide (c < 128)) && !(tl w).contains 10 && decide (w.length ≤ 5)) = true := by decide +kernel
  intro w hw
  have := List.all_eq_true.mp h w hw
  simp only [Bool.and_eq_true, List.all_eq_true, decide_eq_true_eq, Bool.not_eq_true'] at this
  obtain ⟨⟨a, b⟩, c⟩ := this
  refine ⟨a, fun hm => ?_, c⟩
  rw [List.contains_iff_mem.mpr hm] at b
  cases b
theorem lns_sum {B : Nat} {ls : List Str} (h : ∀ l ∈ ls, Ln B l) : (ls.map (·.length)).sum ≤ ls.length * B := by
  induction ls with
  | nil => simp
  | cons a r ih =>
    rw [List.map_cons, List.sum_cons, List.length_cons, Nat.succ_mul]
    have := ih fun l hl => h l (List.mem_cons_of_mem _ hl)
    have := (h a (List.mem_cons_self ..)).b
    omega
theorem for_eq2 {Φ : Fns} {t : Tg} {w : Py.It} {b : Sms} {δ : Env} {S S' : Sto} {k : Wk} (h : evI Φ w δ S = .ok k S') : evS Φ (.for_ t w b) δ S = forL t (evSs Φ b) k k.1 δ S' := by
  rw [evS, h]; rfl
theorem compB_one {Φ : Fns} {v : Nat} {c : Tms} {e : Py.Tm} {δ : Env} {d : Py.D} (hv : v < δ.length) : compB Φ [v] (.nm v) c e δ d S = (evc Φ c (δ.set v (some d)) S).bind fun b S => if b then (ev Φ e (δ.set v (some d)) S).bind fun y S => .ok (some y) S else .ok none S := by
  unfold compB
  have : asgT S (.nm v) d (wipeE δ [v]) = some (δ.set v (some d)) := by
    simp [wipeE, hv]
  rw [this]
/-- the changes -/
theorem loop11 [K118 tbl] {d0 o3 o4 o5 o8 o9 o10 o11 : Option Py.D} {xs c : List Py.D} {B : Nat} : ∀ (j k : Nat) (S : Sto) (ls : List Str) (i : Nat) (o7 : Option Py.D), Hs [] S → Lns (20 + 7 * i) ls → ls.length + j ≤ 50 → i + j ≤ 50 →
    ∃ S' ls' p7, forL (.nm 7) (evSs (Phi tbl (n + 4)) fb118_1) (xs, none, c) (rngD (k : Int) j) [d0, some (.loc 1), some (.lst (odd11.map .str)), o3, o4, o5, some (.lst (ls.map .str)), o7, o8, o9, o10, o11] S
      = .nxt [d0, some (.loc 1), some (.lst (odd11.map .str)), o3, o4, o5, some (.lst (ls'.map .str)), p7, o8, o9, o10, o11] S' ∧ Hs [] S' ∧ Lns (20 + 7 * (i + j)) ls' ∧ ls'.length ≤ ls.length + j
  | 0, k, S, ls, i, o7, h, hl, _, _ => ⟨S, ls, o7, rfl, h, hl, Nat.le_refl _⟩
  | j + 1, k, S, ls, i, o7, h, hl, hn, hi => by
    obtain ⟨ls1, S1, e1, h1, l1, n1⟩ := changed_ok (tbl := tbl) (n := n + 1) h (B := 20 + 7 * i) (ls := ls) (odd := odd11) hl (by omega) (by omega) odd_ln (by decide) (by decide) rfl
    obtain ⟨S2, ls2, p7, e2, h2, l2, n2⟩ := loop11 (B := B) j (k + 1) S1 ls1 (i + 1) (some (.int k)) h1 (by rw [show 20 + 7 * (i + 1) = 20 + 7 * i + 7 by omega]; exact l1) (by omega) (by omega)
    refine ⟨S2, ls2, p7, ?_, h2, by rw [show i + (j + 1) = i + 1 + j by omega]; exact l2, by omega⟩
    rw [rngD, forL_cons]
    have et : turnF (.nm 7) (evSs (Phi tbl (n + 4)) fb118_1) (.int (k : Int)) [d0, some (.loc 1), some (.lst (odd11.map .str)), o3, o4, o5, some (.lst (ls.map .str)), o7, o8, o9, o10, o11] S
        = .nxt [d0, some (.loc 1), some (.lst (odd11.map .str)), o3, o4, o5, some (.lst (ls1.map .str)), some (.int k), o8, o9, o10, o11] S1 := by
      show evSs (Phi tbl (n + 4)) fb118_1 [d0, some (.loc 1), some (.lst (odd11.map .str)), o3, o4, o5, some (.lst (ls.map .str)), some (.int k), o8, o9, o10, o11] S = _
      unfold fb118_1
      rw [evSs_step (asg_eq (d := .lst (ls1.map .str)) (S' := S1) (δ' := [d0, some (.loc 1), some (.lst (odd11.map .str)), o3, o4, o5, some (.lst (ls1.map .str)), some (.int k), o8, o9, o10, o11]) (by simp [e1]) (by simp)), evSs_nil]
    rw [et, Out.bind_nxt]
    exact_mod_cast e2
theorem Pl_opt (o : Option (Int × Int)) : Pl 2 (optP o) := by
  cases o with
  | none => trivial
  | some p => exact ⟨by simp, fun d h => by simp at h; rcases h with rfl | rfl <;> trivial⟩
theorem turn11 [K118 tbl] {d0 o3 o4 o5 o6 o7 o8 o9 o10 o11 : Option Py.D} (h : Hs [] S) :
    ∃ S' p6 p7 p8 p9, evSs (Phi tbl (n + 6)) fb118_2 [d0, some (.loc 1), some (.lst (odd11.map .str)), o3, o4, o5, o6, o7, o8, o9, o10, o11] S
      = .nxt [d0, some (.loc 1), some (.lst (odd11.map .str)), o3, o4, o5, p6, p7, p8, p9, o10, o11] S' ∧ Hs [] S' := by
  obtain ⟨L, S1, e1, h1, F⟩ := stages_ok (tbl := tbl) (n := n + 3) h rfl
  have v := F.vs
  have hlo := v.lo
  have hhi := v.hi
  obtain ⟨m, S2, e2, h2, mm⟩ := picki_ok (tbl := tbl) (n := n + 4) [0, 1, 1, 2] h1 (by decide) (by decide)
  obtain ⟨j, rfl, hj⟩ : ∃ j : Nat, m = j ∧ j ≤ 2 := by
    simp at mm
    rcases mm with rfl | rfl | rfl
    · exact ⟨0, rfl, by omega⟩
    · exact ⟨1, rfl, by omega⟩
    · exact ⟨2, rfl, by omega⟩
  have e2' : Phi tbl (n + 6) 6 [.loc 1, .lst [.int 0, .int 1, .int 1, .int 2]] S1 = .ok (.int (j : Int)) S2 := e2
  let sL : Int × Int → Str := fun q => stL q.1.toNat q.2.toNat
  let δ1 : Env := [d0, some (.loc 1), some (.lst (odd11.map .str)), o3, o4, o5, o6, o7, some (.tup (rts L)), some (.tup (prs L)), o10, o11]
  have rz := rngD_map L.length 0
  rw [show ((0 : Nat) : Int) = 0 from rfl] at rz
  have rg := rngW_one (m := L.length) (by omega)
  have zr : (rts L).length = L.length := by simp [rts]
  have ec := comp_map (S := S1) (S1 := S1) (Φ := Phi tbl (n + 6)) (vs := [10]) (t := .nm 10) (w := .rng (.cons (.bi .len (.cons (.var 8) .nil)) .nil)) (c := .nil) (e := ce118_0) (δ := δ1)
    (xs := rngD 0 L.length) (c' := []) (l := List.range' 0 L.length) (fun i : Nat => Py.D.int (i : Int)) (fun k => .str (sL (row L k))) (by simp [δ1, zr, rg, -rngW]) rz (fun k hk => by
      obtain ⟨_, hk⟩ := List.mem_range'_1.mp hk
      have hk : k < L.length := by omega
      obtain ⟨r1, r2⟩ := v.r0 k hk
      obtain ⟨p1, p2⟩ := v.p0 k hk
      have zp : (prs L).length = L.length := by simp [prs]
      have es := stL_ev (S := S1) (Φ := Phi tbl (n + 6)) (δ := [d0, some (.loc 1), some (.lst (odd11.map .str)), o3, o4, o5, o6, o7, some (.tup (rts L)), some (.tup (prs L)), some (.int (k : Int)), o11]) (a := .ix (.var 8) (.var 10)) (b := .ix (.var 9) (.var 10)) (r := (row L k).1.toNat) (p := (row L k).2.toNat)
        (by
          have e : L[k]? = some (row L k) := by simp [row, List.getD, hk]
          rw [Int.toNat_of_nonneg r1]
          simp [zr, ixN_nat hk, rts, List.getElem?_map, e])
        (by
          have e : L[k]? = some (row L k) := by simp [row, List.getD, hk]
          rw [Int.toNat_of_nonneg p1]
          simp [zp, ixN_nat hk, prs, List.getElem?_map, e]) (by omega) (by omega)
      rw [compB_one (by simp [δ1])]
      show (evc (Phi tbl (n + 6)) .nil [d0, some (.loc 1), some (.lst (odd11.map .str)), o3, o4, o5, o6, o7, some (.tup (rts L)), some (.tup (prs L)), some (.int (k : Int)), o11] S1).bind _ = _
      rw [evc, R.bind_ok, if_pos rfl]
      show (ev (Phi tbl (n + 6)) ce118_0 [d0, some (.loc 1), some (.lst (odd11.map .str)), o3, o4, o5, o6, o7, some (.tup (rts L)), some (.tup (prs L)), some (.int (k : Int)), o11] S1).bind _ = _
      unfold ce118_0
      rw [es]; rfl) (by simp; omega)
  rw [range_row L (fun q => Py.D.str (sL q))] at ec
  have ec' : L.map (fun q => Py.D.str (sL q)) = (L.map sL).map .str := by rw [List.map_map]; rfl
  rw [ec'] at ec
  have hL : Lns (20 + 7 * 0) (L.map sL) := by
    refine ⟨fun e => ?_, fun l hl => ?_⟩
    · have := congrArg List.length e
      simp at this
      rw [this] at hlo
      simp at hlo
    · obtain ⟨q, hq, rfl⟩ := List.mem_map.mp hl
      obtain ⟨k, hk, rfl⟩ := List.mem_iff_getElem.mp hq
      have e : L[k] = row L k := by simp [row, List.getD, hk]
      rw [e]
      obtain ⟨r1, r2⟩ := v.r0 k hk
      obtain ⟨p1, p2⟩ := v.p0 k hk
      exact stL_ln (by omega) (by omega)
  obtain ⟨S3, ls, p7, e3, h3, l3, n3⟩ := loop11 (tbl := tbl) (n := n + 2) (B := 0) (d0 := d0) (o3 := o3) (o4 := o4) (o5 := o5) (o8 := some (.tup (rts L))) (o9 := some (.tup (prs L))) (o10 := o10) (o11 := o11) (xs := rngD 0 j) (c := []) j 0 S2 (L.map sL) 0 o7 h2 hL (by simp; omega) (by omega)
  rw [show ((0 : Nat) : Int) = 0 from rfl, show n + 2 + 4 = n + 6 by omega] at e3
  have hB : 20 + 7 * (0 + j) ≤ 34 := by omega
  have l3' : ∀ l ∈ ls, Ln 34 l := fun l hl => (l3.l l hl).mono hB
  have hn : ls.length ≤ 8 := by simp at n3; omega
  have hcl : closed S3.length S3 = true := h3.closed _ (by rw [h3.len]; simp) rfl
  have hsum := lns_sum l3'
  have hsz : (ls.map (·.length)).sum + ls.length ≤ 10000 := by
    have : ls.length * 34 ≤ 8 * 34 := Nat.mul_le_mul_right _ hn
    omega
  have ea := law_answer_ok (tbl := tbl) (n := n + 1) (S := S3) l3.ne l3' (by omega) (Nat.le_trans (join_len tl_nl ls) hsz) (by omega) hcl
  have ed := law_due_ok (tbl := tbl) (n := n + 3) (S := S3) l3' (by omega) (by omega)
  have el := alike_ok (tbl := tbl) (n := n + 4) (S := S3) 2 (optP (due (ls.map wds))) (Pl_opt _)
  rw [show n + 1 + 5 = n + 6 by omega] at ea
  rw [show n + 3 + 3 = n + 6 by omega] at ed
  rw [show n + 4 + 2 = n + 6 by omega] at el
  let δ3 : Env := [d0, some (.loc 1), some (.lst (odd11.map .str)), o3, o4, o5, some (.lst (ls.map .str)), p7, some (.tup (rts L)), some (.tup (prs L)), o10, o11]
  have ej := join_ev (S := S3) (S' := S3) (Φ := Phi tbl (n + 6)) (δ := δ3) (y := "\n") (ps := ls) tl_nl hsz (e := .var 6) (by simp [δ3])
  have rj := rngW_one (m := j) (by omega)
  refine ⟨S3, some (.lst (ls.map .str)), p7, some (.tup (rts L)), some (.tup (prs L)), ?_, h3⟩
  unfold fb118_2
  rw [evSs_step (asg_eq (d := .tup [.tup (rts L), .tup (prs L)]) (S' := S1) (δ' := δ1) (by simp [e1]) (by simp [δ1]))]
  rw [evSs_step (asg_eq (δ' := [d0, some (.loc 1), some (.lst (odd11.map .str)), o3, o4, o5, some (.lst ((L.map sL).map .str)), o7, some (.tup (rts L)), some (.tup (prs L)), o10, o11]) ec (by simp [δ1]))]
  rw [evSs_step ((for_eq2 (k := (rngD 0 j, none, [])) (S := S1) (S' := S2) (by simp [e2', rj, -rngW])).trans e3)]
  rw [evSs_step (skip_eq (S' := S3) (by
    rw [evT, ev, ev, evs2 (call_eq (evs1 ej) ea) (S2 := S3) (y := optP (due (ls.map wds))) (call_eq (evs1 (x := .lst (ls.map .str)) (S1 := S3) (by rfl)) ed), R.bind_ok, el]
    rfl)), evSs_nil]
theorem loops11 [K118 tbl] {d0 o4 o5 o10 o11 : Option Py.D} {xs c : List Py.D} : ∀ (j k : Nat) (S : Sto) (o3 o6 o7 o8 o9 : Option Py.D), Hs [] S →
    ∃ S' p3 p6 p7 p8 p9, forL (.nm 3) (evSs (Phi tbl (n + 6)) fb118_2) (xs, none, c) (rngD (k : Int) j) [d0, some (.loc 1), some (.lst (odd11.map .str)), o3, o4, o5, o6, o7, o8, o9, o10, o11] S
      = .nxt [d0, some (.loc 1), some (.lst (odd11.map .str)), p3, o4, o5, p6, p7, p8, p9, o10, o11] S' ∧ Hs [] S'
  | 0, k, S, o3, o6, o7, o8, o9, h => ⟨S, o3, o6, o7, o8, o9, rfl, h⟩
  | j + 1, k, S, o3, o6, o7, o8, o9, h => by
    obtain ⟨S1, p6, p7, p8, p9, e1, q1⟩ := turn11 (tbl := tbl) (n := n) (d0 := d0) (o3 := some (.int k)) (o4 := o4) (o5 := o5) (o6 := o6) (o7 := o7) (o8 := o8) (o9 := o9) (o10 := o10) (o11 := o11) h
    obtain ⟨S2, r3, r6, r7, r8, r9, e2, q2⟩ := loops11 j (k + 1) S1 (some (.int k)) p6 p7 p8 p9 q1
    refine ⟨S2, r3, r6, r7, r8, r9, ?_, q2⟩
    rw [rngD, forL_cons]
    have et : turnF (.nm 3) (evSs (Phi tbl (n + 6)) fb118_2) (.int (k : Int)) [d0, some (.loc 1), some (.lst (odd11.map .str)), o3, o4, o5, o6, o7, o8, o9, o10, o11] S = .nxt [d0, some (.loc 1), some (.lst (odd11.map .str)), some (.int k), o4, o5, p6, p7, p8, p9, o10, o11] S1 := e1
    rw [et, Out.bind_nxt]
    exact_mod_cast e2
/-- the texts that are worked by hand -/
def some11 : List (List Str) := [[""], ["stage"], ["stage 5"], ["stage 5 0"], ["stage 5 1"], ["stage 5 0", "stage 5 1"], ["stage 5 0", "stage 4 0"]]
def seven : List Str := (List.range' 0 7).map fun k => stL (9 - k) k
theorem some_ln : ∀ ls ∈ some11 ++ [seven], Lns 20 ls ∧ (ls.map (·.length)).sum + ls.length ≤ 200 ∧ ls.length ≤ 7 := by
  have h : ((some11 ++ [seven]).all fun ls => decide (ls ≠ []) && (ls.all fun w => (tl w).all (fun c => decide (c < 128)) && !(tl w).contains 10 && decide (w.length ≤ 20)) && decide ((ls.map (·.length)).sum + ls.length ≤ 200 ∧ ls.length ≤ 7)) = true := by decide +kernel
  intro ls hl
  have := List.all_eq_true.mp h ls hl
  simp only [Bool.and_eq_true, decide_eq_true_eq] at this
  obtain ⟨⟨a, b⟩, c⟩ := this
  refine ⟨⟨a, fun w hw => ?_⟩, c⟩
  have := List.all_eq_true.mp b w hw
  simp only [Bool.and_eq_true, List.all_eq_true, decide_eq_true_eq, Bool.not_eq_true'] at this
  obtain ⟨⟨a, b⟩, c⟩ := this
  refine ⟨a, fun hm => ?_, c⟩
  rw [List.contains_iff_mem.mpr hm] at b
  cases b
theorem some_due : (some11 ++ [seven]).map (fun ls => due (ls.map wds)) = [some (1, 1), some (1, 2), some (1, 3), some (2, 1), some (1, 3), some (2, 2), some (2, 3), some (7, 1)] := by decide +kernel
theorem some_txt : some11.map (fun ls => Txt.join nl ls) = (["", "stage", "stage 5", "stage 5 0", "stage 5 1", "stage 5 0\nstage 5 1", "stage 5 0\nstage 4 0"] : List Str) := by decide +kernel
theorem law11_ok [K118 tbl] {ns : List Int} {d : Py.D} (hl : ns.length ≤ 63) (hd : d = .scr (ns.map .int) ∨ d = .lst (ns.map .int)) : ∃ S, Phi tbl (n + 7) 118 [d] [] = .ok (.bl true) S := by
  rw [phi118]
  obtain ⟨S1, e1, q1⟩ := mix_ok (tbl := tbl) (n := n + 5) hd hl 11
  let δ0 : Env := [some d, none, none, none, none, none, none, none, none, none, none, none]
  obtain ⟨S2, p3, p6, p7, p8, p9, e2, q2⟩ := loops11 (tbl := tbl) (n := n) (d0 := some d) (o4 := none) (o5 := none) (o10 := none) (o11 := none) (xs := rngD 0 6) (c := []) 6 0 S1 none none none none none q1
  have rg := rngW_one (m := 6) (by omega)
  rw [show ((6 : Nat) : Int) = 6 from rfl] at rg
  rw [show ((0 : Nat) : Int) = 0 from rfl] at e2
  have hl2 := q2.len
  let J : List Str → Py.D := fun ls => .str (Txt.join nl ls)
  let T0 : List Py.D := some11.map J
  have hT0 : T0 = [.str "", .str "stage", .str "stage 5", .str "stage 5 0", .str "stage 5 1", .str "stage 5 0\nstage 5 1", .str "stage 5 0\nstage 4 0"] := by
    have : T0 = (some11.map fun ls => Txt.join nl ls).map .str := by rw [List.map_map]; rfl
    rw [this, some_txt]; rfl
  have hz : T0.length = 7 := by rw [hT0]; rfl
  let S3 : Sto := S2 ++ [.lst T0]
  let S4 : Sto := S2 ++ [.lst ((some11 ++ [seven]).map J)]
  let δ2 : Env := [some d, some (.loc 1), some (.lst (odd11.map .str)), p3, none, none, p6, p7, p8, p9, none, none]
  let δ3 : Env := [some d, some (.loc 1), some (.lst (odd11.map .str)), p3, some (.loc S2.length), none, p6, p7, p8, p9, none, none]
  let due8 : List (Option (Int × Int)) := [some (1, 1), some (1, 2), some (1, 3), some (2, 1), some (1, 3), some (2, 2), some (2, 3), some (7, 1)]
  let δ4 : Env := [some d, some (.loc 1), some (.lst (odd11.map .str)), p3, some (.loc S2.length), some (.lst (due8.map optP)), p6, p7, p8, p9, none, none]
  have ga : S3[S2.length]? = some (.lst T0) := by simp [S3]
  have gb : S4[S2.length]? = some (.lst ((some11 ++ [seven]).map J)) := by simp [S4]
  have s4 : evS (Phi tbl (n + 6)) (.asg (.nm 4) (.lst true (.cons (.con (.str "")) (.cons (.con (.str "stage")) (.cons (.con (.str "stage 5")) (.cons (.con (.str "stage 5 0")) (.cons (.con (.str "stage 5 1")) (.cons (.con (.str "stage 5 0\nstage 5 1")) (.cons (.con (.str "stage 5 0\nstage 4 0")) .nil))))))))) δ2 S2 = .nxt δ3 S3 := by
    refine asg_eq (d := .loc S2.length) (S' := S3) ?_ (by simp [δ2, δ3])
    simp [S3, hT0]
  have rz := rngD_map 7 0
  rw [show ((0 : Nat) : Int) = 0 from rfl] at rz
  have r7 := rngW_one (m := 7) (by omega)
  rw [show ((7 : Nat) : Int) = 7 from rfl] at r7
  have ec := comp_map (S := S3) (S1 := S3) (Φ := Phi tbl (n + 6)) (vs := [10]) (t := .nm 10) (w := .rng (.cons (.con (.int 7)) .nil)) (c := .nil) (e := ce118_3) (δ := δ3)
    (xs := rngD 0 7) (c' := []) (l := List.range' 0 7) (fun i : Nat => Py.D.int (i : Int)) (fun k => .str (stL (9 - k) k)) (by simp [r7, -rngW]) rz (fun k hk => by
      obtain ⟨_, hk⟩ := List.mem_range'_1.mp hk
      have hk : k < 7 := by omega
      have es := stL_ev (S := S3) (Φ := Phi tbl (n + 6)) (δ := [some d, some (.loc 1), some (.lst (odd11.map .str)), p3, some (.loc S2.length), none, p6, p7, p8, p9, some (.int (k : Int)), none]) (a := .bin .Sub (.con (.int 9)) (.var 10)) (b := .var 10) (r := 9 - k) (p := k)
        (by
          have : (9 : Int) - (k : Int) = ((9 - k : Nat) : Int) := by omega
          simp [this]) (by simp) (by omega) (by omega)
      rw [compB_one (by simp [δ3])]
      show (evc (Phi tbl (n + 6)) .nil [some d, some (.loc 1), some (.lst (odd11.map .str)), p3, some (.loc S2.length), none, p6, p7, p8, p9, some (.int (k : Int)), none] S3).bind _ = _
      rw [evc, R.bind_ok, if_pos rfl]
      show (ev (Phi tbl (n + 6)) ce118_3 [some d, some (.loc 1), some (.lst (odd11.map .str)), p3, some (.loc S2.length), none, p6, p7, p8, p9, some (.int (k : Int)), none] S3).bind _ = _
      unfold ce118_3
      rw [es]; rfl) (by decide)
  have ec' : (List.range' 0 7).map (fun k => Py.D.str (stL (9 - k) k)) = seven.map .str := by unfold seven; rw [List.map_map]; rfl
  rw [ec'] at ec
  have h7 := some_ln seven (by simp)
  have ej := join_ev (S := S3) (S' := S3) (Φ := Phi tbl (n + 6)) (δ := δ3) (y := "\n") (ps := seven) tl_nl (by have := h7.2.1; omega) ec
  have s5 := app_ev (Φ := Phi tbl (n + 6)) (i := 4) (δ := δ3) (S := S3) (xs := T0) (k := S2.length) (by simp [δ3]) ga ej (by omega)
  have hS4 : S3.set S2.length (.lst (T0 ++ [.str (Txt.join "\n" seven)])) = S4 := by
    simp [S3, S4, T0, J]
  rw [hS4] at s5
  have hcl : closed S4.length S4 = true := by
    refine closed_app (closed_mono (by simp [S4]) (q2.closed S2.length (by rw [hl2]; simp) rfl)) ?_
    have : ∀ l : List (List Str), D.unds S4.length (l.map J) = true := fun l => by
      induction l with
      | nil => rfl
      | cons a r ih => rw [List.map_cons, D.unds, ih]; rfl
    have h2 := this (some11 ++ [seven])
    simp only [closed, List.all_cons, List.all_nil, O.und, h2, Bool.and_self]
  have ef := comp_loc (S := S4) (Φ := Phi tbl (n + 6)) (vs := [11]) (t := .nm 11) (c := .nil) (e := ce118_4) (w := .var 4) (δ := δ4) (n := S2.length) (l := some11 ++ [seven]) J (fun ls => optP (due (ls.map wds))) (fun _ => true) (by simp [δ4]) gb (fun ls hls => by
    obtain ⟨a, b, c⟩ := some_ln ls hls
    have ea := law_answer_ok (tbl := tbl) (n := n + 1) (S := S4) a.ne a.l (by omega) (Nat.le_trans (join_len tl_nl ls) (by omega)) (by omega) hcl
    rw [show n + 1 + 5 = n + 6 by omega] at ea
    rw [compB_one (by simp [δ4])]
    show (evc (Phi tbl (n + 6)) .nil [some d, some (.loc 1), some (.lst (odd11.map .str)), p3, some (.loc S2.length), some (.lst (due8.map optP)), p6, p7, p8, p9, none, some (J ls)] S4).bind _ = _
    rw [evc, R.bind_ok, if_pos rfl, if_pos rfl]
    show (ev (Phi tbl (n + 6)) ce118_4 [some d, some (.loc 1), some (.lst (odd11.map .str)), p3, some (.loc S2.length), some (.lst (due8.map optP)), p6, p7, p8, p9, none, some (J ls)] S4).bind _ = _
    unfold ce118_4
    rw [call_eq (evs1 (x := J ls) (S1 := S4) (by rfl)) ea]; rfl) (by simp [some11])
  have hf : ((some11 ++ [seven]).filter fun _ => true).map (fun ls => optP (due (ls.map wds))) = due8.map optP := by
    rw [List.filter_eq_self.mpr (fun _ _ => rfl)]
    have : (some11 ++ [seven]).map (fun ls => optP (due (ls.map wds))) = ((some11 ++ [seven]).map (fun ls => due (ls.map wds))).map optP := by rw [List.map_map]; rfl
    rw [this, some_due]
  rw [hf] at ef
  refine ⟨S4.take 0, ?_⟩
  refine run_ret (fd := fd118) (by rfl) (d := .bl true) (S' := S4) ?_ ?_
  · show evSs (Phi tbl (n + 6)) _ δ0 [] = _
    unfold fd118
    rw [evSs_step (asg_eq (d := .loc 1) (S' := S1) (δ' := [some d, some (.loc 1), none, none, none, none, none, none, none, none, none, none]) (by simp [δ0, e1]) (by simp [δ0]))]
    rw [evSs_step (asg_eq (d := .lst (odd11.map .str)) (S' := S1) (δ' := [some d, some (.loc 1), some (.lst (odd11.map .str)), none, none, none, none, none, none, none, none, none]) (by simp [odd11]) (by simp))]
    rw [evSs_step ((for_eq (k := (rngD 0 6, none, [])) (S := S1) (by simp [rg, -rngW])).trans e2)]
    rw [evSs_step s4, evSs_step s5]
    rw [evSs_step (asg_eq (d := .lst (due8.map optP)) (S' := S4) (δ' := δ4) (by simp [due8, optP]) (by simp [δ3, δ4]))]
    rw [evSs_cons, ret_eq (d := .bl true) (S' := S4)]
    · rfl
    · rw [ev, ef, R.bind_ok, show ev (Phi tbl (n + 6)) (.var 5) δ4 S4 = .ok (.lst (due8.map optP)) S4 by simp [δ4], R.bind_ok]
      have : eqD S4 (.lst (due8.map optP)) (.lst (due8.map optP)) = some true := by rfl
      simp [this]
  · simp [fd118, Py.cut, closed, D.und, S4]
end Lw

namespace Lw
open PySem PySem.Spec PyProof.Rows L2 Py Lh

instance : K118 tbl where
  h0 := rfl
  h1 := rfl
  h2 := rfl
  h3 := rfl
  h4 := rfl
  h5 := rfl
  h6 := rfl
  h7 := rfl
  h13 := rfl
  h109 := rfl
  h110 := rfl
  h113 := rfl
  h114 := rfl
  h115 := rfl
  h116 := rfl
  h117 := rfl
  h118 := rfl
theorem pure_law (ns : List Int) (d : Py.D) (hl : ns.length ≤ 63) (hb : ∀ z ∈ ns, Builtin.Int.intBits z ≤ 1048576) (hd : d = .scr (ns.map .int) ∨ d = .lst (ns.map .int)) : ∃ S, Phi tbl 9 118 [d] [] = .ok (.bl true) S :=
  law11_ok (tbl := tbl) (n := 2) hl hd

theorem law_at (w : World) (mg : Str → Option Value) (f : Addr) (h : Heap) {K : PySem.W.Frag} (X : K.In h) (Gn : h.Ns mainGlobals mg) (hfa : mg ("law" : Str) = some (.ref f)) (c : SaysY fa fn K) (ex : exB (PySem.Challenge.rw_openshut_k11_texts_refused).prog G dfl K = true) :
    LamX.LawAtS PySem.Challenge.rw_openshut_k11_texts_refused w K (L2.CX (PySem.Challenge.rw_openshut_k11_texts_refused).prog w) 20 63 "_law_script" mg f h := by
  have g : Glob (mof K dfl G.cs) (PySem.Challenge.rw_openshut_k11_texts_refused).prog tbl G mg := glob_of X Gn c ex (fun f d h => dfs (f, d) (mem_lookN h)) (by decide +kernel) (by decide +kernel) (by decide +kernel) (by decide +kernel)
  have hl : G.fns.lookup ("law" : Str) = some (118, 1) := by decide +kernel
  obtain ⟨h1, h2, d, h3, h4⟩ := g.fns _ _ _ hl
  have e := hfa.symm.trans h1
  cases e
  obtain ⟨fd0, F0⟩ := c.defs (d := dd118) (List.mem_map.mpr ⟨(118, dd118), mem_lookN (rfl : dfl.lookup 118 = some dd118), rfl⟩)
  have b := FunD.bindsA (ps := dc118.ps) F0 bd118
  refine ⟨fd0, [], spD (mof K dfl G.cs) (Phi tbl 9 118) 1, by simp, by simp, by simp, fun s u => ?_, fun H a ns hl hb _ hS => ?_, fun base hK hn _ => ?_⟩
  · exact b s [u] rfl
  · obtain ⟨d', hd, r⟩ := Py.script_rep (M := mof K dfl G.cs) (K := K) rfl hS
    obtain ⟨S', e⟩ := pure_law ns d' hl hb hd
    refine ⟨rfl, ⟨[], []⟩, [], [d'], ⟨by simp, rfl, by simp, by simp⟩, Reps.one r, ?_⟩
    rw [e]
    exact fun ρ' H' x _ _ rx => rep_bl_inv rx
  · have gb : Glob (mof K dfl G.cs) (PySem.Challenge.rw_openshut_k11_texts_refused).prog tbl G mg := g
    have T := phi_ok (P := (PySem.Challenge.rw_openshut_k11_texts_refused).prog) (w := w) (base := base) gb 8
    have q := def_ok T F0 (by decide +kernel : fscB dc118.N dc118.ps dd118.scope = true) (d := fd118) rfl rfl (by decide) (by decide +kernel)
    exact q
end Lw
open PySem PySem.W PySem.Calls PyProof.Rows
theorem PySem.Challenge.cw_openshut_k11_texts_refused_holds : PySem.Challenge.rw_openshut_k11_texts_refused.Holds := by
  w_on; o_law
  refine HandSHeadRun.head_any (r := OpenLaw.row PySem.Challenge.rw_openshut_k11_texts_refused) (q := view (OpenLaw.row PySem.Challenge.rw_openshut_k11_texts_refused).prog [29]) (H := Lh.hk) (ob := Lh.ob) (M := 20000) (loose := Lh.loose) (d := HandSHeadRun.topDef (OpenLaw.row PySem.Challenge.rw_openshut_k11_texts_refused).prog 29) (kwd := []) Lh.ob_eq
    (by kernel_rfl) (fun s => by kernel_rfl) Lh.run (by kernel_rfl) (by kernel_rfl) (by kernel_rfl) (by rfl) (by first | assumption | decide +kernel) (by decide +kernel) ⟨rfl, rfl, rfl, rfl, rfl, by decide +kernel⟩ ?hw ?hc
  case hw => w_witness2
  case hc =>
    refine LamX.walk_ofTsE (l := PySem.Challenge.rw_openshut_k11_texts_refused) (n := 63) (k := 20) (x := "_law_script") (CX := fun w => L2.CX (PySem.Challenge.rw_openshut_k11_texts_refused).prog w) rfl (by decide) (by kernel_rfl) ⟨rfl, by decide, by decide⟩ ?F (fun w H s e s' h => Py.cx_false h)
    intro w mg f h Y Gn hmg0
    obtain ⟨K, KX, c, ex⟩ := Y
    have hmg : mg ("law" : PySem.Str) = some (.ref f) := by
      have e : (HandSHeadRun.topDef (OpenLaw.row PySem.Challenge.rw_openshut_k11_texts_refused).prog 29).name = ("law" : PySem.Str) := by kernel_rfl
      rw [← e]
      exact hmg0
    exact ⟨K, KX, Lw.law_at w mg f h KX Gn hmg c ex⟩


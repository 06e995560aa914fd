import PyProof.Rows.All
import Wide.All
import OpenK.AllK
import Wide.FinOn
import HandS.ForMost
import HandS.ForExc
import HandS.IsInst
import HandS.TupAny
import HandS.TupMul
import HandS.Wide
import HandS.Style
import HandS.Strs
import HandS.StrMore
import HandS.FStr
import HandS.RaiseMore
import HandS.ExcIs
import HandS.ExcSuper
import HandS.Small
import HandS.Replace
import KE.KIndexOf
import PyProof.ListStr
import KE.DataEq
import KE.SortData
import KE.LtData
import HandS.ExcInit
import HandS.ExcOwn
import KE.KExcSuper
import HandS.Exc
import HandS.HeadHook1
import HandS.List
import KE.KRevSl
import KE.KExcIs
import HandS.Zip
import HandS.TryOnly
import HandS.Steps
import HandS.HeadHook2
import HandS.HeadEnd
import HandS.Codes
import PySem.Challenge.RW_clipforms_k06_errors
import HandS.Head2
set_option Elab.async false
set_option linter.all false
set_option autoImplicit false
set_option maxRecDepth 100000
/-! Cip1: the small language and what its texts mean. -/
namespace Cip
open PySem

abbrev Key := L2.Key

inductive D where
  | non | bl (b : Bool) | int (i : Int) | str (x : Str) | tup (xs : List D) | lst (xs : List D) | dct (ks : List Key) (vs : List D) | scr (xs : List D) | ref (k : Nat)

inductive MO where
  | lst (xs : List D)
  | dct (lk : Bool) (ks : List Key) (vs : List D)
  | ins (c : Nat) (fs : List (Nat × D))
  | exc (c : Nat) (fs : List (Nat × D))

abbrev Store := List MO
abbrev Env := List (Option D)

inductive BOp where | add | sub | mul | mod | fdiv | pow
inductive COp where | eq | ne | lt | le | gt | ge | isin | nin
/-- built-in calls -/
inductive BI where | len | abs | int | str | repr | sum | all | any | max2 | min2 | tuple | list | sorted | set | lenset
/-- methods of texts, tuples, lists that change nothing -/
inductive BM where | join | split | upper | count | rstrip | tindex | lindex | sindex | part
/-- what is walked -/
inductive IK where | val | enum | zip2 | zip3 | rng1 | rng2 | items | vals
inductive Ty where | int | str | bool | tuple | list | dict | cls (c : Nat) | verr

inductive Tg where | nm (i : Nat) | tup (ts : List Tg)

inductive E where
  | nul
  | non | bl (b : Bool) | int (i : Int) | str (x : Str)
  | var (i : Nat) | con (i : Nat)
  | bin (o : BOp) (a b : E) | neg (a : E)
  | cmp (o : COp) (a b : E) | chn (o p : COp) (a b c : E) | chn3 (o p q : COp) (a b c d : E)
  | isn (a : E) | notn (a : E)
  | and (es : List E) | or (es : List E) | not (a : E) | ite (c a b : E)
  | tup (es : List E) | lst (es : List E) | mut (a : E)
  | dct (es : List E)
  | idx (a i : E) | slc (a lo hi : E) | rev (a : E)
  | fld (c : Nat) (a : E) (f : Nat)
  | xnew (c : Nat) (es : List E) | xfld (a : E) (f : Nat)
  | call (f : Nat) (es : List E) | mth (c : Nat) (a : E) (f : Nat) (es : List E) | new (c f : Nat) (es : List E) | bad
  | bi (b : BI) (es : List E) | bm (m : BM) (a : E) (es : List E)
  | isi (a : E) (t : Ty)
  | fst (es : List E)
  | lc (own : List Nat) (t : Tg) (k : IK) (its : List E) (c e : E)
  | app (a e : E) | ext (a e : E) | pop (a : E) | popi (a i : E) | lens (a : E)

inductive S where
  | asg (t : Tg) (e : E) | sfld (c : Nat) (a : E) (f : Nat) (e : E) | ssub (a i e : E)
  | aug (i : Nat) (o : BOp) (e : E) | augf (c : Nat) (a : E) (f : Nat) (o : BOp) (e : E)
  | ite (c : E) (a b : List S) | for (t : Tg) (k : IK) (its : List E) (body : List S) | whl (c : E) (body : List S)
  | ret (e : E) | exp (e : E) | pass | bad
  | raise (c : Nat) (es : List E)
  | tri (body : List S) (c : Nat) (i j : Nat)

def E.nulB : E → Bool
  | .nul => true
  | _ => false

def D.isNon : D → Bool
  | .non => true
  | _ => false
/-- what an expression comes to -/
inductive R (α : Type) where
  | ok (a : α) (st : Store) | ex (c : Nat) (fs : List (Nat × D)) (st : Store) | stk
def R.bind {α β : Type} (r : R α) (k : α → Store → R β) : R β := match r with
  | .ok a st => k a st
  | .ex c fs st => .ex c fs st
  | .stk => .stk
def R.of {α : Type} (o : Option α) (st : Store) : R α := match o with
  | some a => .ok a st
  | none => .stk
/-- what a statement comes to -/
inductive SR where
  | nx (env : Env) (st : Store) | rt (d : D) (st : Store) | ex (c : Nat) (fs : List (Nat × D)) (env : Env) (st : Store) | stk
def SR.bind (r : SR) (k : Env → Store → SR) : SR := match r with
  | .nx env st => k env st
  | .rt d st => .rt d st
  | .ex c fs env st => .ex c fs env st
  | .stk => .stk
def R.s {α : Type} (r : R α) (env : Env) (k : α → Store → SR) : SR := match r with
  | .ok a st => k a st
  | .ex c fs st => .ex c fs env st
  | .stk => .stk

/-! ### data -/
mutual
/-- there is a list in it -/
def hasL : PyData → Bool
  | .tuple xs => hasLs xs
  | .list _ => true
  | .none | .bool _ | .int _ | .str _ | .dict _ => false
def hasLs : List PyData → Bool
  | [] => false
  | x :: xs => hasL x || hasLs xs
end
mutual
def pyW (rf : Nat → Option PyData) : D → Option PyData
  | .non => some .none
  | .bl b => some (.bool b)
  | .int i => some (.int i)
  | .str x => some (.str x)
  | .tup xs => (pysW rf xs).map .tuple
  | .lst xs => (pysW rf xs).map .list
  | .dct ks _ => if ks.isEmpty then some (.dict []) else none
  | .scr _ => none
  | .ref k => rf k
def pysW (rf : Nat → Option PyData) : List D → Option (List PyData)
  | [] => some []
  | x :: xs => match pyW rf x, pysW rf xs with
    | some a, some b => some (a :: b)
    | _, _ => none
end
/-- the data behind a reference, to the depth n -/
def pyR : Nat → Store → Nat → Option PyData
  | 0, _, _ => none
  | n + 1, st, k => match st[k]? with
    | some (.lst xs) => (pysW (pyR n st) xs).map .list
    | some (.dct false [] _) => some (.dict [])
    | _ => none
def py (st : Store) (d : D) : Option PyData := pyW (pyR 8 st) d

/-- the items of a list or a tuple -/
def seqD (st : Store) : D → Option (List D)
  | .tup xs => some xs
  | .lst xs => some xs
  | .scr xs => some xs
  | .ref k => match st[k]? with
    | some (.lst xs) => some xs
    | _ => none
  | _ => none
def lstD (st : Store) : D → Option (List D)
  | .lst xs => some xs
  | .ref k => match st[k]? with
    | some (.lst xs) => some xs
    | _ => none
  | _ => none

def lsqD (st : Store) : D → Option (List D)
  | .lst xs => some xs
  | .scr xs => some xs
  | .ref k => match st[k]? with
    | some (.lst xs) => some xs
    | _ => none
  | _ => none

/-- xs[::-1] -/
def revD (st : Store) : D → Option D
  | .tup xs => some (.tup xs.reverse)
  | d => (lsqD st d).map fun xs => .lst xs.reverse
def strMul (x : Str) (n : Int) : Str := ⟨(List.replicate n.toNat x.cps.toList).flatten.toArray⟩
def addD (st : Store) : D → D → Option D
  | .int i, .int j => some (.int (i + j))
  | .str x, .str y => if x.length + y.length ≤ sizeLine then some (.str (x ++ y)) else none
  | .tup xs, .tup ys => if xs.length + ys.length ≤ sizeLine then some (.tup (xs ++ ys)) else none
  | a, b => match lstD st a, lstD st b with
    | some xs, some ys => if xs.length + ys.length ≤ sizeLine then some (.lst (xs ++ ys)) else none
    | _, _ => none
def mulD (st : Store) : D → D → Option D
  | .int i, .int j => if (-(2 ^ 64) < i ∧ i < 2 ^ 64) ∨ (-(2 ^ 64) < j ∧ j < 2 ^ 64) then some (.int (i * j)) else none
  | .str x, .int j => if -(2 ^ 31) ≤ j ∧ j < 2 ^ 31 ∧ x.length * j.toNat ≤ sizeLine then some (.str (strMul x j)) else none
  | .tup xs, .int j => if -(2 ^ 31) ≤ j ∧ j < 2 ^ 31 ∧ xs.length * j.toNat ≤ sizeLine then some (.tup (List.replicate j.toNat xs).flatten) else none
  | a, .int j => match lstD st a with
    | some xs => if -(2 ^ 31) ≤ j ∧ j < 2 ^ 31 ∧ xs.length * j.toNat ≤ sizeLine then some (.lst (List.replicate j.toNat xs).flatten) else none
    | none => none
  | _, _ => none
def binD (st : Store) : BOp → D → D → Option D
  | .add, a, b => addD st a b
  | .sub, .int i, .int j => some (.int (i - j))
  | .mul, a, b => mulD st a b
  | .mod, .int i, .int j => if j = 0 then none else some (.int (i.fmod j))
  | .fdiv, .int i, .int j => if j ≠ 0 ∧ j.natAbs < 1073741824 then some (.int (i.fdiv j)) else none
  | .pow, .int i, .int j => if 0 ≤ j ∧ j ≤ 1000 ∧ i.natAbs < 2 ^ 64 then some (.int (i ^ j.toNat)) else none
  | _, _, _ => none

/-- what op= leaves: no list is changed at its place -/
def augD : BOp → D → D → Option D
  | .add, .int i, .int j => some (.int (i + j))
  | .sub, .int i, .int j => some (.int (i - j))
  | .add, .str x, .str y => if x.length + y.length ≤ sizeLine then some (.str (x ++ y)) else none
  | _, _, _ => none
def eqP (st : Store) (a b : D) : Option Bool := match py st a, py st b with
  | some x, some y => if x.plain && y.plain && decide (min x.depth y.depth ≤ 100) then some (PyData.eqv x y) else none
  | _, _ => none
/-- lists of unlike lengths: no item is looked at -/
def eqL (st : Store) (a b : D) : Option Bool := match lstD st a, lstD st b with
  | some xs, some ys => if xs.length = ys.length then none else some false
  | _, _ => none
def eqD (st : Store) (a b : D) : Option Bool := match eqP st a b with
  | some r => some r
  | none => eqL st a b
def ltStr (x y : Str) : Bool := decide (x.cps.toList < y.cps.toList)
def ltD (st : Store) : D → D → Option Bool
  | .int i, .int j => some (decide (i < j))
  | .str x, .str y => some (ltStr x y)
  | _, _ => none
def leD (st : Store) : D → D → Option Bool
  | .int i, .int j => some (decide (i ≤ j))
  | .str x, .str y => some (!ltStr y x)
  | _, _ => none
/-- x stands in the text y -/
def subStr (x y : Str) : Bool := !(Builtin.Str.occurrences y x 0 y.length 1).isEmpty
def inD (st : Store) (x c : D) : Option Bool := match c with
  | .str y => match x with
    | .str z => some (subStr z y)
    | _ => none
  | c => match py st c, py st x with
    | some (.list ps), some d => if d.plain && PyData.plainAll ps && decide (min (PyData.depthAll ps) d.depth ≤ 100) then some (ps.any fun y => PyData.eqv y d) else none
    | some (.tuple ps), some d => if d.plain && PyData.plainAll ps && decide (min (PyData.depthAll ps) d.depth ≤ 100) then some (ps.any fun y => PyData.eqv y d) else none
    | _, _ => none
def cmpD (st : Store) : COp → D → D → Option Bool
  | .eq, a, b => eqD st a b
  | .ne, a, b => (eqD st a b).map (!·)
  | .lt, a, b => ltD st a b
  | .gt, a, b => ltD st b a
  | .le, a, b => leD st a b
  | .ge, a, b => leD st b a
  | .isin, a, b => inD st a b
  | .nin, a, b => (inD st a b).map (!·)

/-- the place i of n -/
def ixD {α : Type} (xs : List α) (i : Int) : Option α := L2.atI xs i
def idxD (st : Store) : D → D → Option D
  | .str x, .int i => (ixD x.cps.toList i).map fun c => .str ⟨#[c]⟩
  | d, .int i => match seqD st d with
    | some xs => ixD xs i
    | none => none
  | _, _ => none
def bnd : D → Option (Option Int)
  | .int i => some (some i)
  | _ => none
def cutL {α : Type} (xs : List α) (lo hi : Option Int) : List α := (xs.drop (HT.sIx xs.length 0 lo)).take (HT.sIx xs.length xs.length hi - HT.sIx xs.length 0 lo)
def slcD (st : Store) (d : D) (lo hi : Option Int) : Option D := match d with
  | .str x => some (.str (L2.cutS x lo hi))
  | .tup xs => some (.tup (cutL xs lo hi))
  | d => match lsqD st d with
    | some xs => some (.lst (cutL xs lo hi))
    | none => none

/-! ### built-in calls -/
def maxTy (st : Store) : Ty → D → Option Bool
  | .int, .int _ => some true
  | .int, .bl _ => some true
  | .bool, .bl _ => some true
  | .str, .str _ => some true
  | .tuple, .tup _ => some true
  | .list, .lst _ => some true
  | .dict, .dct _ _ => some true
  | .list, .ref k => match st[k]? with
    | some (.lst _) => some true
    | some (.dct _ _ _) => some false
    | _ => none
  | .dict, .ref k => match st[k]? with
    | some (.lst _) => some false
    | some (.dct _ _ _) => some true
    | _ => none
  | _, .scr _ => none
  | _, .ref k => match st[k]? with
    | some (.lst _) => some false
    | some (.dct _ _ _) => some false
    | _ => none
  | _, _ => some false
def isiD (sub : Nat → Nat → Option Bool) (ve : Nat → Option Bool) (st : Store) (d : D) : Ty → Option Bool
  | .cls c => match d with
    | .ref k => match st[k]? with
      | some (.exc c' _) => sub c' c
      | _ => none
    | _ => none
  | .verr => match d with
    | .ref k => match st[k]? with
      | some (.exc c' _) => ve c'
      | _ => none
    | _ => none
  | t => maxTy st t d

def sumL : List D → Option Int
  | [] => some 0
  | .int i :: r => (sumL r).map (i + ·)
  | _ :: _ => none
def bools : List D → Option (List Bool)
  | [] => some []
  | .bl b :: r => (bools r).map (b :: ·)
  | _ :: _ => none
def strsD : List D → Option (List Str)
  | [] => some []
  | .str b :: r => (strsD r).map (b :: ·)
  | _ :: _ => none
def showI (i : Int) : Option Str := if i.natAbs.log2 < 1920 then some (toString i) else none
def strD : D → Option Str
  | .int i => showI i
  | .str x => some x
  | _ => none
def strDs : List D → Option (List Str)
  | [] => some []
  | d :: r => match strD d, strDs r with
    | some x, some xs => some (x :: xs)
    | _, _ => none
def reprD (st : Store) (d : D) : Option Str := match py st d with
  | some p => if !(p.hasDict && hasL p) && p.showable && decide (p.shown.length ≤ sizeLine) && decide (p.depth ≤ 100) then some p.shown else none
  | none => none
def lenD (st : Store) : D → Option Nat
  | .str x => some x.length
  | .dct ks _ => some ks.length
  | d => match seqD st d with
    | some xs => some xs.length
    | none => match d with
      | .ref k => match st[k]? with
        | some (.dct _ ks _) => some ks.length
        | _ => none
      | _ => none
/-- built-in calls of one value, of two -/
def bi1 (st : Store) : BI → D → Option D
  | .len, d => (lenD st d).map fun (n : Nat) => D.int (n : Int)
  | .abs, .int i => some (.int (if i < 0 then -i else i))
  | .int, .int i => some (.int i)
  | .int, .bl b => some (.int (if b then 1 else 0))
  | .int, .str x => if x.length ≤ 640 then (PySem.intText? x).map .int else none
  | .str, .bl b => some (.str (if b then "True" else "False"))
  | .str, d => (strD d).map .str
  | .repr, d => (reprD st d).map .str
  | .sum, d => (lstD st d).bind fun xs => (sumL xs).map .int
  | .all, d => (lstD st d).bind fun xs => (bools xs).map fun bs => .bl (bs.all id)
  | .any, d => (lstD st d).bind fun xs => (bools xs).map fun bs => .bl (bs.any id)
  | .tuple, d => (seqD st d).map .tup
  | .list, .str x => some (.lst (x.cps.toList.map fun c => .str ⟨#[c]⟩))
  | .list, d => (seqD st d).map .lst
  | _, _ => none
def bi2 (st : Store) : BI → D → D → Option D
  | .max2, .int i, .int j => some (.int (if j > i then j else i))
  | .min2, .int i, .int j => some (.int (if j < i then j else i))
  | _, _, _ => none
def biD (st : Store) (b : BI) : List D → Option D
  | [d] => bi1 st b d
  | [d, e] => bi2 st b d e
  | _ => none
def joinOk (sep : Str) (xs : List Str) : Bool := decide ((xs.map (·.length)).sum + xs.length * sep.length ≤ 16777216)
def findIx (st : Store) (p : PyData) : List D → Option (Option Nat)
  | [] => some none
  | y :: ys => match py st y with
    | some z => if z.plain && decide (min z.depth p.depth ≤ 100) then (if PyData.eqv z p then some (some 0) else (findIx st p ys).map (Option.map (· + 1))) else none
    | none => none
def bmD (st : Store) : BM → D → List D → Option D
  | .join, .str sep, [d] => (seqD st d).bind fun xs => (strsD xs).bind fun ss => if joinOk sep ss && decide ((Txt.join sep ss).length ≤ sizeLine) then some (.str (Txt.join sep ss)) else none
  | .split, .str x, [.str y] => if 0 < y.length ∧ x.length + 2 ≤ sizeLine ∧ (Txt.split x y).length ≤ sizeLine ∧ ∀ z ∈ Txt.split x y, z.length ≤ sizeLine then some (.lst ((Txt.split x y).map .str)) else none
  | .upper, .str x, [] => if x.length ≤ 5592405 ∧ (Txt.upper x).length ≤ sizeLine then some (.str (Txt.upper x)) else none
  | .rstrip, .str x, [.str y] => if (Txt.rstripChars x y).length ≤ sizeLine then some (.str (Txt.rstripChars x y)) else none
  | .count, .str x, [.str y] => some (.int (Txt.count x y))
  | .part, .str x, [.str y] => if (0 < y.length ∧ x.length ≤ sizeLine) ∧ (Txt.partition x y).1.length ≤ sizeLine ∧ (Txt.partition x y).2.1.length ≤ sizeLine ∧ (Txt.partition x y).2.2.length ≤ sizeLine then some (.tup [.str (Txt.partition x y).1, .str (Txt.partition x y).2.1, .str (Txt.partition x y).2.2]) else none
  | .tindex, .tup xs, [.str y] => (strsD xs).bind fun ss => if y ∈ ss then some (.int (ss.idxOf y)) else none
  | .sindex, .str x, [.str y] => match Builtin.Str.occurrences x y 0 x.length 1 with
    | i :: _ => some (.int i)
    | [] => none
  | _, _, _ => none

/-- has the receiver such a method? -/
def bmOn (st : Store) : BM → D → Bool
  | .tindex, .tup _ => true
  | .tindex, _ => false
  | .lindex, d => (lstD st d).isSome
  | _, .str _ => true
  | _, _ => false
/-! ### what is walked, targets -/
def enumL (i : Nat) : List D → List D
  | [] => []
  | x :: xs => .tup [.int i, x] :: enumL (i + 1) xs
def zipL : List D → List D → List D
  | x :: xs, y :: ys => .tup [x, y] :: zipL xs ys
  | _, _ => []
def rngL (lo : Int) : Nat → List D
  | 0 => []
  | n + 1 => .int lo :: rngL (lo + 1) n
def walkD (st : Store) : IK → List D → Option (List D)
  | .val, [.str x] => some (x.cps.toList.map fun c => .str ⟨#[c]⟩)
  | .val, [d] => seqD st d
  | .enum, [d] => (lsqD st d).map (enumL 0)
  | .zip2, [.tup xs, .tup ys] => some (zipL xs ys)
  | .zip2, [.tup xs, b] => (lsqD st b).map fun ys => zipL xs ys
  | .zip2, [a, b] => (lsqD st a).bind fun xs => (lsqD st b).map fun ys => zipL xs ys
  | .rng1, [.int n] => if -(2 ^ 62) ≤ n ∧ n < 2 ^ 62 then some (rngL 0 n.toNat) else none
  | .rng2, [.int a, .int b] => if -(2 ^ 62) ≤ a ∧ a < 2 ^ 62 ∧ -(2 ^ 62) ≤ b ∧ b < 2 ^ 62 then some (rngL a (b - a).toNat) else none
  | _, _ => none
mutual
def asgT (st : Store) : Tg → D → Env → Option Env
  | .nm i, d, env => some (env.set i (some d))
  | .tup ts, d, env => match d with
    | .tup xs => if xs.length = ts.length then asgTs st ts xs env else none
    | .lst xs => if xs.length = ts.length then asgTs st ts xs env else none
    | _ => none
def asgTs (st : Store) : List Tg → List D → Env → Option Env
  | [], _, env => some env
  | t :: ts, x :: xs, env => match asgT st t x env with
    | some env => asgTs st ts xs env
    | none => none
  | _ :: _, [], _ => none
end
def wipeE (env : Env) : List Nat → Env
  | [] => env
  | v :: vs => (wipeE env vs).set v none

/-! ### store -/
mutual
def D.mx : D → Nat
  | .non => 0
  | .bl _ => 0
  | .int _ => 0
  | .str _ => 0
  | .tup xs => D.mxs xs
  | .lst xs => D.mxs xs
  | .dct _ vs => D.mxs vs
  | .scr xs => D.mxs xs
  | .ref k => k + 1
def D.mxs : List D → Nat
  | [] => 0
  | x :: xs => max (D.mx x) (D.mxs xs)
end
def MO.mx : MO → Nat
  | .lst xs => D.mxs xs
  | .dct _ _ vs => D.mxs vs
  | .ins _ fs => D.mxs (fs.map (·.2))
  | .exc _ fs => D.mxs (fs.map (·.2))
/-- all that a call has made may go -/
def Loose (st0 st : Store) (d : List D) : Prop := D.mxs d ≤ st0.length ∧ ∀ k, k < st0.length → st[k]? = st0[k]? ∨ ∃ o, st[k]? = some o ∧ o.mx ≤ st0.length
open Classical in
noncomputable def gc (st0 : Store) (d : List D) (st : Store) : Store := if Loose st0 st d then st.take st0.length else st
noncomputable def retOf (st0 : Store) (r : SR) : R D := match r with
  | .nx _ st => .ok .non (gc st0 [.non] st)
  | .rt d st => .ok d (gc st0 [d] st)
  | .ex c fs _ st => .ex c fs (gc st0 (fs.map (·.2)) st)
  | .stk => .stk

/-- what a text leans on: constants, classes -/
structure Tx where
  con : Nat → Option D
  sub : Nat → Nat → Option Bool
  ve : Nat → Option Bool
  /-- an error's fields, from its arguments -/
  exf : Nat → List D → Option (List (Nat × D))
  ini : Nat → Option Nat
  /-- which error has which field -/
  xfl : Nat → Nat → Bool
abbrev CF := Nat → List D → Store → R D
/-- an error class with its __init__: how many arguments, the message, the fields and the arguments' places -/
structure XD where
  n : Nat
  msg : E
  fs : List (Nat × Nat)
def partD (ds : List D) : E → Option D
  | .str x => some (.str x)
  | .var i => if i = 0 then none else ds[i - 1]?
  | _ => none
def msgF (ds : List D) : List E → Str → Option Str
  | [], acc => some acc
  | e :: es, acc => (partD ds e).bind fun d => (strD d).bind fun y => if (acc ++ y).length ≤ sizeLine then msgF ds es (acc ++ y) else none
def msgOk (ds : List D) : E → Bool
  | .str _ => true
  | .fst es => (msgF ds es Str.empty).isSome
  | _ => false
/-- the fields, the last one first -/
def fsD (ds : List D) : List (Nat × Nat) → List (Nat × D) → Option (List (Nat × D))
  | [], acc => some acc
  | p :: r, acc => match ds[p.2]? with
    | some d => fsD ds r ((p.1, d) :: acc)
    | none => none
def exfX (x : XD) (ds : List D) : Option (List (Nat × D)) := if ds.length = x.n ∧ msgOk ds x.msg = true then fsD ds x.fs [] else none

def setF (f : Nat) (d : D) : List (Nat × D) → List (Nat × D)
  | [] => [(f, d)]
  | (g, x) :: r => if g = f then (g, d) :: r else (g, x) :: setF f d r

section
variable (Γ : Tx) (cf : CF)
/-- a comprehension's turns -/
def keepL (r : Option D) (rs : List D) : List D := match r with
  | some d => d :: rs
  | none => rs
def lcL (f : D → Store → R (Option D)) : List D → Store → R (List D)
  | [], st => .ok [] st
  | x :: xs, st => (f x st).bind fun r st => (lcL f xs st).bind fun rs st => .ok (keepL r rs) st
def lcTurn (o : Option Env) (c : Env → Store → R Bool) (e : Env → Store → R D) (st : Store) : R (Option D) := match o with
  | some env => (c env st).bind fun r st => if r = true then (e env st).bind fun d st => .ok (some d) st else .ok none st
  | none => .stk
/-- the walked objects stand as they stood -/
def refsOf : List D → List Nat
  | [] => []
  | .ref k :: r => k :: refsOf r
  | _ :: r => refsOf r
def Still (ks : List Nat) (st0 st : Store) : Prop := ∀ k ∈ ks, st[k]? = st0[k]?
open Classical in
noncomputable def still (ks : List Nat) (st0 : Store) (st : Store) : Bool := decide (Still ks st0 st)
open Classical in
theorem still_ok {ks : List Nat} {st0 st : Store} : still ks st0 st = true ↔ Still ks st0 st := by
  unfold still
  exact decide_eq_true_iff
noncomputable def lcEnd (ks : List Nat) (st0 : Store) (r : R (List D)) : R D := match r with
  | .ok rs st => if still ks st0 st = true ∧ rs.length ≤ sizeLine then .ok (.lst rs) st else .stk
  | _ => .stk
def testR (r : R D) : R Bool := r.bind fun d st => match d with
  | .bl b => .ok b st
  | _ => .stk
def appD (st : Store) (x d : D) : R D := match x with
  | .ref k => match st[k]? with
    | some (.lst xs) => if xs.length < sizeLine then .ok .non (st.set k (.lst (xs ++ [d]))) else .stk
    | _ => .stk
  | _ => .stk
/-- the texts met, and how many unlike ones -/
def dstep (p : List Str × Nat) (x : Str) : List Str × Nat := (x :: p.1, if x ∈ p.1 then p.2 else p.2 + 1)
def dist (xs : List Str) : List Str × Nat := xs.foldl dstep ([], 0)
/-- len(set(..)) -/
def lensD (st : Store) (d : D) : Option Int := (lstD st d).bind fun xs => (strsD xs).bind fun ss => if ss.length < 3000 then some (((dist ss).2 : Nat) : Int) else none
def extD (st : Store) (x d : D) : R D := match x with
  | .ref k => match st[k]? with
    | some (.lst xs) => match seqD st d with
      | some ys => if xs.length + ys.length ≤ sizeLine then .ok .non (st.set k (.lst (xs ++ ys))) else .stk
      | none => .stk
    | _ => .stk
  | _ => .stk
def popD (st : Store) (x : D) : R D := match x with
  | .ref k => match st[k]? with
    | some (.lst xs) => match xs[xs.length - 1]? with
      | some d => .ok d (st.set k (.lst xs.dropLast))
      | none => .stk
    | _ => .stk
  | _ => .stk
def popiD (st : Store) (x y : D) : R D := match x with
  | .ref k => match st[k]? with
    | some (.lst xs) => match y with
      | .int i => match L2.ixN xs.length i with
        | some j => match xs[j]? with
          | some d => .ok d (st.set k (.lst (xs.eraseIdx j)))
          | none => .stk
        | none => .stk
      | _ => .stk
    | _ => .stk
  | _ => .stk
mutual
noncomputable def ev : E → Env → Store → R D
  | .nul, _, _ => .stk
  | .non, _, st => .ok .non st
  | .bl b, _, st => .ok (.bl b) st
  | .int i, _, st => .ok (.int i) st
  | .str x, _, st => .ok (.str x) st
  | .var i, env, st => match env[i]? with
    | some (some d) => .ok d st
    | _ => .stk
  | .con i, _, st => .of (Γ.con i) st
  | .bin o a b, env, st => (ev a env st).bind fun x st => (ev b env st).bind fun y st => .of (binD st o x y) st
  | .neg a, env, st => (ev a env st).bind fun x st => match x with
    | .int i => .ok (.int (-i)) st
    | _ => .stk
  | .cmp o a b, env, st => (ev a env st).bind fun x st => (ev b env st).bind fun y st => .of ((cmpD st o x y).map .bl) st
  | .chn o p a b c, env, st => (ev a env st).bind fun x st => (ev b env st).bind fun y st => (R.of (cmpD st o x y) st).bind fun r st =>
      if r = true then (ev c env st).bind fun z st => .of ((cmpD st p y z).map .bl) st else .ok (.bl false) st
  | .chn3 o p q a b c d, env, st => (ev a env st).bind fun x st => (ev b env st).bind fun y st => (R.of (cmpD st o x y) st).bind fun r st =>
      if r = true then (ev c env st).bind fun z st => (R.of (cmpD st p y z) st).bind fun r st =>
        if r = true then (ev d env st).bind fun w st => .of ((cmpD st q z w).map .bl) st else .ok (.bl false) st
      else .ok (.bl false) st
  | .isn a, env, st => (ev a env st).bind fun x st => .ok (.bl x.isNon) st
  | .notn a, env, st => (ev a env st).bind fun x st => .ok (.bl (!x.isNon)) st
  | .and es, env, st => (evAnd es env st).bind fun r st => .ok (.bl r) st
  | .or es, env, st => (evOr es env st).bind fun r st => .ok (.bl r) st
  | .not a, env, st => (testR (ev a env st)).bind fun r st => .ok (.bl (!r)) st
  | .ite c a b, env, st => (testR (ev c env st)).bind fun r st => if r = true then ev a env st else ev b env st
  | .tup es, env, st => (evs es env st).bind fun ds st => if ds.length ≤ sizeLine then .ok (.tup ds) st else .stk
  | .lst es, env, st => (evs es env st).bind fun ds st => if ds.length ≤ sizeLine then .ok (.lst ds) st else .stk
  | .mut a, env, st => (ev a env st).bind fun d st => match d with
    | .lst ds => .ok (.ref st.length) (st ++ [.lst ds])
    | .dct ks vs => .ok (.ref st.length) (st ++ [.dct false ks vs])
    | _ => .stk
  | .dct es, env, st => match es with
    | [] => .ok (.dct [] []) st
    | _ => .stk
  | .idx a i, env, st => (ev a env st).bind fun x st => (ev i env st).bind fun y st => .of (idxD st x y) st
  | .slc a lo hi, env, st => (ev a env st).bind fun x st => (if lo.nulB = true then .ok none st else (ev lo env st).bind fun d st => .of (bnd d) st : R (Option Int)).bind fun l st =>
      (if hi.nulB = true then .ok none st else (ev hi env st).bind fun d st => .of (bnd d) st : R (Option Int)).bind fun h st => .of (slcD st x l h) st
  | .rev a, env, st => (ev a env st).bind fun x st => .of (revD st x) st
  | .fld c a f, env, st => (ev a env st).bind fun x st => match x with
    | .ref k => match st[k]? with
      | some (.ins c' fs) => if c' = c then .of (fs.lookup f) st else .stk
      | _ => .stk
    | _ => .stk
  | .xnew c es, env, st => (evs es env st).bind fun ds st => match Γ.exf c ds with
    | some fs => .ok (.ref st.length) (st ++ [.exc c fs])
    | none => .stk
  | .xfld a f, env, st => (ev a env st).bind fun x st => match x with
    | .ref k => match st[k]? with
      | some (.exc c fs) => if Γ.xfl c f = true then .of (fs.lookup f) st else .stk
      | _ => .stk
    | _ => .stk
  | .call f es, env, st => (evs es env st).bind fun ds st => cf f ds st
  | .mth c a f es, env, st => (ev a env st).bind fun x st => match x with
    | .ref k => match st[k]? with
      | some (.ins c' _) => if c' = c then (evs es env st).bind fun ds st => cf f (.ref k :: ds) st else .stk
      | _ => .stk
    | _ => .stk
  | .new c f es, env, st => (evs es env st).bind fun ds st => (cf f (.ref st.length :: ds) (st ++ [.ins c []])).bind fun r st' => match r with
    | .non => .ok (.ref st.length) st'
    | _ => .stk
  | .bad, _, _ => .stk
  | .bi b es, env, st => (evs es env st).bind fun ds st => .of (biD st b ds) st
  | .bm m a es, env, st => (ev a env st).bind fun x st => if bmOn st m x = true then (evs es env st).bind fun ds st => .of (bmD st m x ds) st else .stk
  | .isi a t, env, st => (ev a env st).bind fun x st => .of ((isiD Γ.sub Γ.ve st x t).map .bl) st
  | .fst es, env, st => evF es Str.empty env st
  | .lc own t k its c e, env, st => (evs its env st).bind fun ds st => match walkD st k ds with
    | some xs => lcEnd (refsOf ds) st (lcL (fun x st' => if still (refsOf ds) st st' = true then lcTurn (asgT st' t x (wipeE env own)) (fun env' st' => if c.nulB = true then .ok true st' else testR (ev c env' st')) (fun env' st' => ev e env' st') st' else .stk) xs st)
    | none => .stk
  | .app a e, env, st => (ev a env st).bind fun x st => if (lstD st x).isSome = true then (ev e env st).bind fun d st => appD st x d else .stk
  | .ext a e, env, st => (ev a env st).bind fun x st => if (lstD st x).isSome = true then (ev e env st).bind fun d st => extD st x d else .stk
  | .pop a, env, st => (ev a env st).bind fun x st => if (lstD st x).isSome = true then popD st x else .stk
  | .lens a, env, st => (ev a env st).bind fun x st => .of ((lensD st x).map D.int) st
  | .popi a i, env, st => (ev a env st).bind fun x st => if (lstD st x).isSome = true then (ev i env st).bind fun d st => popiD st x d else .stk
noncomputable def evs : List E → Env → Store → R (List D)
  | [], _, st => .ok [] st
  | e :: es, env, st => (ev e env st).bind fun d st => (evs es env st).bind fun ds st => .ok (d :: ds) st
/-- an f-string's text, part by part -/
noncomputable def evF : List E → Str → Env → Store → R D
  | [], acc, _, st => .ok (.str acc) st
  | e :: es, acc, env, st => (ev e env st).bind fun d st => match strD d with
    | some y => if (acc ++ y).length ≤ sizeLine then evF es (acc ++ y) env st else .stk
    | none => .stk
noncomputable def evAnd : List E → Env → Store → R Bool
  | [], _, st => .ok true st
  | e :: es, env, st => (testR (ev e env st)).bind fun r st => if r = true then evAnd es env st else .ok false st
noncomputable def evOr : List E → Env → Store → R Bool
  | [], _, st => .ok false st
  | e :: es, env, st => (testR (ev e env st)).bind fun r st => if r = true then .ok true st else evOr es env st
end
/-! ### statements -/
def loopL (f : D → Env → Store → SR) (ok : Store → Bool) : List D → Env → Store → SR
  | [], env, st => if ok st = true then .nx env st else .stk
  | x :: xs, env, st => if ok st = true then (f x env st).bind fun env st => loopL f ok xs env st else .stk
def loopW (c : Env → Store → R Bool) (b : Env → Store → SR) : Nat → Env → Store → SR
  | 0, _, _ => .stk
  | n + 1, env, st => (c env st).s env fun r st => if r = true then (b env st).bind fun env st => loopW c b n env st else .nx env st
mutual
noncomputable def run : S → Env → Store → SR
  | .asg t e, env, st => (ev Γ cf e env st).s env fun d st => match asgT st t d env with
    | some env => .nx env st
    | none => .stk
  | .sfld c a f e, env, st => (ev Γ cf e env st).s env fun d st => (ev Γ cf a env st).s env fun x st => match x with
    | .ref k => match st[k]? with
      | some (.ins c' fs) => if c' = c ∧ fs.length < 900 then .nx env (st.set k (.ins c (setF f d fs))) else .stk
      | _ => .stk
    | _ => .stk
  | .bad, _, _ => .stk
  | .ssub a i e, env, st => (ev Γ cf e env st).s env fun d st => (ev Γ cf a env st).s env fun x st => (ev Γ cf i env st).s env fun y st => match x, y with
    | .ref k, .int z => match st[k]? with
      | some (.lst xs) => match L2.ixN xs.length z with
        | some j => .nx env (st.set k (.lst (xs.set j d)))
        | none => .stk
      | _ => .stk
    | _, _ => .stk
  | .aug i o e, env, st => match env[i]? with
    | some (some x) => (ev Γ cf e env st).s env fun d st => match augD o x d with
      | some r => .nx (env.set i (some r)) st
      | none => .stk
    | _ => .stk
  | .augf c a f o e, env, st => (ev Γ cf a env st).s env fun x st => match x with
    | .ref k => match st[k]? with
      | some (.ins c' fs) => if c' = c then match fs.lookup f with
        | some v => (ev Γ cf e env st).s env fun d st => match augD o v d with
          | some r => match st[k]? with
            | some (.ins c'' fs') => if c'' = c ∧ fs'.length < 900 then .nx env (st.set k (.ins c (setF f r fs'))) else .stk
            | _ => .stk
          | none => .stk
        | none => .stk
        else .stk
      | _ => .stk
    | _ => .stk
  | .ite c a b, env, st => (testR (ev Γ cf c env st)).s env fun r st => if r = true then runs a env st else runs b env st
  | .for t k its body, env, st => (evs Γ cf its env st).s env fun ds st => match walkD st k ds with
    | some xs => loopL (fun x env st => match asgT st t x env with
        | some env => runs body env st
        | none => .stk) (fun st' => still (refsOf ds) st st') xs env st
    | none => .stk
  | .whl c body, env, st => loopW (fun env st => testR (ev Γ cf c env st)) (fun env st => runs body env st) 1000000 env st
  | .ret e, env, st => (ev Γ cf e env st).s env fun d st => .rt d st
  | .exp e, env, st => (ev Γ cf e env st).s env fun _ st => .nx env st
  | .pass, env, st => .nx env st
  | .raise c es, env, st => (evs Γ cf es env st).s env fun ds st => match Γ.exf c ds with
    | some fs => .ex c fs env st
    | none => .stk
  | .tri body c i j, env, st => match runs body env st with
    | .ex c' fs env st => match Γ.sub c' c with
      | some true => .nx (((env.set i (some (.ref st.length))).set j (some (.ref st.length))).set i none) (st ++ [.exc c' fs])
      | some false => .ex c' fs env st
      | none => .stk
    | r => r
noncomputable def runs : List S → Env → Store → SR
  | [], env, st => .nx env st
  | s :: ss, env, st => (run s env st).bind fun env st => runs ss env st
end
end

structure FnDef where
  np : Nat
  ns : Nat
  body : List S
def startE (ns : Nat) (ds : List D) : Env := ds.map some ++ List.replicate (ns - ds.length) none
/-- a call, so many levels deep -/
noncomputable def callN (Γ : Tx) (fn : Nat → Option FnDef) : Nat → CF
  | 0, _, _, _ => .stk
  | n + 1, f, ds, st => match fn f with
    | some fd => if ds.length = fd.np then retOf st (runs Γ (callN Γ fn n) fd.body (startE fd.ns ds) st) else .stk
    | none => .stk
end Cip

/-! Cip2: how the values and the store lie in the heap. -/
namespace Cip
open PySem PySem.Spec PyProof.Rows L2

/-- where the classes stand, how the fields are called -/
structure Rz where
  K : PySem.W.Frag
  cls : Nat → Addr
  fnm : Nat → Str

/-- where the store's objects stand, and what no value leads to -/
structure Fi where
  ref : List Addr
  hid : List Addr
def Fi.push (φ : Fi) (p : Addr) : Fi := ⟨φ.ref ++ [p], φ.hid⟩
def Fi.no (φ : Fi) (a : Addr) : Prop := a ∉ φ.ref ∧ a ∉ φ.hid
/-- a list that no one writes: tracked and not of the store, or one of the written part -/
def SqF (K : PySem.W.Frag) (φ : Fi) (H : Hp) (a : Addr) (xs : List V) : Prop :=
  (Rd H a (.lst xs) ∧ φ.no a) ∨
    ∃ (o : Obj) (its : Array Value) (n : Nat), K.lookup a = some o ∧ o.cls = .type "list" ∧ o.dict = none ∧ o.data = .seq its n ∧ its.size ≤ sizeLine ∧ Vals xs its.toList
theorem SqF.sq {K : PySem.W.Frag} {φ : Fi} {H : Hp} {a : Addr} {xs : List V} (h : SqF K φ H a xs) : SqL K H a xs := h.elim (fun h => .inl h.1) .inr

section
variable (K : PySem.W.Frag) (φ : Fi) (H : Hp)
mutual
def Rep : D → V → Prop
  | .non, v => v = .non
  | .bl b, v => v = .bl b
  | .int i, v => v = .int i
  | .str x, v => v = .str x ∧ x.length ≤ sizeLine
  | .tup xs, v => ∃ a vs, v = .ref a ∧ SqT K H a vs ∧ xs.length ≤ sizeLine ∧ Reps xs vs
  | .lst xs, v => ∃ a vs, v = .ref a ∧ H a = some (.lst vs) ∧ φ.no a ∧ xs.length ≤ sizeLine ∧ Reps xs vs
  | .scr xs, v => ∃ a vs, v = .ref a ∧ SqF K φ H a vs ∧ xs.length ≤ sizeLine ∧ Reps xs vs
  | .dct ks ws, v => ∃ a kvs, v = .ref a ∧ H a = some (.dK kvs) ∧ φ.no a ∧ kvs.map (·.1) = ks ∧ Reps ws (kvs.map (·.2))
  | .ref k, v => ∃ a, φ.ref[k]? = some a ∧ v = .ref a
def Reps : List D → List V → Prop
  | [], vs => vs = []
  | x :: xs, vs => ∃ v r, vs = v :: r ∧ Rep x v ∧ Reps xs r
end
end

/-- no tuple stands there -/
def NoTup (H : Hp) (b : Addr) : Prop := ∀ xs, ¬ Rd H b (.tup xs)
/-- what a step leaves: new objects behind the old ones, what is not of the store as it was -/
structure Ext (φ : Fi) (H : Hp) (φ' : Fi) (H' : Hp) : Prop where
  more : ∃ ψ, φ'.ref = φ.ref ++ ψ ∧ ∀ a ∈ ψ, H a = none
  hid : φ'.hid = φ.hid
  keep : ∀ a o, H a = some o → a ∉ φ.ref → H' a = some o

section
variable {K : PySem.W.Frag} {φ φ' : Fi} {H H' : Hp}
theorem Ext.refl : Ext φ H φ H := ⟨⟨[], by simp, by simp⟩, rfl, fun _ _ h _ => h⟩
theorem Ext.notin (e : Ext φ H φ' H') {a : Addr} {o : HO} (h : H a = some o) (n : a ∉ φ.ref) : a ∉ φ'.ref := by
  obtain ⟨ψ, hφ, hn⟩ := e.more
  intro m
  rw [hφ] at m
  rcases List.mem_append.mp m with m | m
  · exact n m
  · rw [hn a m] at h; cases h
theorem Ext.no (e : Ext φ H φ' H') {a : Addr} {o : HO} (h : H a = some o) (n : φ.no a) : φ'.no a := ⟨e.notin h n.1, by rw [e.hid]; exact n.2⟩
theorem Ext.sqt (e : Ext φ H φ' H') (nt : ∀ b ∈ φ.ref, NoTup H b) {a : Addr} {vs : List V} (h : SqT K H a vs) : SqT K H' a vs := by
  rcases h with h | h
  · have n : a ∉ φ.ref := fun m => nt a m vs h
    rcases h with h | ⟨o, h⟩
    · exact .inl (.inl (e.keep _ _ h n))
    · exact .inl (.inr ⟨o, e.keep _ _ h n⟩)
  · exact .inr h
theorem Ext.sqf (e : Ext φ H φ' H') {a : Addr} {vs : List V} (h : SqF K φ H a vs) : SqF K φ' H' a vs := by
  rcases h with ⟨h | ⟨o, h⟩, n⟩ | h
  · exact .inl ⟨.inl (e.keep _ _ h n.1), e.no h n⟩
  · exact .inl ⟨.inr ⟨o, e.keep _ _ h n.1⟩, e.no h n⟩
  · exact .inr h
mutual
theorem Rep.ext (e : Ext φ H φ' H') (nt : ∀ b ∈ φ.ref, NoTup H b) : ∀ (d : D) (v : V), Rep K φ H d v → Rep K φ' H' d v
  | .non, _, h => h
  | .bl _, _, h => h
  | .int _, _, h => h
  | .str _, _, h => h
  | .tup xs, _, ⟨a, vs, h1, h2, h3, h4⟩ => ⟨a, vs, h1, e.sqt nt h2, h3, Reps.ext e nt xs vs h4⟩
  | .lst xs, _, ⟨a, vs, h1, h2, h3, h4, h5⟩ => ⟨a, vs, h1, e.keep _ _ h2 h3.1, e.no h2 h3, h4, Reps.ext e nt xs vs h5⟩
  | .scr xs, _, ⟨a, vs, h1, h2, h4, h5⟩ => ⟨a, vs, h1, e.sqf h2, h4, Reps.ext e nt xs vs h5⟩
  | .dct ks ws, _, ⟨a, kvs, h1, h2, h3, h4, h5⟩ => ⟨a, kvs, h1, e.keep _ _ h2 h3.1, e.no h2 h3, h4, Reps.ext e nt ws _ h5⟩
  | .ref k, _, ⟨a, h1, h2⟩ => ⟨a, by
      obtain ⟨ψ, hφ, _⟩ := e.more
      rw [hφ, List.getElem?_append_left (List.getElem?_eq_some_iff.mp h1).1]
      exact h1, h2⟩
theorem Reps.ext (e : Ext φ H φ' H') (nt : ∀ b ∈ φ.ref, NoTup H b) : ∀ (ds : List D) (vs : List V), Reps K φ H ds vs → Reps K φ' H' ds vs
  | [], _, h => h
  | x :: xs, _, ⟨v, r, h1, h2, h3⟩ => ⟨v, r, h1, Rep.ext e nt x v h2, Reps.ext e nt xs r h3⟩
end
theorem Reps.length : ∀ {ds : List D} {vs : List V}, Reps K φ H ds vs → vs.length = ds.length
  | [], _, h => by cases h; rfl
  | _ :: _, _, ⟨v, r, h1, h2, h3⟩ => by subst h1; simp [Reps.length h3]
theorem Reps.get : ∀ {ds : List D} {vs : List V} {i : Nat} {d : D}, Reps K φ H ds vs → ds[i]? = some d → ∃ v, vs[i]? = some v ∧ Rep K φ H d v
  | [], _, _, _, _, h => by simp at h
  | x :: xs, _, 0, d, ⟨v, r, h1, h2, h3⟩, h => by
    subst h1; simp at h; subst h; exact ⟨v, rfl, h2⟩
  | x :: xs, _, i + 1, d, ⟨v, r, h1, h2, h3⟩, h => by
    subst h1; simp at h; simpa using Reps.get h3 h
theorem Reps.get' : ∀ {ds : List D} {vs : List V} {i : Nat} {v : V}, Reps K φ H ds vs → vs[i]? = some v → ∃ d, ds[i]? = some d ∧ Rep K φ H d v
  | [], _, _, _, h', h => by cases h'; simp at h
  | x :: xs, _, 0, d, ⟨v, r, h1, h2, h3⟩, h => by
    subst h1; simp at h; subst h; exact ⟨x, rfl, h2⟩
  | x :: xs, _, i + 1, d, ⟨v, r, h1, h2, h3⟩, h => by
    subst h1; simp at h; simpa using Reps.get' h3 h
theorem Reps.append : ∀ {ds es : List D} {vs ws : List V}, Reps K φ H ds vs → Reps K φ H es ws → Reps K φ H (ds ++ es) (vs ++ ws)
  | [], _, _, _, h, h' => by cases h; exact h'
  | x :: xs, _, _, _, ⟨v, r, h1, h2, h3⟩, h' => ⟨v, _, by subst h1; rfl, h2, Reps.append h3 h'⟩
theorem Reps.take : ∀ {ds : List D} {vs : List V} (n : Nat), Reps K φ H ds vs → Reps K φ H (ds.take n) (vs.take n)
  | _, _, 0, _ => rfl
  | [], _, n + 1, h => by cases h; rfl
  | x :: xs, _, n + 1, ⟨v, r, h1, h2, h3⟩ => ⟨v, r.take n, by subst h1; rfl, h2, Reps.take n h3⟩
theorem Reps.drop : ∀ {ds : List D} {vs : List V} (n : Nat), Reps K φ H ds vs → Reps K φ H (ds.drop n) (vs.drop n)
  | _, _, 0, h => h
  | [], _, n + 1, h => by cases h; rfl
  | x :: xs, _, n + 1, ⟨v, r, h1, h2, h3⟩ => by subst h1; exact Reps.drop n h3
theorem Reps.set : ∀ {ds : List D} {vs : List V} (n : Nat) {d : D} {v : V}, Rep K φ H d v → Reps K φ H ds vs → Reps K φ H (ds.set n d) (vs.set n v)
  | [], _, _, _, _, _, h => by cases h; rfl
  | x :: xs, _, 0, _, _, h0, ⟨v, r, h1, h2, h3⟩ => ⟨_, r, by subst h1; rfl, h0, h3⟩
  | x :: xs, _, n + 1, _, _, h0, ⟨v, r, h1, h2, h3⟩ => ⟨v, _, by subst h1; rfl, h2, Reps.set n h0 h3⟩
theorem Reps.rev : ∀ {ds : List D} {vs : List V}, Reps K φ H ds vs → Reps K φ H ds.reverse vs.reverse
  | [], _, h => by cases h; rfl
  | x :: xs, _, ⟨v, r, h1, h2, h3⟩ => by
    subst h1
    rw [List.reverse_cons, List.reverse_cons]
    exact Reps.append (Reps.rev h3) ⟨v, [], rfl, h2, rfl⟩
theorem Reps.rep {ds : List D} {vs : List V} (h : Reps K φ H ds vs) : ∀ n : Nat, Reps K φ H (List.replicate n ds).flatten (List.replicate n vs).flatten
  | 0 => rfl
  | n + 1 => by
    rw [List.replicate_succ, List.replicate_succ, List.flatten_cons, List.flatten_cons]
    exact Reps.append h (Reps.rep h n)
end

/-- an own error at a -/
def XO (cls : Value) (d : Option Addr) (a : Addr) : HO := .ext fun h => ∃ (oe : Obj) (vs : Array Value), h.get? a = some oe ∧ Zc cls d oe ∧ oe.data = .fields vs

section
variable (T : Rz) (φ : Fi) (H : Hp)
/-- an error's fields in its own dict -/
def XF (fs : List (Nat × D)) (d : Option Addr) : Prop := (fs = [] → d = none) ∧ (fs ≠ [] → ∃ dd gs, d = some dd ∧ H dd = some (.xd gs) ∧ φ.no dd ∧ gs.map (·.1) = fs.map (fun p => T.fnm p.1) ∧ Reps T.K φ H (fs.map (·.2)) (gs.map (·.2)))
def ORel : MO → Addr → Prop
  | .lst xs, a => ∃ vs, H a = some (.lst vs) ∧ xs.length ≤ sizeLine ∧ Reps T.K φ H xs vs
  | .dct lk ks ws, a => ∃ kvs, (if lk = true then ∃ o, H a = some (.frz o (.dK kvs)) else H a = some (.dK kvs)) ∧ kvs.map (·.1) = ks ∧ Reps T.K φ H ws (kvs.map (·.2))
  | .ins c fs, a => ∃ dx gs, H a = some (.ins (T.cls c) dx gs) ∧ gs.map (·.1) = fs.map (fun p => T.fnm p.1) ∧ Reps T.K φ H (fs.map (·.2)) (gs.map (·.2))
  | .exc c fs, a => ∃ d, H a = some (XO (.ref (T.cls c)) d a) ∧ XF T φ H fs d
structure Rel (st : Store) : Prop where
  len : φ.ref.length = st.length
  nd : φ.ref.Nodup
  at_ : ∀ (k : Nat) (o : MO), st[k]? = some o → ∃ a, φ.ref[k]? = some a ∧ ORel T φ H o a
  hid : ∀ a ∈ φ.hid, a ∉ φ.ref ∧ ∃ xs, H a = some (.lst xs)
end

section
variable {T : Rz} {φ φ' φ'' : Fi} {H H' H'' : Hp} {st st' : Store}
theorem ORel.noTup {o : MO} {a : Addr} (h : ORel T φ H o a) : NoTup H a := by
  intro xs r
  have key : ∀ u, H a = some u → (∀ ys, u ≠ .tup ys) → (∀ ob ys, u ≠ .frz ob (.tup ys)) → False := fun u e n1 n2 => by
    rcases r with r | ⟨ob, r⟩
    · rw [e] at r; exact n1 _ (Option.some.inj r)
    · rw [e] at r; exact n2 _ _ (Option.some.inj r)
  cases o with
  | lst _ => obtain ⟨_, e, _⟩ := h; exact key _ e (by simp) (by simp)
  | dct lk _ _ =>
    obtain ⟨_, e, _⟩ := h
    cases lk with
    | true => simp only [if_true] at e; obtain ⟨_, e⟩ := e; exact key _ e (by simp) (by simp)
    | false => simp only [Bool.false_eq_true, if_false] at e; exact key _ e (by simp) (by simp)
  | ins _ _ => obtain ⟨_, _, e, _⟩ := h; exact key _ e (by simp) (by simp)
  | exc _ _ => obtain ⟨_, e, _⟩ := h; exact key _ e (by simp [XO]) (by simp [XO])
theorem ORel.there {o : MO} {a : Addr} (h : ORel T φ H o a) : ∃ u, H a = some u := by
  cases o with
  | lst _ => obtain ⟨_, e, _⟩ := h; exact ⟨_, e⟩
  | dct lk _ _ =>
    obtain ⟨_, e, _⟩ := h
    cases lk with
    | true => simp only [if_true] at e; obtain ⟨_, e⟩ := e; exact ⟨_, e⟩
    | false => simp only [Bool.false_eq_true, if_false] at e; exact ⟨_, e⟩
  | ins _ _ => obtain ⟨_, _, e, _⟩ := h; exact ⟨_, e⟩
  | exc _ _ => obtain ⟨_, e, _⟩ := h; exact ⟨_, e⟩
theorem Rel.mem (r : Rel T φ H st) {a : Addr} (h : a ∈ φ.ref) : ∃ (k : Nat) (o : MO), st[k]? = some o ∧ φ.ref[k]? = some a ∧ ORel T φ H o a := by
  obtain ⟨k, hk⟩ := List.getElem?_of_mem h
  have hl : k < st.length := by rw [← r.len]; exact (List.getElem?_eq_some_iff.mp hk).1
  obtain ⟨a', h1, h2⟩ := r.at_ k st[k] (List.getElem?_eq_getElem hl)
  rw [hk] at h1; cases h1
  exact ⟨k, _, List.getElem?_eq_getElem hl, hk, h2⟩
theorem Rel.nt (r : Rel T φ H st) : ∀ b ∈ φ.ref, NoTup H b := fun b hb => let ⟨_, _, _, _, h⟩ := r.mem hb; h.noTup
theorem Rel.has (r : Rel T φ H st) {a : Addr} (h : a ∈ φ.ref) : ∃ u, H a = some u := let ⟨_, _, _, _, h⟩ := r.mem h; h.there
theorem Rel.fresh (r : Rel T φ H st) {p : Addr} (h : H p = none) : φ.no p := by
  refine ⟨fun m => ?_, fun m => ?_⟩
  · obtain ⟨u, e⟩ := r.has m
    rw [h] at e
    cases e
  · obtain ⟨_, u, e⟩ := r.hid p m
    rw [h] at e
    cases e
theorem Rel.rep (r : Rel T φ H st) (e : Ext φ H φ' H') {d : D} {v : V} (h : Rep T.K φ H d v) : Rep T.K φ' H' d v := Rep.ext e r.nt d v h
theorem Rel.reps (r : Rel T φ H st) (e : Ext φ H φ' H') {d : List D} {v : List V} (h : Reps T.K φ H d v) : Reps T.K φ' H' d v := Reps.ext e r.nt d v h
theorem Ext.trans (e : Ext φ H φ' H') (r : Rel T φ H st) (f : Ext φ' H' φ'' H'') (r' : Rel T φ' H' st') : Ext φ H φ'' H'' := by
  obtain ⟨ψ, hψ, nψ⟩ := e.more
  obtain ⟨χ, hχ, nχ⟩ := f.more
  refine ⟨⟨ψ ++ χ, by rw [hχ, hψ, List.append_assoc], fun a ha => ?_⟩, f.hid.trans e.hid, fun a o h n => f.keep a o (e.keep a o h n) (e.notin h n)⟩
  rcases List.mem_append.mp ha with ha | ha
  · exact nψ a ha
  · cases q : H a with
    | none => rfl
    | some o =>
      by_cases m : a ∈ φ.ref
      · obtain ⟨u, hu⟩ := r'.has (a := a) (by rw [hψ]; exact List.mem_append_left _ m)
        rw [nχ a ha] at hu; cases hu
      · have := e.keep a o q m
        rw [nχ a ha] at this; cases this
/-- what is new later is new now -/
theorem Ext.back (e : Ext φ H φ' H') (r' : Rel T φ' H' st') {p : Addr} (h : H' p = none) : H p = none := by
  cases q : H p with
  | none => rfl
  | some o =>
    by_cases m : p ∈ φ.ref
    · obtain ⟨ψ, hψ, _⟩ := e.more
      obtain ⟨u, hu⟩ := r'.has (a := p) (by rw [hψ]; exact List.mem_append_left _ m)
      rw [h] at hu; cases hu
    · have := e.keep p o q m
      rw [h] at this; cases this
theorem XF.ext (e : Ext φ H φ' H') (nt : ∀ b ∈ φ.ref, NoTup H b) {fs : List (Nat × D)} {d : Option Addr} (h : XF T φ H fs d) : XF T φ' H' fs d := ⟨h.1, fun hn => by
  obtain ⟨dd, gs, h1, h2, h3, h4, h5⟩ := h.2 hn
  exact ⟨dd, gs, h1, e.keep _ _ h2 h3.1, e.no h2 h3, h4, Reps.ext e nt _ _ h5⟩⟩
/-- an object of the store that stands as it stood -/
theorem ORel.ext (e : Ext φ H φ' H') (nt : ∀ b ∈ φ.ref, NoTup H b) {o : MO} {a : Addr} (ha : H' a = H a) (h : ORel T φ H o a) : ORel T φ' H' o a := by
  cases o with
  | lst _ => obtain ⟨vs, h1, h2, h3⟩ := h; exact ⟨vs, ha.trans h1, h2, Reps.ext e nt _ _ h3⟩
  | dct lk _ _ => obtain ⟨kvs, h1, h2, h3⟩ := h; exact ⟨kvs, by rw [ha]; exact h1, h2, Reps.ext e nt _ _ h3⟩
  | ins _ _ => obtain ⟨dx, gs, h1, h2, h3⟩ := h; exact ⟨dx, gs, ha.trans h1, h2, Reps.ext e nt _ _ h3⟩
  | exc _ _ => obtain ⟨d, h1, h2⟩ := h; exact ⟨d, ha.trans h1, h2.ext e nt⟩
/-- a new thing that is not of the store -/
theorem ext_new {p : Addr} {o : HO} (hp : H p = none) : Ext φ H φ (upd H p o) :=
  ⟨⟨[], by simp, by simp⟩, rfl, fun a u h _ => by rw [upd_ne (ne_of_none h hp)]; exact h⟩
theorem Rel.new (r : Rel T φ H st) {p : Addr} {o : HO} (hp : H p = none) : Rel T φ (upd H p o) st :=
  ⟨r.len, r.nd, fun k m h => by
    obtain ⟨a, h1, h2⟩ := r.at_ k m h
    obtain ⟨u, hu⟩ := h2.there
    exact ⟨a, h1, h2.ext (ext_new hp) r.nt (upd_ne (ne_of_none hu hp))⟩, fun a ha => by
    obtain ⟨h1, xs, h2⟩ := r.hid a ha
    exact ⟨h1, xs, by rw [upd_ne (ne_of_none h2 hp)]; exact h2⟩⟩
/-- an object of the store changes -/
theorem ext_set {p : Addr} {o : HO} (hp : p ∈ φ.ref) : Ext φ H φ (upd H p o) :=
  ⟨⟨[], by simp, by simp⟩, rfl, fun a u h n => by rw [upd_ne (fun e => n (by rw [e]; exact hp))]; exact h⟩
theorem Rel.put (r : Rel T φ H st) {k : Nat} {p : Addr} {o : HO} {m : MO} (hk : φ.ref[k]? = some p) (h : ORel T φ (upd H p o) m p) : Rel T φ (upd H p o) (st.set k m) := by
  have hp : p ∈ φ.ref := List.mem_of_getElem? hk
  refine ⟨by rw [r.len, List.length_set], r.nd, fun j x hj => ?_, fun a ha => ?_⟩
  rotate_left
  · obtain ⟨h1, xs, h2⟩ := r.hid a ha
    exact ⟨h1, xs, by rw [upd_ne (fun e => h1 (by rw [e]; exact hp))]; exact h2⟩
  by_cases e : j = k
  · subst e
    have hl : j < st.length := by rw [← r.len]; exact (List.getElem?_eq_some_iff.mp hk).1
    rw [List.getElem?_set_self hl] at hj
    cases hj
    exact ⟨p, hk, h⟩
  · rw [List.getElem?_set_ne (Ne.symm e)] at hj
    obtain ⟨a, h1, h2⟩ := r.at_ j x hj
    refine ⟨a, h1, h2.ext (ext_set hp) r.nt (upd_ne fun z => e ?_)⟩
    subst z
    exact L2.nd_ix r.nd h1 hk
end
end Cip

/-! Cip3: what is wanted behind an expression; the operators by values. -/
namespace Cip
open PySem PySem.Spec PyProof.Rows L2

/-- names: where the classes stand, how the fields are called -/
structure Nm where
  cls : Nat → Addr
  fnm : Nat → Str
abbrev rz (X : Cx) (t : Nm) : Rz := ⟨X.K, t.cls, t.fnm⟩

def D.isL : D → Bool
  | .lst _ => true
  | .dct _ _ => true
  | _ => false
/-- a list, a dict that was laid last, at a place where nothing was: Hb is the heap ahead of it -/
def Fresh (T : Rz) (H : Hp) (φ' : Fi) (H' : Hp) (st : Store) (d : D) (v : V) : Prop :=
  ∃ (p : Addr) (Hb : Hp) (o : HO), v = .ref p ∧ H' = upd Hb p o ∧ Hb p = none ∧ H p = none ∧ Rel T φ' Hb st ∧ match d with
    | .lst ds => ∃ vs, o = .lst vs ∧ ds.length ≤ sizeLine ∧ Reps T.K φ' Hb ds vs
    | .dct ks ws => ∃ kvs, o = .dK kvs ∧ kvs.map (·.1) = ks ∧ Reps T.K φ' Hb ws (kvs.map (·.2))
    | _ => True
abbrev RepT (α β : Type) : Type := Hp → Fi → Hp → Store → α → β → Prop
def repD (T : Rz) (fr : Bool) : RepT D V := fun H φ' H' st d v => Rep T.K φ' H' d v ∧ (fr = true → d.isL = true → Fresh T H φ' H' st d v)
def repS (T : Rz) : RepT (List D) (List V) := fun _ φ' H' _ d v => Reps T.K φ' H' d v
def repB : RepT Bool Bool := fun _ _ _ _ a b => a = b
/-- an error, as it is raised -/
def XV (T : Rz) (φ : Fi) (H : Hp) (c : Nat) (fs : List (Nat × D)) (cls : Value) (d : Option Addr) : Prop := cls = .ref (T.cls c) ∧ XF T φ H fs d
/-- what is wanted behind a computation that comes to r -/
def OutG {α β : Type} (T : Rz) (rep : RepT α β) (W : WX) (φ : Fi) (H : Hp) (σ : L2.St) (r : R α) (Q : β → Hp → Prop) : Prop := match r with
  | .ok d st => ∀ φ' H' v, Rel T φ' H' st → Ext φ H φ' H' → rep H φ' H' st d v → Q v H'
  | .ex c fs st => ∀ φ' H' cls dd, Rel T φ' H' st → Ext φ H φ' H' → XV T φ' H' c fs cls dd → W cls dd σ H'
  | .stk => False
/-- .. where the store stays -/
def OutO (T : Rz) (fr : Bool) (φ : Fi) (H : Hp) (st : Store) (o : Option D) (Q : VK) : Prop := match o with
  | some d => ∀ H' v, Rel T φ H' st → Ext φ H φ H' → repD T fr H φ H' st d v → Q v H'
  | none => False
/-- what is new later is new now -/
def Shift {α β : Type} (T : Rz) (rep : RepT α β) : Prop := ∀ (φ : Fi) (H : Hp) (φ1 : Fi) (H1 : Hp) (st1 : Store) (φ2 : Fi) (H2 : Hp) (st2 : Store) (c : α) (w : β), Ext φ H φ1 H1 → Rel T φ1 H1 st1 → rep H1 φ2 H2 st2 c w → rep H φ2 H2 st2 c w
structure EnvR (T : Rz) (φ : Fi) (H : Hp) (σ : L2.St) (env : Env) : Prop where
  len : σ.length = env.length
  get : ∀ (i : Nat) (d : D), env[i]? = some (some d) → ∃ v, σ[i]? = some (some v) ∧ Rep T.K φ H d v

section
variable {T : Rz} {W : WX} {φ φ' : Fi} {H H' : Hp} {σ : L2.St} {st st' : Store} {env : Env}
theorem OutG.imp {α β : Type} {rep : RepT α β} {r : R α} {Q Q' : β → Hp → Prop} (h : OutG T rep W φ H σ r Q) (hq : ∀ v H, Q v H → Q' v H) : OutG T rep W φ H σ r Q' := by
  cases r with
  | ok d st => exact fun φ' H' v a b c => hq _ _ (h φ' H' v a b c)
  | ex c fs st => exact h
  | stk => exact h
theorem OutG.shift {α β : Type} {rep : RepT α β} {r : R α} {Q : β → Hp → Prop} (sh : Shift T rep) (r0 : Rel T φ H st) (e1 : Ext φ H φ' H') (r1 : Rel T φ' H' st') (h : OutG T rep W φ H σ r Q) : OutG T rep W φ' H' σ r Q := by
  cases r with
  | stk => exact h
  | ex c fs st2 => exact fun φ2 H2 cls dd r2 e2 x => h φ2 H2 cls dd r2 (e1.trans r0 e2 r1) x
  | ok b st2 => exact fun φ2 H2 w r2 e2 p2 => h φ2 H2 w r2 (e1.trans r0 e2 r1) (sh _ _ _ _ _ _ _ _ _ _ e1 r1 p2)
theorem OutG.bind {α β γ δ : Type} {rep1 : RepT α β} {rep2 : RepT γ δ} {r : R α} {k : α → Store → R γ} {Q : δ → Hp → Prop} (r0 : Rel T φ H st) (sh : Shift T rep2) (h : OutG T rep2 W φ H σ (r.bind k) Q) :
    OutG T rep1 W φ H σ r (fun v H1 => ∃ φ1 st1 a, Rel T φ1 H1 st1 ∧ Ext φ H φ1 H1 ∧ rep1 H φ1 H1 st1 a v ∧ OutG T rep2 W φ1 H1 σ (k a st1) Q) := by
  cases r with
  | stk => exact h
  | ex c fs st => exact h
  | ok d st1 => exact fun φ1 H1 v r1 e1 p1 => ⟨φ1, st1, d, r1, e1, p1, OutG.shift sh r0 e1 r1 h⟩
theorem shD {fr : Bool} : Shift T (repD T fr) := fun φ H φ1 H1 st1 φ2 H2 st2 c w e r h =>
  ⟨h.1, fun q l => by
    obtain ⟨p, Hb, o, h1, h2, h3, h4, h5, h6⟩ := h.2 q l
    exact ⟨p, Hb, o, h1, h2, h3, e.back r h4, h5, h6⟩⟩
theorem shS : Shift T (repS T) := fun _ _ _ _ _ _ _ _ _ _ _ _ h => h
theorem shB : Shift T repB := fun _ _ _ _ _ _ _ _ _ _ _ _ h => h
theorem OutG.of {fr : Bool} {o : Option D} {Q : VK} (h : OutG T (repD T fr) W φ H σ (R.of o st) Q) : OutO T fr φ H st o Q := by
  cases o with
  | none => exact h
  | some d => exact fun H' v r e p => h φ H' v r e p
theorem OutG.of_ok {d : D} {fr : Bool} {Q : VK} (h : OutG T (repD T fr) W φ H σ (R.ok d st) Q) : OutO T fr φ H st (some d) Q := fun H' v r e p => h φ H' v r e p
theorem EnvR.ext (E : EnvR T φ H σ env) (r : Rel T φ H st) (e : Ext φ H φ' H') : EnvR T φ' H' σ env :=
  ⟨E.len, fun i d h => let ⟨v, h1, h2⟩ := E.get i d h; ⟨v, h1, r.rep e h2⟩⟩
theorem repD.weak {d : D} {v : V} (h : Rep T.K φ' H' d v) : repD T false H φ' H' st d v := ⟨h, fun z => by cases z⟩
theorem repD.no {fr : Bool} {d : D} {v : V} (h : Rep T.K φ' H' d v) (hd : d.isL = false) : repD T fr H φ' H' st d v := ⟨h, fun _ z => by rw [hd] at z; cases z⟩

/-! ### new things -/
theorem new_lst {p : Addr} {ds : List D} {vs : List V} (r : Rel T φ H st) (hp : H p = none) (hr : Reps T.K φ H ds vs) (hl : ds.length ≤ sizeLine) :
    Rel T φ (upd H p (.lst vs)) st ∧ Ext φ H φ (upd H p (.lst vs)) ∧ repD T true H φ (upd H p (.lst vs)) st (.lst ds) (.ref p) :=
  ⟨r.new hp, ext_new hp, ⟨p, vs, rfl, upd_same, r.fresh hp, hl, r.reps (ext_new hp) hr⟩, fun _ _ => ⟨p, H, _, rfl, rfl, hp, hp, r, vs, rfl, hl, hr⟩⟩
theorem new_tup {p : Addr} {ds : List D} {vs : List V} (r : Rel T φ H st) (hp : H p = none) (hr : Reps T.K φ H ds vs) (hl : ds.length ≤ sizeLine) :
    Rel T φ (upd H p (.tup vs)) st ∧ Ext φ H φ (upd H p (.tup vs)) ∧ Rep T.K φ (upd H p (.tup vs)) (.tup ds) (.ref p) :=
  ⟨r.new hp, ext_new hp, p, vs, rfl, .inl (.inl upd_same), hl, r.reps (ext_new hp) hr⟩
theorem OutO.lst {fr : Bool} {Q : VK} {ds : List D} {vs : List V} {p : Addr} (h : OutO T fr φ H st (some (.lst ds)) Q) (r : Rel T φ H st) (hp : H p = none) (hr : Reps T.K φ H ds vs) (hl : ds.length ≤ sizeLine) : Q (.ref p) (upd H p (.lst vs)) :=
  let ⟨a, b, c⟩ := new_lst r hp hr hl
  h _ _ a b ⟨c.1, fun _ _ => c.2 rfl rfl⟩
theorem OutO.tup {fr : Bool} {Q : VK} {ds : List D} {vs : List V} {p : Addr} (h : OutO T fr φ H st (some (.tup ds)) Q) (r : Rel T φ H st) (hp : H p = none) (hr : Reps T.K φ H ds vs) (hl : ds.length ≤ sizeLine) : Q (.ref p) (upd H p (.tup vs)) :=
  let ⟨a, b, c⟩ := new_tup r hp hr hl
  h _ _ a b (.no c rfl)
/-- a value that makes nothing -/
theorem OutO.flat {fr : Bool} {Q : VK} {d : D} {v : V} (h : OutO T fr φ H st (some d) Q) (r : Rel T φ H st) (hd : Rep T.K φ H d v) (hn : d.isL = false := by rfl) : Q v H :=
  h _ _ r .refl (.no hd hn)
theorem OutO.same {Q : VK} {d : D} {v : V} (h : OutO T false φ H st (some d) Q) (r : Rel T φ H st) (hd : Rep T.K φ H d v) : Q v H := h _ _ r .refl (.weak hd)

/-! ### looking at things -/
theorem lst_at {d : D} {v : V} {xs : List D} (r : Rel T φ H st) (h : Rep T.K φ H d v) (e : lstD st d = some xs) : ∃ a vs, v = .ref a ∧ H a = some (.lst vs) ∧ xs.length ≤ sizeLine ∧ Reps T.K φ H xs vs := by
  unfold lstD at e
  split at e
  · cases e
    obtain ⟨a, vs, h1, h2, h3, h4, h5⟩ := h
    exact ⟨a, vs, h1, h2, h4, h5⟩
  · rename_i k
    split at e
    · rename_i ys hy
      cases e
      obtain ⟨a, h1, h2⟩ := h
      obtain ⟨b, h3, vs, h4, h5, h6⟩ := r.at_ k _ hy
      rw [h1] at h3; cases h3
      exact ⟨a, vs, h2, h4, h5, h6⟩
    · cases e
  · cases e
theorem seq_at {d : D} {v : V} {xs : List D} (r : Rel T φ H st) (h : Rep T.K φ H d v) (e : seqD st d = some xs) : ∃ a vs, v = .ref a ∧ (SqL T.K H a vs ∨ SqT T.K H a vs) ∧ xs.length ≤ sizeLine ∧ Reps T.K φ H xs vs := by
  unfold seqD at e
  split at e
  · cases e
    obtain ⟨a, vs, h1, h2, h3, h4⟩ := h
    exact ⟨a, vs, h1, .inr h2, h3, h4⟩
  · cases e
    obtain ⟨a, vs, h1, h2, h3, h4, h5⟩ := h
    exact ⟨a, vs, h1, .inl (.inl (.inl h2)), h4, h5⟩
  · cases e
    obtain ⟨a, vs, h1, h2, h4, h5⟩ := h
    exact ⟨a, vs, h1, .inl h2.sq, h4, h5⟩
  · rename_i k
    split at e
    · rename_i ys hy
      cases e
      obtain ⟨a, h1, h2⟩ := h
      obtain ⟨b, h3, vs, h4, h5, h6⟩ := r.at_ k _ hy
      rw [h1] at h3; cases h3
      exact ⟨a, vs, h2, .inl (.inl (.inl h4)), h5, h6⟩
    · cases e
  · cases e
theorem lsq_at {d : D} {v : V} {xs : List D} (r : Rel T φ H st) (h : Rep T.K φ H d v) (e : lsqD st d = some xs) : ∃ a vs, v = .ref a ∧ SqL T.K H a vs ∧ xs.length ≤ sizeLine ∧ Reps T.K φ H xs vs := by
  unfold lsqD at e
  split at e
  · cases e
    obtain ⟨a, vs, h1, h2, h3, h4, h5⟩ := h
    exact ⟨a, vs, h1, .inl (.inl h2), h4, h5⟩
  · cases e
    obtain ⟨a, vs, h1, h2, h4, h5⟩ := h
    exact ⟨a, vs, h1, h2.sq, h4, h5⟩
  · rename_i k
    split at e
    · rename_i ys hy
      cases e
      obtain ⟨a, h1, h2⟩ := h
      obtain ⟨b, h3, vs, h4, h5, h6⟩ := r.at_ k _ hy
      rw [h1] at h3; cases h3
      exact ⟨a, vs, h2, .inl (.inl h4), h5, h6⟩
    · cases e
  · cases e
end
end Cip

/-! Cip4: the operators, by values. -/
namespace Cip
open PySem PySem.Spec PyProof.Rows L2

/-! ### values that read as data -/
/-- it reads so, and sys.modules is none of its parts if there is a dict in it -/
def RdA (h : Heap) (u : Value) (p : PyData) : Prop := ∃ as, Reads h u p as ∧ (hasL p = false → sysModules ∉ as)
def RdAs (h : Heap) (us : List Value) (ps : List PyData) : Prop := ∃ as, ReadsAll h us ps as ∧ (hasLs ps = false → sysModules ∉ as)
section
variable {X : Cx} {pins : List (Addr × Obj)} {σ : L2.St} {H : Hp} {s : Shared} {t : Nm} {φ : Fi} {st : Store}
theorem rd_list (I : Inv X pins σ H s) {a : Addr} {vs : List V} {ps : List PyData} (h : SqL X.K H a vs) (k : ∀ us, Vals vs us → RdAs s.heap us ps) : RdA s.heap (.ref a) (.list ps) := by
  obtain ⟨its, r, ⟨o, n, e1, e2, e3, e4⟩, _⟩ := I.list h
  obtain ⟨as, e5, _⟩ := k its r
  exact ⟨_, .list e1 e2 e4 (by simpa using e5), fun z => by cases z⟩
theorem rd_tup (I : Inv X pins σ H s) {a : Addr} {vs : List V} {ps : List PyData} (h : SqT X.K H a vs) (k : ∀ us, Vals vs us → RdAs s.heap us ps) : RdA s.heap (.ref a) (.tuple ps) := by
  obtain ⟨its, r, ⟨o, e1, e2, n, e4⟩, _⟩ := I.tuple h
  obtain ⟨as, e5, e6⟩ := k its r
  exact ⟨_, .tuple e1 e2 e4 (by simpa using e5), e6⟩
theorem rd_dct (I : Inv X pins σ H s) {a : Addr} (h : Rd H a (.dK [])) : RdA s.heap (.ref a) (.dict []) := by
  obtain ⟨_, hs, vs, kv, o, es, ep, e1, ⟨e2, _, _⟩, e3, _, e4, _⟩ := h.ok I.hok
  cases kv
  have e5 : es.toList = [] := by
    cases q : es.toList with
    | nil => rfl
    | cons a b => rw [q] at e4; cases e4
  refine ⟨[a], ?_, fun _ z => ?_⟩
  · have := Reads.dict (kvs := []) (as := []) (bs := []) e1 e2 e3 (by rw [e5]; exact .nil) (by rw [e5]; exact .nil)
    simpa using this
  · have : sysModules = a := by simpa using z
    rw [← this] at hs
    simp at hs
mutual
theorem rd_of {rf : Nat → Option PyData} (I : Inv X pins σ H s) (hrf : ∀ k p v u, rf k = some p → Rep X.K φ H (.ref k) v → RelV v u → RdA s.heap u p) :
    ∀ (d : D) (v : V) (u : Value) (p : PyData), pyW rf d = some p → Rep X.K φ H d v → RelV v u → RdA s.heap u p
  | .non, v, u, p, e, h, r => by cases e; cases h; cases r; exact ⟨[], .none, fun _ => by simp⟩
  | .bl b, v, u, p, e, h, r => by cases e; cases h; cases r; exact ⟨[], .bool b, fun _ => by simp⟩
  | .int b, v, u, p, e, h, r => by cases e; cases h; obtain ⟨t, rfl⟩ := r; exact ⟨[], .int b t, fun _ => by simp⟩
  | .str b, v, u, p, e, h, r => by cases e; obtain ⟨h, _⟩ := h; cases h; obtain ⟨t, rfl⟩ := r; exact ⟨[], .str b t, fun _ => by simp⟩
  | .tup xs, v, u, p, e, h, r => by
    obtain ⟨a, vs, h1, h2, h3, h4⟩ := h
    subst h1
    cases r
    simp only [pyW] at e
    cases q : pysW rf xs with
    | none => rw [q] at e; cases e
    | some ps =>
      rw [q] at e
      cases e
      exact rd_tup I h2 fun us ru => rd_ofs I hrf xs vs us ps q h4 ru
  | .lst xs, v, u, p, e, h, r => by
    obtain ⟨a, vs, h1, h2, h2', h3, h4⟩ := h
    subst h1
    cases r
    simp only [pyW] at e
    cases q : pysW rf xs with
    | none => rw [q] at e; cases e
    | some ps =>
      rw [q] at e
      cases e
      exact rd_list I (.inl (.inl h2)) fun us ru => rd_ofs I hrf xs vs us ps q h4 ru
  | .dct ks ws, v, u, p, e, h, r => by
    obtain ⟨a, kvs, h1, h2, h3, h4, h5⟩ := h
    subst h1
    cases r
    simp only [pyW] at e
    split at e
    · rename_i hk
      cases e
      have : kvs = [] := by
        cases kvs with
        | nil => rfl
        | cons x y => rw [← h4] at hk; cases hk
      subst this
      exact rd_dct I (.inl h2)
    · cases e
  | .scr _, v, u, p, e, h, r => by cases e
  | .ref k, v, u, p, e, h, r => hrf k p v u e h r
theorem rd_ofs {rf : Nat → Option PyData} (I : Inv X pins σ H s) (hrf : ∀ k p v u, rf k = some p → Rep X.K φ H (.ref k) v → RelV v u → RdA s.heap u p) :
    ∀ (ds : List D) (vs : List V) (us : List Value) (ps : List PyData), pysW rf ds = some ps → Reps X.K φ H ds vs → Vals vs us → RdAs s.heap us ps
  | [], vs, us, ps, e, h, r => by cases e; cases h; cases r; exact ⟨[], .nil, fun _ => by simp⟩
  | x :: xs, vs, us, ps, e, h, r => by
    obtain ⟨v, w, h1, h2, h3⟩ := h
    subst h1
    cases r with
    | cons r1 r2 =>
      simp only [pysW] at e
      cases q1 : pyW rf x with
      | none => rw [q1] at e; cases e
      | some a =>
        cases q2 : pysW rf xs with
        | none => rw [q1, q2] at e; cases e
        | some b =>
          rw [q1, q2] at e
          cases e
          obtain ⟨as, a1, a2⟩ := rd_of I hrf x v _ a q1 h2 r1
          obtain ⟨bs, b1, b2⟩ := rd_ofs I hrf xs w _ b q2 h3 r2
          refine ⟨_, .cons a1 b1, fun z m => ?_⟩
          have z' : (hasL a || hasLs b) = false := z
          rw [Bool.or_eq_false_iff] at z'
          exact (List.mem_append.mp m).elim (a2 z'.1) (b2 z'.2)
end
theorem rd_ref (I : Inv X pins σ H s) (r : Rel (rz X t) φ H st) : ∀ (n : Nat) (k : Nat) (p : PyData) (v : V) (u : Value), pyR n st k = some p → Rep X.K φ H (.ref k) v → RelV v u → RdA s.heap u p
  | 0, _, _, _, _, e, _, _ => by cases e
  | n + 1, k, p, v, u, e, h, ru => by
    obtain ⟨a, h1, h2⟩ := h
    subst h2
    cases ru
    simp only [pyR] at e
    split at e
    · rename_i xs hk
      obtain ⟨b, h3, vs, h4, h5, h6⟩ := r.at_ k _ hk
      rw [h1] at h3; cases h3
      cases q : pysW (pyR n st) xs with
      | none => rw [q] at e; cases e
      | some ps =>
        rw [q] at e
        cases e
        exact rd_list I (.inl (.inl h4)) fun us ru => rd_ofs I (rd_ref I r n) xs vs us ps q h6 ru
    · rename_i xs hk
      cases e
      obtain ⟨b, h3, kvs, h4, h5, _⟩ := r.at_ k _ hk
      rw [h1] at h3; cases h3
      simp only [Bool.false_eq_true, if_false] at h4
      have : kvs = [] := by
        cases kvs with
        | nil => rfl
        | cons x y => cases h5
      subst this
      exact rd_dct I (.inl h4)
    · cases e
theorem rd_py (I : Inv X pins σ H s) (r : Rel (rz X t) φ H st) {d : D} {v : V} {u : Value} {p : PyData} (e : py st d = some p) (h : Rep X.K φ H d v) (ru : RelV v u) : RdA s.heap u p :=
  rd_of I (rd_ref I r 8) d v u p e h ru
end
/-! ### == and in -/
/-- an operator over two values of ours -/
def rOO (T : Rz) (fr : Bool) (f : Store → D → D → Option D) : R2 := fun x y H Q => ∃ φ st d e, Rel T φ H st ∧ Rep T.K φ H d x ∧ Rep T.K φ H e y ∧ OutO T fr φ H st (f st d e) Q
section
variable {X : Cx} {t : Nm}
theorem OutO.bl {T : Rz} {fr : Bool} {φ : Fi} {H : Hp} {st : Store} {b : Bool} {Q : VK} (h : OutO T fr φ H st (some (.bl b)) Q) (r : Rel T φ H st) : Q (.bl b) H :=
  h.flat r rfl
/-- what == tells: of plain data, or of lists of unlike lengths -/
theorem eq_cases {st : Store} {a b : D} {r : Bool} (h : eqD st a b = some r) :
    (∃ p q, py st a = some p ∧ py st b = some q ∧ p.plain = true ∧ q.plain = true ∧ min p.depth q.depth ≤ 100 ∧ r = PyData.eqv p q) ∨ ∃ xs ys, lstD st a = some xs ∧ lstD st b = some ys ∧ xs.length ≠ ys.length ∧ r = false := by
  unfold eqD at h
  split at h
  · rename_i r' e
    cases h
    unfold eqP at e
    split at e
    · rename_i p q q1 q2
      split at e
      · rename_i hc
        simp only [Bool.and_eq_true, decide_eq_true_eq] at hc
        cases e
        exact .inl ⟨p, q, q1, q2, hc.1.1, hc.1.2, hc.2, rfl⟩
      · cases e
    · cases e
  · unfold eqL at h
    split at h
    · rename_i xs ys q1 q2
      split at h
      · cases h
      · rename_i hc
        cases h
        exact .inr ⟨xs, ys, q1, q2, hc, rfl⟩
    · cases h
theorem vals_len {vs : List V} {us : List Value} (h : Vals vs us) : us.length = vs.length := by
  induction h with
  | nil => rfl
  | cons _ _ ih => simp only [List.length_cons, ih]
theorem reps_len1 {K : W.Frag} {φ : Fi} {H : Hp} : ∀ {ds : List D} {vs : List V}, Reps K φ H ds vs → vs.length = ds.length
  | [], _, h => by cases h; rfl
  | _ :: _, _, ⟨_, _, e, _, h⟩ => by subst e; simp only [List.length_cons, reps_len1 h]
theorem unlike {pins : List (Addr × Obj)} {σ : L2.St} {H : Hp} {s : Shared} {φ : Fi} {st : Store} (I : Inv X pins σ H s) (r : Rel (rz X t) φ H st) {d e : D} {x y : V} {v u : Value} {xs ys : List D} (q1 : lstD st d = some xs) (q2 : lstD st e = some ys) (hn : xs.length ≠ ys.length) (hd : Rep X.K φ H d x) (he : Rep X.K φ H e y) (rx : RelV x v) (ry : RelV y u) :
    ∃ a b is js, v = .ref a ∧ u = .ref b ∧ s.heap.IsList a is ∧ s.heap.IsList b js ∧ (is.size != js.size) = true := by
  obtain ⟨a, vs, h1, h2, _, h4⟩ := lst_at r hd q1
  obtain ⟨b, ws, g1, g2, _, g4⟩ := lst_at r he q2
  subst h1 g1
  cases rx
  cases ry
  obtain ⟨is, r1, ⟨o, n, e1, e2, e3, e4⟩, _⟩ := I.list (.inl (.inl h2))
  obtain ⟨js, r2, ⟨o', n', f1, f2, f3, f4⟩, _⟩ := I.list (.inl (.inl g2))
  refine ⟨a, b, _, _, rfl, rfl, ⟨o, e1, e2, n, e4⟩, ⟨o', f1, f2, n', f4⟩, ?_⟩
  have l1 := vals_len r1
  have l2 := vals_len r2
  have l3 := reps_len1 h4
  have l4 := reps_len1 g4
  simp only [bne_iff_ne, ne_eq, List.size_toArray]
  omega
theorem opr_eq {fr : Bool} (hu : X.A.units + 110 < cLine) : OpR X (compareOp .Eq) (rOO (rz X t) fr fun st a b => (cmpD st .eq a b).map .bl) := by
  intro pins s σ H x y v u Q I rx ry ⟨φ, st, d, e, r, hd, he, h⟩
  simp only [cmpD] at h
  cases q : eqD st d e with
  | none => rw [q] at h; exact h.elim
  | some b =>
    rw [q] at h
    rcases eq_cases q with ⟨p, q, q1, q2, c1, c2, c3, rfl⟩ | ⟨xs, ys, q1, q2, c1, rfl⟩
    · obtain ⟨as, a1, _⟩ := rd_py I r q1 hd rx
      obtain ⟨bs, b1, _⟩ := rd_py I r q2 he ry
      exact SeqAt.eq_plain a1 b1 c1 c2 (by omega) ⟨.bl _, H, I, rfl, h.bl r⟩
    · obtain ⟨a, b, is, js, rfl, rfl, i1, i2, i3⟩ := unlike I r q1 q2 c1 hd he rx ry
      exact SeqAt.eq_list_lengthsAt i1 i2 i3 (by omega) ⟨.bl _, H, I, rfl, h.bl r⟩
theorem opr_ne {fr : Bool} (hu : X.A.units + 110 < cLine) : OpR X (compareOp .NotEq) (rOO (rz X t) fr fun st a b => (cmpD st .ne a b).map .bl) := by
  intro pins s σ H x y v u Q I rx ry ⟨φ, st, d, e, r, hd, he, h⟩
  simp only [cmpD] at h
  cases q : eqD st d e with
  | none => rw [q] at h; exact h.elim
  | some b =>
    rw [q] at h
    rcases eq_cases q with ⟨p, q, q1, q2, c1, c2, c3, rfl⟩ | ⟨xs, ys, q1, q2, c1, rfl⟩
    · obtain ⟨as, a1, _⟩ := rd_py I r q1 hd rx
      obtain ⟨bs, b1, _⟩ := rd_py I r q2 he ry
      exact SeqAt.ne_plain a1 b1 c1 c2 (by omega) ⟨.bl _, H, I, rfl, h.bl r⟩
    · obtain ⟨a, b, is, js, rfl, rfl, i1, i2, i3⟩ := unlike I r q1 q2 c1 hd he rx ry
      exact SeqAt.RcNeAt.lists_lengths i1 i2 i3 (by omega) _ _ _ _ ⟨.bl _, H, I, rfl, h.bl r⟩
/-- what in tells -/
theorem in_cases {st : Store} {x c : D} {b : Bool} (h : inD st x c = some b) :
    (∃ y z, c = .str y ∧ x = .str z ∧ b = subStr z y) ∨ ∃ ps d, (py st c = some (.list ps) ∨ py st c = some (.tuple ps)) ∧ py st x = some d ∧ d.plain = true ∧ PyData.plainAll ps = true ∧ min (PyData.depthAll ps) d.depth ≤ 100 ∧ b = ps.any fun y => PyData.eqv y d := by
  unfold inD at h
  split at h
  · split at h
    · cases h; exact .inl ⟨_, _, rfl, rfl, rfl⟩
    · cases h
  · split at h
    · rename_i ps d h1 h2
      split at h
      · rename_i hc
        simp only [Bool.and_eq_true, decide_eq_true_eq] at hc
        cases h
        exact .inr ⟨ps, d, .inl h1, h2, hc.1.1, hc.1.2, hc.2, rfl⟩
      · cases h
    · rename_i ps d h1 h2
      split at h
      · rename_i hc
        simp only [Bool.and_eq_true, decide_eq_true_eq] at hc
        cases h
        exact .inr ⟨ps, d, .inr h1, h2, hc.1.1, hc.1.2, hc.2, rfl⟩
      · cases h
    · cases h
theorem opr_in {fr : Bool} (hu : X.A.units + 110 < cLine) : OpR X (compareOp .In) (rOO (rz X t) fr fun st a b => (cmpD st .isin a b).map .bl) := by
  intro pins s σ H x y v u Q I rx ry ⟨φ, st, d, e, r, hd, he, h⟩
  simp only [cmpD] at h
  cases q : inD st d e with
  | none => rw [q] at h; exact h.elim
  | some b =>
    rw [q] at h
    rcases in_cases q with ⟨y', z', rfl, rfl, rfl⟩ | ⟨ps, d', hc, h2, h3, h4, h5, rfl⟩
    · obtain ⟨hd, _⟩ := hd
      obtain ⟨he, _⟩ := he
      subst hd he
      exact op_in_str pins s σ H _ _ v u Q I rx ry ⟨z', y', rfl, rfl, h.bl r⟩
    · obtain ⟨as, a1, _⟩ := rd_py I r h2 hd rx
      rcases hc with hc | hc
      · obtain ⟨bs, b1, _⟩ := rd_py I r hc he ry
        exact SeqAt.in_list_data b1 a1 h4 h3 (by omega) ⟨.bl _, H, I, rfl, h.bl r⟩
      · obtain ⟨bs, b1, _⟩ := rd_py I r hc he ry
        exact SeqAt.in_tuple_data b1 a1 h4 h3 (by omega) ⟨.bl _, H, I, rfl, h.bl r⟩
theorem opr_nin {fr : Bool} (hu : X.A.units + 110 < cLine) : OpR X (compareOp .NotIn) (rOO (rz X t) fr fun st a b => (cmpD st .nin a b).map .bl) := by
  intro pins s σ H x y v u Q I rx ry ⟨φ, st, d, e, r, hd, he, h⟩
  simp only [cmpD] at h
  cases q : inD st d e with
  | none => rw [q] at h; exact h.elim
  | some b =>
    rw [q] at h
    rcases in_cases q with ⟨y', z', rfl, rfl, rfl⟩ | ⟨ps, d', hc, h2, h3, h4, h5, rfl⟩
    · obtain ⟨hd, _⟩ := hd
      obtain ⟨he, _⟩ := he
      subst hd he
      exact op_notin_str pins s σ H _ _ v u Q I rx ry ⟨z', y', rfl, rfl, by simpa [subStr] using h.bl r⟩
    · obtain ⟨as, a1, _⟩ := rd_py I r h2 hd rx
      rcases hc with hc | hc
      · obtain ⟨bs, b1, _⟩ := rd_py I r hc he ry
        exact SeqAt.notIn_list_data b1 a1 h4 h3 (by omega) ⟨.bl _, H, I, rfl, h.bl r⟩
      · obtain ⟨bs, b1, _⟩ := rd_py I r hc he ry
        exact SeqAt.notIn_tuple_data b1 a1 h4 h3 (by omega) ⟨.bl _, H, I, rfl, h.bl r⟩
/-! ### order -/
theorem opr_lt {fr : Bool} : OpR X (compareOp .Lt) (rOO (rz X t) fr fun st a b => (cmpD st .lt a b).map .bl) := by
  intro pins s σ H x y v u Q I rx ry ⟨φ, st, d, e, r, hd, he, h⟩
  simp only [cmpD] at h
  unfold ltD at h
  split at h
  · cases hd; cases he
    exact op_lt pins s σ H _ _ v u Q I rx ry ⟨_, _, rfl, rfl, h.bl r⟩
  · cases hd.1; cases he.1
    exact op_lt_str pins s σ H _ _ v u Q I rx ry ⟨_, _, rfl, rfl, h.bl r⟩
  · exact h.elim
theorem opr_gt {fr : Bool} : OpR X (compareOp .Gt) (rOO (rz X t) fr fun st a b => (cmpD st .gt a b).map .bl) := by
  intro pins s σ H x y v u Q I rx ry ⟨φ, st, d, e, r, hd, he, h⟩
  simp only [cmpD] at h
  unfold ltD at h
  split at h
  · cases hd; cases he
    exact op_gt pins s σ H _ _ v u Q I rx ry ⟨_, _, rfl, rfl, h.bl r⟩
  · cases hd.1; cases he.1
    exact op_gt_str pins s σ H _ _ v u Q I rx ry ⟨_, _, rfl, rfl, h.bl r⟩
  · exact h.elim
theorem opr_le {fr : Bool} : OpR X (compareOp .LtE) (rOO (rz X t) fr fun st a b => (cmpD st .le a b).map .bl) := by
  intro pins s σ H x y v u Q I rx ry ⟨φ, st, d, e, r, hd, he, h⟩
  simp only [cmpD] at h
  unfold leD at h
  split at h
  · cases hd; cases he
    exact op_le pins s σ H _ _ v u Q I rx ry ⟨_, _, rfl, rfl, h.bl r⟩
  · cases hd.1; cases he.1
    exact op_le_str pins s σ H _ _ v u Q I rx ry ⟨_, _, rfl, rfl, h.bl r⟩
  · exact h.elim
theorem opr_ge {fr : Bool} : OpR X (compareOp .GtE) (rOO (rz X t) fr fun st a b => (cmpD st .ge a b).map .bl) := by
  intro pins s σ H x y v u Q I rx ry ⟨φ, st, d, e, r, hd, he, h⟩
  simp only [cmpD] at h
  unfold leD at h
  split at h
  · cases hd; cases he
    exact op_ge pins s σ H _ _ v u Q I rx ry ⟨_, _, rfl, rfl, h.bl r⟩
  · cases hd.1; cases he.1
    exact op_ge_str pins s σ H _ _ v u Q I rx ry ⟨_, _, rfl, rfl, h.bl r⟩
  · exact h.elim
/-- the operator of a comparison -/
def COp.py : COp → CmpOp
  | .eq => .Eq | .ne => .NotEq | .lt => .Lt | .le => .LtE | .gt => .Gt | .ge => .GtE | .isin => .In | .nin => .NotIn
theorem opr_cmp {fr : Bool} (hu : X.A.units + 110 < cLine) : ∀ o : COp, OpR X (compareOp o.py) (rOO (rz X t) fr fun st a b => (cmpD st o a b).map .bl)
  | .eq => opr_eq hu | .ne => opr_ne hu | .lt => opr_lt | .le => opr_le | .gt => opr_gt | .ge => opr_ge | .isin => opr_in hu | .nin => opr_nin hu
end
end Cip

set_option maxHeartbeats 4000000
/-! Cip5: arithmetic, by values. -/
namespace Cip
open PySem PySem.Spec PyProof.Rows L2

section
variable (l : Addr) (items : Array Value) (n : Nat) (dd : Option Addr) (sl : Array (Option Value)) (x : Int) (u : Tok)
theorem tupMul1 (c0 : (decide (x < -(2 ^ 63)) || decide (x ≥ 2 ^ 63)) = false) (c1 : (items.isEmpty || x == 1) = true) :
    Meets (Builtin.«tuple.__mul__» ⟨[.ref l, .int x u], []⟩) (fun _ R s => s.heap.get? l = some { cls := .type "tuple", dict := dd, data := .seq items n, slots := sl } ∧ R (.ok (.ret (Value.ref l))) s) :=
  .of_wp fun prog w A R s h => by
    obtain ⟨hp, g, d, tk, os⟩ := s
    obtain ⟨hl, h⟩ := h
    have f1 := AutoSeq1.idx_int
    wp_walk using wpAny_loadPart' hl
    repeat (first
      | (refine wpAny_ite_false (decide_eq_false (by rw [c0]; exact Bool.false_ne_true)) ?_; wp_walk using wpAny_loadPart' hl)
      | (refine wpAny_ite_true (decide_eq_true c1) ?_; wp_walk using wpAny_loadPart' hl))
    all_goals exact ⟨_, rfl, h⟩
theorem tupMul0 (c0 : (decide (x < -(2 ^ 63)) || decide (x ≥ 2 ^ 63)) = false) (c1 : (items.isEmpty || x == 1) = false) (c2 : (decide (x ≤ 0) || items.isEmpty) = true) :
    Meets (Builtin.«tuple.__mul__» ⟨[.ref l, .int x u], []⟩) (fun _ R s => s.heap.get? l = some { cls := .type "tuple", dict := dd, data := .seq items n, slots := sl } ∧
      R (.ok (.ret (Value.ref s.heap.objs.size))) { s with heap := s.heap.push { cls := Value.type "tuple", data := Data.seq #[] }, toks := s.toks }) :=
  .of_wp fun prog w A R s h => by
    obtain ⟨hp, g, d, tk, os⟩ := s
    obtain ⟨hl, h⟩ := h
    have f1 := AutoSeq1.idx_int
    wp_walk using wpAny_loadPart' hl
    repeat (first
      | (refine wpAny_ite_false (decide_eq_false (by rw [c0]; exact Bool.false_ne_true)) ?_; wp_walk using wpAny_loadPart' hl)
      | (refine wpAny_ite_false (decide_eq_false (by rw [c1]; exact Bool.false_ne_true)) ?_; wp_walk using wpAny_loadPart' hl)
      | (refine wpAny_ite_true (decide_eq_true c2) ?_; wp_walk using wpAny_loadPart' hl))
    all_goals exact ⟨_, rfl, h⟩
end
section
variable {X : Cx} {t : Nm}
theorem flat_one (xs : List V) : (List.replicate (1 : Int).toNat xs).flatten = xs := by
  rw [show (1 : Int).toNat = 1 from rfl]
  simp
theorem flat_nil (n : Nat) {α : Type} : (List.replicate n ([] : List α)).flatten = [] := by
  induction n with
  | zero => rfl
  | succ n ih => rw [List.replicate_succ, List.flatten_cons, ih]; rfl
theorem flat_len {α : Type} (xs : List α) : ∀ n : Nat, (List.replicate n xs).flatten.length = xs.length * n
  | 0 => by simp
  | n + 1 => by rw [List.replicate_succ, List.flatten_cons, List.length_append, flat_len xs n, Nat.mul_succ]; omega
theorem op_repA : OpR X (binaryOp .Mult) (fun x y H Q => ∃ l k xs, x = .ref l ∧ y = .int k ∧ SqT X.K H l xs ∧ -(2 ^ 31) ≤ k ∧ k < 2 ^ 31 ∧ xs.length * k.toNat ≤ sizeLine ∧
    ((List.replicate k.toNat xs).flatten = xs → Q (.ref l) H) ∧ ∀ p, H p = none → Q (.ref p) (upd H p (.tup (List.replicate k.toNat xs).flatten))) := by
  intro pins s σ H x y v u Q I rx ry h
  obtain ⟨l, k, xs, rfl, rfl, hT, h1, h2, hz, q1, q2⟩ := h
  cases rx
  obtain ⟨tk, rfl⟩ := ry
  obtain ⟨its, r, ⟨⟨cls, dd, data, sl⟩, ho, hc, n, hd⟩, hs⟩ := I.tuple hT
  simp only at hc hd
  subst hc hd
  have hle : its.length = xs.length := r.length.symm
  have c0 : (decide (k < -(2 ^ 63)) || decide (k ≥ 2 ^ 63)) = false := by
    rw [decide_eq_false (by omega), decide_eq_false (by omega)] <;> rfl
  have road : ∀ {Q' : Value → Shared → Prop} {post : Value → Shared → Prop},
      (∀ R : Result → Shared → Prop, (∀ vv ss, post vv ss → R (.ok (.ret vv)) ss) → True) → True := fun _ => trivial
  by_cases e1 : (its.toArray.isEmpty || k == 1) = true
  · have ef : (List.replicate k.toNat xs).flatten = xs := by
      rw [Bool.or_eq_true] at e1
      rcases e1 with e1 | e1
      · have : its = [] := by
          cases its with
          | nil => rfl
          | cons a b => cases e1
        have hx : xs = [] := List.eq_nil_of_length_eq_zero (by rw [← hle, this]; rfl)
        rw [hx]
        exact flat_nil _
      · rw [beq_iff_eq.mp e1]
        exact flat_one xs
    refine wpAny_binaryOp_repeat_ref (T := "tuple") (U := "int") (by decide) ⟨_, ho, rfl⟩ (fun s' => typeIs_int s' k tk) noFill_tuple_mul F.fills_int_mul F.slot_int_rmul repeat_tuple F.slot_int_index.lookup
      (call_meets F.slot_int_rmul (typeIs_int s k tk) F.entry_int_rmul (F.args_int_rmul_2 _ _) (int_rmul_tuple k tk l its.toArray n dd sl)
        ⟨ho, rfl, ⟨_, ho, rfl⟩, call_meets F.slot_tuple_mul ⟨_, ho, rfl⟩ F.entry_tuple_mul (F.args_tuple_mul_2 _ _) (tupMul1 l its.toArray n dd sl k tk c0 e1) ⟨ho, ?_⟩⟩)
    exact ⟨.ref l, H, I, rfl, q1 ef⟩
  · have e1' : (its.toArray.isEmpty || k == 1) = false := by simpa using e1
    by_cases e2 : k ≤ 0
    · have e3 : (decide (k ≤ 0) || its.toArray.isEmpty) = true := by rw [decide_eq_true e2] <;> rfl
      refine wpAny_binaryOp_repeat_ref (T := "tuple") (U := "int") (by decide) ⟨_, ho, rfl⟩ (fun s' => typeIs_int s' k tk) noFill_tuple_mul F.fills_int_mul F.slot_int_rmul repeat_tuple F.slot_int_index.lookup
        (call_meets F.slot_int_rmul (typeIs_int s k tk) F.entry_int_rmul (F.args_int_rmul_2 _ _) (int_rmul_tuple k tk l its.toArray n dd sl)
          ⟨ho, rfl, ⟨_, ho, rfl⟩, call_meets F.slot_tuple_mul ⟨_, ho, rfl⟩ F.entry_tuple_mul (F.args_tuple_mul_2 _ _) (tupMul0 l its.toArray n dd sl k tk c0 e1' e3) ⟨ho, ?_⟩⟩)
      have ek : k.toNat = 0 := by omega
      have q3 := q2 _ (I.hok.fresh (Nat.le_refl s.heap.objs.size))
      rw [ek] at q3
      exact ⟨.ref s.heap.objs.size, _, I.laid (t' := s.toks) (o := .tup []) (fun b ob q => Heap.get?_push_of_some _ q) (Nat.le_refl _) ⟨Nat.zero_le _, [], .nil, IsTup.new _ _⟩, rfl, q3⟩
    · have he : its.toArray.isEmpty = false := by
        rw [Bool.or_eq_false_iff] at e1'
        exact e1'.1
      have c2 : (decide (k ≤ 0) || its.toArray.isEmpty) = false := by rw [he, decide_eq_false e2] <;> rfl
      have hm : ((its.toArray.size : Nat) : Int) * k ≤ sizeLine := by
        rw [List.size_toArray, hle]
        have : (k.toNat : Int) = k := Int.toNat_of_nonneg (by omega)
        rw [← this]
        exact_mod_cast hz
      have hsl : (sizeLine : Int) ≤ (2 ^ 63 - 1) / 8 := by decide
      have c4 : Builtin.Tuple.tupleTooMany (((its.toArray.size : Nat) : Int) * k) = false := by
        unfold Builtin.Tuple.tupleTooMany
        exact decide_eq_false (by omega)
      have flen : (List.replicate k.toNat its).flatten.length ≤ sizeLine := by rw [flat_len, hle]; exact hz
      refine wpAny_binaryOp_repeat_ref (T := "tuple") (U := "int") (by decide) ⟨_, ho, rfl⟩ (fun s' => typeIs_int s' k tk) noFill_tuple_mul F.fills_int_mul F.slot_int_rmul repeat_tuple F.slot_int_index.lookup
        (call_meets F.slot_int_rmul (typeIs_int s k tk) F.entry_int_rmul (F.args_int_rmul_2 _ _) (int_rmul_tuple k tk l its.toArray n dd sl)
          ⟨ho, rfl, ⟨_, ho, rfl⟩, call_meets F.slot_tuple_mul ⟨_, ho, rfl⟩ F.entry_tuple_mul (F.args_tuple_mul_2 _ _) (tuple_mulW l its.toArray n dd sl k tk c0 e1' c2 (by omega) c4 (by rw [size_rep, List.size_toArray]; exact flen)) ⟨ho, ?_⟩⟩)
      rw [size_rep]
      exact ⟨.ref s.heap.objs.size, _, I.laid (t' := s.toks) (o := .tup (List.replicate k.toNat xs).flatten) (fun b ob q => Heap.get?_push_of_some _ q) (Nat.le_refl _) ⟨by rw [flat_len]; exact hz, _, r.rep k.toNat, IsTup.new _ _⟩, rfl, q2 _ (I.hok.fresh (Nat.le_refl _))⟩
theorem foldl_cps (x : Str) : ∀ (n : Nat) (a : Array Nat), (List.replicate n x.cps).foldl (· ++ ·) a = a ++ (List.replicate n x.cps.toList).flatten.toArray
  | 0, a => by simp
  | n + 1, a => by
    rw [List.replicate_succ, List.foldl_cons, foldl_cps x n, List.replicate_succ, List.flatten_cons]
    apply Array.toList_inj.mp
    simp
/-- a text times an int -/
theorem op_repS : OpR X (binaryOp .Mult) (fun x y H Q => ∃ z k, x = .str z ∧ y = .int k ∧ -(2 ^ 31) ≤ k ∧ k < 2 ^ 31 ∧ z.length * k.toNat ≤ sizeLine ∧ Q (.str (strMul z k)) H) := by
  intro pins s σ H x y v u Q I rx ry h
  obtain ⟨z, k, rfl, rfl, h1, h2, hz, q⟩ := h
  obtain ⟨t1, rfl⟩ := rx
  obtain ⟨t2, rfl⟩ := ry
  have c0 : (decide (k < -(2 ^ 63)) || decide (k ≥ 2 ^ 63)) = false := by
    rw [decide_eq_false (by omega), decide_eq_false (by omega)] <;> rfl
  refine PySem.P.mul_str c0 (fun g1 g2 => ?_) (fun g1 g2 => ?_) ?_
  · have hk : 0 < k := by omega
    have h3 : (k.toNat : Int) = k := Int.toNat_of_nonneg (by omega)
    have h4 : (z.length : Int) * k ≤ sizeLine := by rw [← h3]; exact_mod_cast hz
    have h5 : (sizeLine : Int) ≤ 2 ^ 63 - 1 := by decide
    rw [gt_iff_lt, Int.not_lt]
    exact (Int.le_ediv_iff_mul_le hk).mpr (by omega)
  · unfold Builtin.Str.tooLong
    exact decide_eq_false (by omega)
  · by_cases g1 : k < 1
    · rw [if_pos g1]
      have e : strMul z k = Str.empty := by
        unfold strMul
        rw [show k.toNat = 0 by omega]
        rfl
      exact ⟨by decide, .str Str.empty, H, I.tok _, ⟨_, rfl⟩, by rw [← e]; exact q⟩
    · rw [if_neg g1]
      by_cases g2 : (k == 1 || z.length == 0) = true
      · rw [if_pos g2]
        have e : strMul z k = z := by
          unfold strMul
          rw [Bool.or_eq_true] at g2
          rcases g2 with g2 | g2
          · rw [beq_iff_eq.mp g2, show (1 : Int).toNat = 1 from rfl]
            simp
          · have : z.cps.toList = [] := List.eq_nil_of_length_eq_zero (by simpa [Str.length] using g2)
            rw [this, flat_nil]
            cases z
            simp at this
            simp [this]
        exact ⟨.str z, H, I, ⟨_, rfl⟩, by rw [← e]; exact q⟩
      · rw [if_neg g2]
        have e : (⟨(List.replicate k.toNat z.cps).foldl (· ++ ·) #[]⟩ : Str) = strMul z k := by
          unfold strMul
          rw [foldl_cps]
          simp
        rw [e]
        refine ⟨?_, .str (strMul z k), H, I.tok _, ⟨_, rfl⟩, q⟩
        unfold strMul Str.length
        rw [List.size_toArray, flat_len]
        exact hz
/-- the operator of an arithmetic -/
def BOp.py : BOp → Operator
  | .add => .Add | .sub => .Sub | .mul => .Mult | .mod => .Mod | .fdiv => .FloorDiv | .pow => .Pow
theorem lst_of_add {st : Store} {a b d : D} (h : addD st a b = some d) : (∃ i j, a = .int i ∧ b = .int j ∧ d = .int (i + j)) ∨ (∃ x y, a = .str x ∧ b = .str y ∧ x.length + y.length ≤ sizeLine ∧ d = .str (x ++ y)) ∨
    (∃ xs ys, a = .tup xs ∧ b = .tup ys ∧ xs.length + ys.length ≤ sizeLine ∧ d = .tup (xs ++ ys)) ∨ ∃ xs ys, lstD st a = some xs ∧ lstD st b = some ys ∧ xs.length + ys.length ≤ sizeLine ∧ d = .lst (xs ++ ys) := by
  unfold addD at h
  split at h
  · cases h; exact .inl ⟨_, _, rfl, rfl, rfl⟩
  · split at h
    · rename_i hc; cases h; exact .inr (.inl ⟨_, _, rfl, rfl, hc, rfl⟩)
    · cases h
  · split at h
    · rename_i hc; cases h; exact .inr (.inr (.inl ⟨_, _, rfl, rfl, hc, rfl⟩))
    · cases h
  · split at h
    · rename_i xs ys h1 h2
      split at h
      · rename_i hc; cases h; exact .inr (.inr (.inr ⟨_, _, h1, h2, hc, rfl⟩))
      · cases h
    · cases h
theorem Str.len_append (x y : Str) : (x ++ y).length = x.length + y.length := by
  show (Str.append x y).length = _
  unfold Str.append Str.length
  simp
theorem opr_add {fr : Bool} : OpR X (binaryOp .Add) (rOO (rz X t) fr addD) := by
  intro pins s σ H x y v u Q I rx ry ⟨φ, st, a, b, r, ha, hb, h⟩
  cases q : addD st a b with
  | none => rw [q] at h; exact h.elim
  | some d =>
    rw [q] at h
    rcases lst_of_add q with ⟨i, j, rfl, rfl, rfl⟩ | ⟨i, j, rfl, rfl, hc, rfl⟩ | ⟨xs, ys, rfl, rfl, hc, rfl⟩ | ⟨xs, ys, h1, h2, hc, rfl⟩
    · cases ha; cases hb
      exact op_add pins s σ H _ _ v u Q I rx ry ⟨i, j, rfl, rfl, h.flat r rfl⟩
    · cases ha.1; cases hb.1
      exact op_add_str pins s σ H _ _ v u Q I rx ry ⟨i, j, rfl, rfl, hc, h.flat r ⟨rfl, by rw [Str.len_append]; exact hc⟩⟩
    · obtain ⟨l, vs, rfl, t1, z1, r1⟩ := ha
      obtain ⟨m, ws, rfl, t2, z2, r2⟩ := hb
      refine op_catA pins s σ H _ _ v u Q I rx ry ⟨l, m, vs, ws, rfl, rfl, t1, t2, by rw [r1.length, r2.length]; exact hc, fun e => ?_, fun _ e => ?_, fun _ _ p hp => ?_⟩
      · refine h.flat r ⟨m, ws, rfl, t2, by rw [List.length_append]; exact hc, ?_⟩
        have := r1.append r2
        rw [e, List.nil_append] at this
        exact this
      · refine h.flat r ⟨l, vs, rfl, t1, by rw [List.length_append]; exact hc, ?_⟩
        have := r1.append r2
        rw [e, List.append_nil] at this
        exact this
      · exact h.tup r hp (r1.append r2) (by rw [List.length_append]; exact hc)
    · obtain ⟨l, vs, rfl, t1, z1, r1⟩ := lst_at r ha h1
      obtain ⟨m, ws, rfl, t2, z2, r2⟩ := lst_at r hb h2
      exact op_cat pins s σ H _ _ v u Q I rx ry ⟨l, m, vs, ws, rfl, rfl, t1, t2, by rw [r1.length, r2.length]; exact hc, fun p hp => h.lst r hp (r1.append r2) (by rw [List.length_append]; exact hc)⟩
theorem opr_mul {fr : Bool} : OpR X (binaryOp .Mult) (rOO (rz X t) fr mulD) := by
  intro pins s σ H x y v u Q I rx ry ⟨φ, st, a, b, r, ha, hb, h⟩
  unfold mulD at h
  split at h
  · split at h
    · rename_i hc
      cases ha; cases hb
      exact op_mul pins s σ H _ _ v u Q I rx ry ⟨_, _, rfl, rfl, hc, h.flat r rfl⟩
    · exact h.elim
  · split at h
    · rename_i hc
      cases ha.1; cases hb
      refine op_repS pins s σ H _ _ v u Q I rx ry ⟨_, _, rfl, rfl, hc.1, hc.2.1, hc.2.2, h.flat r ⟨rfl, ?_⟩⟩
      unfold strMul Str.length
      rw [List.size_toArray, flat_len]
      exact hc.2.2
    · exact h.elim
  · split at h
    · rename_i hc
      obtain ⟨l, vs, rfl, t1, z1, r1⟩ := ha
      cases hb
      refine op_repA pins s σ H _ _ v u Q I rx ry ⟨l, _, vs, rfl, rfl, t1, hc.1, hc.2.1, by rw [r1.length]; exact hc.2.2, fun e => ?_, fun p hp => ?_⟩
      · refine h.flat r ⟨l, vs, rfl, t1, by rw [flat_len]; exact hc.2.2, ?_⟩
        have := r1.rep (Int.toNat ‹Int›)
        rw [e] at this
        exact this
      · exact h.tup r hp (r1.rep _) (by rw [flat_len]; exact hc.2.2)
    · exact h.elim
  · split at h
    · rename_i xs h1
      split at h
      · rename_i hc
        obtain ⟨l, vs, rfl, t1, z1, r1⟩ := lst_at r ha h1
        cases hb
        exact op_rep pins s σ H _ _ v u Q I rx ry ⟨l, _, vs, rfl, rfl, t1, by omega, by omega, by rw [r1.length]; exact hc.2.2, fun p hp => h.lst r hp (r1.rep _) (by rw [flat_len]; exact hc.2.2)⟩
      · exact h.elim
    · exact h.elim
  · exact h.elim
theorem opr_bin {fr : Bool} : ∀ o : BOp, OpR X (binaryOp o.py) (rOO (rz X t) fr fun st a b => binD st o a b)
  | .add => opr_add
  | .mul => opr_mul
  | .sub => by
    intro pins s σ H x y v u Q I rx ry ⟨φ, st, a, b, r, ha, hb, h⟩
    cases a with
    | int i => cases b with
      | int j => cases ha; cases hb; exact op_sub pins s σ H _ _ v u Q I rx ry ⟨_, _, rfl, rfl, h.flat r rfl⟩
      | _ => exact h.elim
    | _ => cases b <;> exact h.elim
  | .mod => by
    intro pins s σ H x y v u Q I rx ry ⟨φ, st, a, b, r, ha, hb, h⟩
    cases a with
    | int i => cases b with
      | int j =>
        simp only [binD] at h
        split at h
        · exact h.elim
        · rename_i hc
          cases ha; cases hb; exact op_modN pins s σ H _ _ v u Q I rx ry ⟨_, _, rfl, rfl, hc, h.flat r rfl⟩
      | _ => exact h.elim
    | _ => cases b <;> exact h.elim
  | .fdiv => by
    intro pins s σ H x y v u Q I rx ry ⟨φ, st, a, b, r, ha, hb, h⟩
    cases a with
    | int i => cases b with
      | int j =>
        simp only [binD] at h
        split at h
        · rename_i hc
          cases ha; cases hb; exact op_fdivN pins s σ H _ _ v u Q I rx ry ⟨_, _, rfl, rfl, hc, h.flat r rfl⟩
        · exact h.elim
      | _ => exact h.elim
    | _ => cases b <;> exact h.elim
  | .pow => by
    intro pins s σ H x y v u Q I rx ry ⟨φ, st, a, b, r, ha, hb, h⟩
    cases a with
    | int i => cases b with
      | int j =>
        simp only [binD] at h
        split at h
        · rename_i hc
          cases ha; cases hb; exact op_pow pins s σ H _ _ v u Q I rx ry ⟨_, _, rfl, rfl, ⟨hc.1, by omega, hc.2.2⟩, h.flat r rfl⟩
        · exact h.elim
      | _ => exact h.elim
    | _ => cases b <;> exact h.elim
end
end Cip

set_option maxHeartbeats 4000000
/-! Cip6: places, slices, built-in calls, methods, by values. -/
namespace Cip
open PySem PySem.Spec PyProof.Rows L2

section
variable {T : Rz} {φ : Fi} {H : Hp} {st : Store}
theorem atI_reps {ds : List D} {vs : List V} {i : Int} {d : D} (h : Reps T.K φ H ds vs) (e : L2.atI ds i = some d) : ∃ v, L2.atI vs i = some v ∧ Rep T.K φ H d v := by
  unfold L2.atI at e ⊢
  rw [h.length]
  cases q : L2.ixN ds.length i with
  | none => rw [q] at e; cases e
  | some j =>
    rw [q] at e
    obtain ⟨v, h1, h2⟩ := h.get (show ds[j]? = some d from e)
    exact ⟨v, h1, h2⟩
theorem cut_reps {ds : List D} {vs : List V} (h : Reps T.K φ H ds vs) (lo hi : Option Int) : Reps T.K φ H (cutL ds lo hi) (cutV vs lo hi) := by
  unfold cutL cutV
  rw [h.length]
  exact (h.drop _).take _
theorem cut_len {ds : List D} (lo hi : Option Int) : (cutL ds lo hi).length ≤ ds.length := by
  unfold cutL
  rw [List.length_take, List.length_drop]
  omega
theorem cut_whole {α : Type} {xs : List α} {lo hi : Option Int} (h : HT.sIx xs.length 0 lo = 0 ∧ HT.sIx xs.length xs.length hi = xs.length) : cutL xs lo hi = xs := by
  unfold cutL
  rw [h.1, h.2, List.drop_zero, Nat.sub_zero, List.take_length]
end
section
variable {X : Cx} {t : Nm}
theorem ixr_idx : IxR X (rOO (rz X t) false idxD) := by
  intro value slice pins s σ H x y v u Q I rx ry ⟨φ, st, a, b, r, ha, hb, h⟩ hs
  unfold idxD at h
  split at h
  · rename_i z i
    cases q : ixD z.cps.toList i with
    | none => rw [q] at h; exact h.elim
    | some c =>
      rw [q] at h
      have hz := ha.2
      cases ha.1; cases hb
      exact ix_str value slice pins s σ H _ _ v u Q I rx ry ⟨z, i, c, rfl, rfl, hz, q, h.flat r ⟨rfl, by show 1 ≤ sizeLine; decide⟩⟩ hs
  · rename_i i _
    cases hb
    split at h
    · rename_i xs h1
      cases q : ixD xs i with
      | none => rw [q] at h; exact h.elim
      | some d =>
        rw [q] at h
        obtain ⟨p, vs, rfl, h2, h3, h4⟩ := seq_at r ha h1
        obtain ⟨w, h5, h6⟩ := atI_reps h4 q
        rcases h2 with h2 | h2
        · exact ix_list value slice pins s σ H _ _ v u Q I rx ry ⟨p, vs, i, w, rfl, rfl, h2, h5, h.same r h6⟩ hs
        · exact ix_tup value slice pins s σ H _ _ v u Q I rx ry ⟨p, vs, i, w, rfl, rfl, h2, h5, h.same r h6⟩ hs
    · exact h.elim
  · exact h.elim
theorem slr_slc {fr : Bool} : SlR X (fun x lo hi H Q => ∃ φ st d, Rel (rz X t) φ H st ∧ Rep X.K φ H d x ∧ OutO (rz X t) fr φ H st (slcD st d lo hi) Q) := by
  intro pins s σ H x v vl vu lo hi sl Q I rx hs pl pu ⟨φ, st, d, r, hd, h⟩
  unfold slcD at h
  split at h
  · have hz := hd.2
    cases hd.1
    refine sl_str pins s σ H _ v vl vu lo hi sl Q I rx hs pl pu ⟨_, rfl, hz, h.flat r ⟨rfl, ?_⟩⟩
    unfold cutS Str.length
    rw [List.size_toArray, List.length_take, List.length_drop, Array.length_toList]
    exact Nat.le_trans (Nat.min_le_right _ _) (Nat.le_trans (Nat.sub_le _ _) hz)
  · obtain ⟨a, vs, rfl, h1, h2, h3⟩ := hd
    refine sl_tupA pins s σ H _ v vl vu lo hi sl Q I rx hs pl pu ⟨a, vs, rfl, h1, fun e => ?_, fun _ p hp => h.tup r hp (cut_reps h3 lo hi) (Nat.le_trans (cut_len lo hi) h2)⟩
    rw [h3.length] at e
    rw [cut_whole e] at h
    exact h.flat r ⟨a, vs, rfl, h1, h2, h3⟩
  · split at h
    · rename_i xs h1
      obtain ⟨p, vs, rfl, h2, h3, h4⟩ := lsq_at r hd h1
      exact sl_list pins s σ H _ v vl vu lo hi sl Q I rx hs pl pu ⟨p, vs, rfl, h2, fun q hq => h.lst r hq (cut_reps h4 lo hi) (Nat.le_trans (cut_len lo hi) h3)⟩
    · exact h.elim
/-! ### built-in calls -/
/-- a built-in call of one value -/
def C1 (X : Cx) (t : Nm) (f : Value) (g : Store → D → Option D) : Prop :=
  ∀ (fr : Bool) (pins : List (Addr × Obj)) (s : Shared) (σ : L2.St) (H : Hp) (v : V) (u : Value) (Q : VK) (φ : Fi) (st : Store) (d : D), Inv X pins σ H s → Vals [v] [u] → Rel (rz X t) φ H st → Rep X.K φ H d v → OutO (rz X t) fr φ H st (g st d) Q →
    wpAny (model X.prog X.w) X.A (call f [u]) (EP X pins σ Q) X.xe s
theorem c1_len : C1 X t (.builtin "len") fun st d => bi1 st .len d := by
  intro fr pins s σ H v u Q φ st d I ru r hd h
  simp only [bi1] at h
  cases q : lenD st d with
  | none => rw [q] at h; exact h.elim
  | some n =>
    rw [q] at h
    have hq : Q (.int n) H := h.flat r rfl
    unfold lenD at q
    split at q
    · cases q
      have hz := hd.2
      cases hd.1
      exact call_len_str pins s σ H _ _ Q I ru ⟨_, rfl, hz, hq⟩
    · cases q
      obtain ⟨a, kvs, rfl, h1, h2, h3, _⟩ := hd
      rw [← h3, List.length_map] at hq
      cases ru with
      | cons r1 r2 => cases r1; exact d_len I (.inl h1) fun t s' I' => ⟨.int kvs.length, H, I', ⟨t, rfl⟩, hq⟩
    · split at q
      · rename_i ys h1
        cases q
        obtain ⟨p, vs, rfl, h2, h3, h4⟩ := seq_at r hd h1
        rw [← h4.length] at hq
        exact call_len_seq pins s σ H _ _ Q I ru ⟨p, vs, rfl, h2, hq⟩
      · split at q
        · split at q
          · cases q
            rename_i k _ lk ks ws hk
            obtain ⟨a, e1, e2⟩ := hd
            cases e2
            obtain ⟨b, e3, kvs, e4, e5, _⟩ := r.at_ _ _ hk
            rw [e1] at e3; cases e3
            rw [← e5, List.length_map] at hq
            have e6 : Rd H a (.dK kvs) := by
              cases lk with
              | true => exact .inr e4
              | false => exact .inl e4
            cases ru with
            | cons r1 r2 => cases r1; exact d_len I e6 fun t s' I' => ⟨.int kvs.length, H, I', ⟨t, rfl⟩, hq⟩
          · cases q
        · cases q
theorem c1_abs : C1 X t (.builtin "abs") fun st d => bi1 st .abs d := by
  intro fr pins s σ H v u Q φ st d I ru r hd h
  cases d with
  | int i => cases hd; exact call_abs pins s σ H _ _ Q I ru ⟨i, rfl, h.flat r rfl⟩
  | _ => exact h.elim
theorem c1_int : C1 X t (.type "int") fun st d => bi1 st .int d := by
  intro fr pins s σ H v u Q φ st d I ru r hd h
  cases d with
  | int i => cases hd; exact call_int1 pins s σ H _ _ Q I ru (.inl ⟨i, rfl, h.flat r rfl⟩)
  | bl b => cases hd; exact call_int1 pins s σ H _ _ Q I ru (.inr ⟨b, rfl, h.flat r rfl⟩)
  | str x =>
    cases hd.1
    have h : OutO (rz X t) fr φ H st (if x.length ≤ 640 then (PySem.intText? x).map D.int else none) Q := h
    split at h
    · rename_i hl
      cases hn : PySem.intText? x with
      | none => rw [hn] at h; exact h.elim
      | some n =>
        rw [hn] at h
        exact call_int_str pins s σ H _ _ Q I ru ⟨x, n, rfl, hn, hl, OutO.flat (d := .int n) h r rfl⟩
    · exact h.elim
  | _ => exact h.elim
theorem showI_fits {i : Int} {x : Str} (h : showI i = some x) : i.natAbs.log2 < 1920 ∧ x = toString i ∧ x.length ≤ sizeLine := by
  unfold showI at h
  split at h
  · rename_i hc
    cases h
    exact ⟨hc, rfl, int_text_fits hc⟩
  · cases h
theorem c1_str : C1 X t (.type "str") fun st d => bi1 st .str d := by
  intro fr pins s σ H v u Q φ st d I ru r hd h
  cases d with
  | int i =>
    simp only [bi1, strD] at h
    cases q : showI i with
    | none => rw [q] at h; exact h.elim
    | some x =>
      rw [q] at h
      obtain ⟨h1, h2, h3⟩ := showI_fits q
      cases hd
      subst h2
      exact call_str_int pins s σ H _ _ Q I ru ⟨i, rfl, h1, h.flat r ⟨rfl, h3⟩⟩
  | bl b =>
    cases hd
    have h2 : ((if b then "True" else "False" : Str)).length ≤ sizeLine := by cases b <;> decide
    cases ru with
    | cons r1 r2 =>
      cases r2
      cases r1
      exact PySem.P.str_of_bool ⟨.str _, H, I.tok _, ⟨_, rfl⟩, h.flat r ⟨rfl, h2⟩⟩
  | str x =>
    have hz := hd.2
    cases hd.1
    exact SkE.call_str_str pins s σ H _ _ Q I ru ⟨x, rfl, h.flat r ⟨rfl, hz⟩⟩
  | _ => exact h.elim
theorem c1_repr (hg : X.A.guards = some []) (hu : X.A.units + 110 < cLine) : C1 X t (.builtin "repr") fun st d => bi1 st .repr d := by
  intro fr pins s σ H v u Q φ st d I ru r hd h
  simp only [bi1, reprD] at h
  cases q : py st d with
  | none => rw [q] at h; exact h.elim
  | some p =>
    rw [q] at h
    simp only at h
    split at h
    · rename_i hc
      simp only [Bool.and_eq_true, decide_eq_true_eq, Bool.not_eq_true', Bool.and_eq_false_iff] at hc
      obtain ⟨⟨⟨h1, h2⟩, h3⟩, h4⟩ := hc
      have hq : Q (.str p.shown) H := h.flat r ⟨rfl, h3⟩
      cases ru with
      | cons ru' _ =>
        obtain ⟨as, a1, a2⟩ := rd_py I r q hd ru'
        cases a1 with
        | none => exact PySem.P.repr_of_none ⟨.str _, H, I.tok _, ⟨_, rfl⟩, hq⟩
        | bool b => exact PySem.P.repr_of_bool ⟨.str _, H, I.tok _, ⟨_, rfl⟩, hq⟩
        | int i tk => exact PySem.P.repr_of_int (by simpa [PyData.showable] using h2) ⟨.str _, H, I.tok _, ⟨_, rfl⟩, hq⟩
        | str x tk => exact PySem.P.repr_of_str ⟨.str _, H, I.tok _, ⟨_, rfl⟩, hq⟩ h3
        | list e1 e2 e3 e4 => exact repr_of_reads' (.list e1 e2 e3 e4) h2 (fun z => by rcases h1 with h1 | h1; · rw [h1] at z; cases z
                                                                                       · exact a2 h1) hg (by omega) (fun _ _ e => e) (fun h' u tk hk => ⟨.str _, H, I.kept hk, ⟨_, rfl⟩, hq⟩) h3
        | tuple e1 e2 e3 e4 => exact repr_of_reads' (.tuple e1 e2 e3 e4) h2 (fun z => by rcases h1 with h1 | h1; · rw [h1] at z; cases z
                                                                                         · exact a2 h1) hg (by omega) (fun _ _ e => e) (fun h' u tk hk => ⟨.str _, H, I.kept hk, ⟨_, rfl⟩, hq⟩) h3
        | dict e1 e2 e3 e4 e5 => exact repr_of_reads' (.dict e1 e2 e3 e4 e5) h2 (fun z => by rcases h1 with h1 | h1; · rw [h1] at z; cases z
                                                                                             · exact a2 h1) hg (by omega) (fun _ _ e => e) (fun h' u tk hk => ⟨.str _, H, I.kept hk, ⟨_, rfl⟩, hq⟩) h3
    · exact h.elim
theorem sumL_ints {T : Rz} {φ : Fi} {H : Hp} : ∀ {xs : List D} {vs : List V} {n : Int}, Reps T.K φ H xs vs → sumL xs = some n → ∃ ns : List Int, vs = ns.map V.int ∧ ns.sum = n
  | [], _, n, h, e => by cases h; cases e; exact ⟨[], rfl, rfl⟩
  | x :: xs, _, n, ⟨v, r, h1, h2, h3⟩, e => by
    subst h1
    cases x with
    | int i =>
      simp only [sumL] at e
      cases q : sumL xs with
      | none => rw [q] at e; cases e
      | some m =>
        rw [q] at e
        cases e
        obtain ⟨ns, e1, e2⟩ := sumL_ints h3 q
        cases h2
        exact ⟨i :: ns, by rw [e1]; rfl, by rw [List.sum_cons, e2]⟩
    | _ => cases e
theorem bools_bls {T : Rz} {φ : Fi} {H : Hp} : ∀ {xs : List D} {vs : List V} {bs : List Bool}, Reps T.K φ H xs vs → bools xs = some bs → vs = bs.map V.bl
  | [], _, n, h, e => by cases h; cases e; rfl
  | x :: xs, _, n, ⟨v, r, h1, h2, h3⟩, e => by
    subst h1
    cases x with
    | bl i =>
      simp only [bools] at e
      cases q : bools xs with
      | none => rw [q] at e; cases e
      | some m =>
        rw [q] at e
        cases e
        cases h2
        rw [bools_bls h3 q]
        rfl
    | _ => cases e
theorem strs_strs {T : Rz} {φ : Fi} {H : Hp} : ∀ {xs : List D} {vs : List V} {bs : List Str}, Reps T.K φ H xs vs → strsD xs = some bs → vs = bs.map V.str
  | [], _, n, h, e => by cases h; cases e; rfl
  | x :: xs, _, n, ⟨v, r, h1, h2, h3⟩, e => by
    subst h1
    cases x with
    | str i =>
      simp only [strsD] at e
      cases q : strsD xs with
      | none => rw [q] at e; cases e
      | some m =>
        rw [q] at e
        cases e
        cases h2.1
        rw [strs_strs h3 q]
        rfl
    | _ => cases e
theorem c1_sum (hc : X.calm = true) : C1 X t (.builtin "sum") fun st d => bi1 st .sum d := by
  intro fr pins s σ H v u Q φ st d I ru r hd h
  simp only [bi1] at h
  cases q : lstD st d with
  | none => rw [q] at h; exact h.elim
  | some xs =>
    rw [q] at h
    simp only [Option.bind_some] at h
    cases q2 : sumL xs with
    | none => rw [q2] at h; exact h.elim
    | some n =>
      rw [q2] at h
      obtain ⟨p, vs, rfl, h2, h3, h4⟩ := lst_at r hd q
      obtain ⟨ns, rfl, rfl⟩ := sumL_ints h4 q2
      exact cr_sum hc pins s σ H _ _ Q I ru ⟨p, ns, rfl, .inl (.inl h2), h.flat r rfl⟩
theorem c1_all (hc : X.calm = true) : C1 X t (.builtin "all") fun st d => bi1 st .all d := by
  intro fr pins s σ H v u Q φ st d I ru r hd h
  simp only [bi1] at h
  cases q : lstD st d with
  | none => rw [q] at h; exact h.elim
  | some xs =>
    rw [q] at h
    simp only [Option.bind_some] at h
    cases q2 : bools xs with
    | none => rw [q2] at h; exact h.elim
    | some n =>
      rw [q2] at h
      obtain ⟨p, vs, rfl, h2, h3, h4⟩ := lst_at r hd q
      obtain rfl := bools_bls h4 q2
      exact cr_all hc pins s σ H _ _ Q I ru ⟨p, n, rfl, .inl (.inl h2), h.flat r rfl⟩
theorem c1_any (hc : X.calm = true) : C1 X t (.builtin "any") fun st d => bi1 st .any d := by
  intro fr pins s σ H v u Q φ st d I ru r hd h
  simp only [bi1] at h
  cases q : lstD st d with
  | none => rw [q] at h; exact h.elim
  | some xs =>
    rw [q] at h
    simp only [Option.bind_some] at h
    cases q2 : bools xs with
    | none => rw [q2] at h; exact h.elim
    | some n =>
      rw [q2] at h
      obtain ⟨p, vs, rfl, h2, h3, h4⟩ := lst_at r hd q
      obtain rfl := bools_bls h4 q2
      exact cr_any hc pins s σ H _ _ Q I ru ⟨p, n, rfl, .inl (.inl h2), h.flat r rfl⟩
theorem c1_tuple : C1 X t (.type "tuple") fun st d => bi1 st .tuple d := by
  intro fr pins s σ H v u Q φ st d I ru r hd h
  simp only [bi1] at h
  cases q : seqD st d with
  | none => rw [q] at h; exact h.elim
  | some xs =>
    rw [q] at h
    obtain ⟨p, vs, rfl, h2, h3, h4⟩ := seq_at r hd q
    refine call_tuple_of pins s σ H _ _ Q I ru ⟨p, vs, rfl, ?_⟩
    rcases h2 with h2 | h2
    · exact .inl ⟨h2, fun l hl => h.tup r hl h4 h3⟩
    · exact .inr ⟨h2, h.flat r ⟨p, vs, rfl, h2, h3, h4⟩⟩
end
end Cip

set_option maxHeartbeats 4000000
/-! Cip7: defs and calls, where no repr runs. -/
namespace Cip
open PySem PySem.Spec PyProof.Rows L2

/-- as FnOk, called where no guard stands -/
structure FnG (P : Program) (w : World) (K : PySem.W.Frag) (mg : Str → Option Value) (base : Heap) (k : Nat) (f : Addr) (fd : FuncData) (ps : List Str) (sp : Sp) : Prop where
  len : ∀ vs H Q E, sp vs H Q E → vs.length = ps.length
  run : ∀ (A : Around) (outer : List PySem.Env) (s : Shared) (H : Hp) (args : Args) (us : List Value) (vs : List V) (Q : VK) (E : XK), A.guards = some [] → Room k A → Env0 P w K mg base A outer s H → BindsTo s fd args (ps.zip us) → Vals vs us → sp vs H Q E →
    codeAny (model P w) A (.call (.ref f) args) (CR (L2.CX P w) outer P w H s Q E) s
section
variable {P : Program} {w : World} {K : PySem.W.Frag} {mg : Str → Option Value} {base : Heap}
theorem FnG.mono {j k : Nat} {f : Addr} {fd : FuncData} {ps : List Str} {sp : Sp} (F : FnG P w K mg base j f fd ps sp) (h : j ≤ k) : FnG P w K mg base k f fd ps sp :=
  ⟨F.len, fun A outer s H args us vs Q E hg hr => F.run A outer s H args us vs Q E hg (hr.mono h)⟩
/-- a def by its body -/
theorem fng_of {k : Nat} {f : Addr} {name qual : Str} {params : Arguments} {body : List Stmt} {scope : Scope} {dV kV doc pm cdv ct oc : Value} {an od : Option Addr}
    {osl : Array (Option Value)} {N ps : List Str} {sp : Sp} (lk : K.lookup f = some ⟨oc, od, .func (PySem.W.fnOf name qual params body scope dV kV doc pm an cdv ct), osl⟩) (hcd : PySem.W.codeIn K cdv qual = true) (S : FnScope N ps scope)
    (len : ∀ vs H Q E, sp vs H Q E → vs.length = ps.length)
    (hbody : ∀ (A : Around) (outer : List PySem.Env) (s : Shared) (H : Hp) (vs : List V) (Q : VK) (E : XK), (A.deeper (envOfC qual scope s.heap.objs.size f cdv)).guards = some [] → Room k (A.deeper (envOfC qual scope s.heap.objs.size f cdv)) → sp vs H Q E →
      ∃ t, PSs (cxOf (L2.CX P w) P w K mg base N qual scope f cdv A outer s H E) body t ∧ t { nx := fun _ H' => Q .non H', rt := Q } (start N vs) H) :
    FnG P w K mg base (k + 1) f (PySem.W.fnOf name qual params body scope dV kV doc pm an cdv ct) ps sp := by
  constructor
  · exact len
  · intro A outer s H args us vs Q E hg hr e0 hb r hsp
    have hl := len _ _ _ _ hsp
    have KX : K.In s.heap := e0.mod.kin.keeps fun b o e => (e0.bs b o e).1
    have lim : s.heap.NoLimit := e0.mod.nolimit.keeps fun b o e => (e0.bs b o e).1
    have kinds : ∀ y ∈ ps.zip us, scope.names.lookup y.1 = some .local ∨ (scope.names.lookup y.1 = some .cell ∧ ((cellsFrom (s.heap.objs.size + 1) scope.names []).lookup y.1).isSome = true) := by
      rintro ⟨n, v⟩ hy
      rcases S.par n (List.of_mem_zip hy).1 with q | q
      · exact .inl q
      · exact .inr ⟨q, PySem.W.cellsFrom_some _ _ _ (.inl q)⟩
    apply codeAny_call_function hr.depth (KX _ _ lk) rfl S.co S.gen rfl (PySem.W.codeRec_of KX hcd) (hb _ _ _ _ _)
    apply wpAny_newFunctionEnv_cells S.kind kinds
    intro env he s1 x
    subst he
    refine ⟨lim.keeps x.toInCall.keep, codeAny_func ?_⟩
    obtain ⟨tt, ht, hq⟩ := hbody A outer s H vs Q E hg (hr.deeper _) hsp
    have I : Inv (cxOf (L2.CX P w) P w K mg base N qual scope f cdv A outer s H E) [] (start N vs) H s1 := inv_start S hr.hd e0 hl r x
    apply wpAny_mono (ht.run [] s1 (start N vs) H _ I hq) _ (fun e s' hs => hs)
    intro fl s' hs
    cases fl with
    | ret u =>
      obtain ⟨v, σ', H', J, rv, q⟩ := hs
      exact ⟨v, H', J.os, J.bare, J.base, J.hok, rv, q⟩
    | next =>
      obtain ⟨σ', H', J, q⟩ := hs
      exact ⟨.non, H', J.os, J.bare, J.base, J.hok, rfl, q⟩
    | brk => exact hs.elim fun _ z => z.elim fun _ z => z.2.elim
    | cont => exact hs.elim fun _ z => z.elim fun _ z => z.2.elim
end

section
variable {X : Cx} {k : Nat} {f : Addr} {fd : FuncData} {ps : List Str} {sp : Sp} {W : WX}
/-- the callee runs; what it raises is in our air -/
theorem run_fng {pins : List (Addr × Obj)} {σ : L2.St} {H : Hp} {s : Shared} {Q : VK} {us : List Value} {vs : List V} (F : FnG X.prog X.w X.K X.mg X.base k f fd ps sp) (hg : X.A.guards = some []) (hr : Room k X.A) (hb : Binds X.K fd ps [])
    (tk : Takes X W) (I : Inv X pins σ H s) (r : Vals vs us) (h : sp vs H Q fun cls d H' => W cls d σ H') : wpAny (model X.prog X.w) X.A (call (.ref f) us) (EP X pins σ Q) X.xe s := by
  have hl : us.length = ps.length := by rw [← r.length]; exact F.len _ _ _ _ h
  have hbs := hb s us I.kIn (by rw [List.append_nil]; exact hl)
  rw [List.append_nil] at hbs
  apply wpAny_call (codeAny_mono (F.run X.A X.stack s H ⟨us, []⟩ us vs Q _ hg hr I.env0 hbs r h) _)
  intro r s' hq
  cases r with
  | error e => exact tk e s' (XE.of_call I (fun _ _ _ z => z) hq)
  | ok fl =>
    cases fl with
    | ret u => exact I.after hq
    | next => exact False.elim hq
    | brk => exact False.elim hq
    | cont => exact False.elim hq
/-- .. where nothing is let out -/
theorem Takes.none {X : Cx} : Takes X (fun _ _ _ _ => False) := takes0
end

/-- what a def of ours promises -/
def spOf (K : PySem.W.Frag) (t : Nm) (cf : CF) (f np : Nat) : Sp := fun vs H Q E => ∃ φ ds st, Rel ⟨K, t.cls, t.fnm⟩ φ H st ∧ Reps K φ H ds vs ∧ ds.length = np ∧
  match cf f ds st with
  | .ok d st' => ∀ φ' H' v, Rel ⟨K, t.cls, t.fnm⟩ φ' H' st' → Ext φ H φ' H' → Rep K φ' H' d v → Q v H'
  | .ex c fs st' => ∀ φ' H' cls dd, Rel ⟨K, t.cls, t.fnm⟩ φ' H' st' → Ext φ H φ' H' → XV ⟨K, t.cls, t.fnm⟩ φ' H' c fs cls dd → E cls dd H'
  | .stk => False
end Cip

set_option maxHeartbeats 4000000
/-! CipX1: an error's __init__ that begins with super().__init__(e). -/
namespace Cip
open PySem PySem.Spec PyProof.Rows L2

/-- the context of an __init__'s body that knows __class__ -/
def cxK (CX : CXT) (P : Program) (w : World) (K : PySem.W.Frag) (mg : Str → Option Value) (base : Heap) (N : List Str) (qual : Str) (scope : Scope) (f cc : Addr) (cd : Value) (A : Around) (outer : List PySem.Env) (s : Shared) (H : Hp) (E : XK) : Cx where
  prog := P
  w := w
  K := K
  mg := mg
  base := base
  A := A.deeper (PySem.W.ksEnv qual scope s.heap.objs.size f cd cc)
  N := N
  s_0 := s
  H_0 := H
  env := PySem.W.ksEnv qual scope s.heap.objs.size f cd cc
  outer := outer
  stack := PySem.W.ksEnv qual scope s.heap.objs.size f cd cc :: outer
  ex := []
  calm := true
  fn := fun _ => false
  pn := []
  xe := fun e s' => wpAny (model P w) (A.deeper (PySem.W.ksEnv qual scope s.heap.objs.size f cd cc)) (leaving (PySem.W.ksEnv qual scope s.heap.objs.size f cd cc) e) (fun _ s'' => CX outer H s E e s'') (fun e' s'' => CX outer H s E e' s'') s'

/-- names: the parameters first; __class__ alone is free -/
structure KScope (N P : List Str) (sc : Scope) : Prop where
  kind : sc.kind = .function
  co : sc.isCoroutine = false
  gen : sc.isGenerator = false
  nd : N.Nodup
  pre : N.take P.length = P
  par : ∀ x ∈ P, sc.names.lookup x = some .local
  nocell : ∀ y ∈ sc.names, y.2 ≠ .cell
  free : ∀ y ∈ sc.names, y.2 = .free → y.1 = ("__class__" : Str)
  cls : sc.names.lookup ("__class__" : Str) = some .free
  sup : sc.names.lookup ("super" : Str) = some .globalImplicit

theorem lookup_mem {α : Type} {y : Str} {u : α} : ∀ {l : List (Str × α)}, (l.map (·.1)).Nodup → (y, u) ∈ l → l.lookup y = some u
  | [], _, h => by cases h
  | (x, v) :: l, nd, h => by
    have nd' := List.nodup_cons.mp (show (x :: l.map (·.1)).Nodup from nd)
    rw [List.lookup_cons]
    rcases List.mem_cons.mp h with e | h
    · cases e
      simp
    · have ne : (y == x) = false := beq_eq_false_iff_ne.mpr fun e => nd'.1 (List.mem_map.mpr ⟨_, h, e⟩)
      rw [ne]
      exact lookup_mem nd'.2 h
theorem zip_fst {α β : Type} : ∀ {xs : List α} {ys : List β}, xs.length = ys.length → (xs.zip ys).map (·.1) = xs
  | [], _, _ => by simp
  | _ :: _, [], h => by cases h
  | x :: xs, y :: ys, h => by simp [zip_fst (show xs.length = ys.length by simpa using h)]
theorem rev_lookup {ps : List Str} {us : List Value} {i : Nat} {y : Str} {u : Value} (nd : ps.Nodup) (hl : ps.length = us.length) (h1 : ps[i]? = some y) (h2 : us[i]? = some u) : (ps.zip us).reverse.lookup y = some u := by
  refine lookup_mem ?_ (List.mem_reverse.mpr ?_)
  · rw [List.map_reverse, zip_fst hl]
    exact List.pairwise_reverse.mpr (nd.imp fun h e => h e.symm)
  · exact List.mem_of_getElem? (List.getElem?_zip_eq_some.mpr ⟨h1, h2⟩)

section
variable {CX : CXT} {P : Program} {w : World} {K : PySem.W.Frag} {mg : Str → Option Value} {base : Heap} {N ps : List Str} {qual : Str} {scope : Scope} {f cc : Addr} {cd : Value} {A : Around} {outer : List PySem.Env} {s : Shared} {H : Hp} {E : XK}
theorem inv_startK {us : List Value} {vs : List V} {h1 : Heap} {tk : Nat} {oc : Obj} {cv : Option Value}
    (S : KScope N ps scope) (hd : A.handled = none) (e0 : Env0 P w K mg base A outer s H) (hl : vs.length = ps.length) (r : Vals vs us)
    (hns : h1.Ns s.heap.objs.size (fun x => (ps.zip us).reverse.lookup x)) (hk : ∀ b o, s.heap.get? b = some o → h1.get? b = some o)
    (hcc : K.lookup cc = some oc) (hcv : oc.data = .cell cv) :
    Inv (cxK CX P w K mg base N qual scope f cc cd A outer s H E) [] (L2.start N vs) H { s with heap := h1, toks := tk } := by
  have hpl : ps.length ≤ N.length := by have := congrArg List.length S.pre; rw [List.length_take] at this; omega
  have hcb : base.get? cc = some oc := e0.mod.kin _ _ hcc
  obtain ⟨hcs, hcH⟩ := e0.bs cc oc hcb
  have lk : ∀ (y : Str) (c : Addr), ([(("__class__" : Str), cc)] : List (Str × Addr)).lookup y = some c → y = "__class__" ∧ c = cc := fun y c e => by
    rw [List.lookup_cons] at e
    cases q : (y == ("__class__" : Str)) with
    | true =>
      rw [q] at e
      cases e
      exact ⟨beq_iff_eq.mp q, rfl⟩
    | false =>
      rw [q] at e
      cases e
  have lt : s.heap.objs.size < h1.objs.size := hns.lt
  have noA : ∀ b : Addr, b ∉ (cxK CX P w K mg base N qual scope f cc cd A outer s H E).ex := fun b z => absurd (show b ∈ ([] : List Addr) from z) (by simp)
  refine ⟨⟨e0.mod, S.kind, rfl, rfl, Nat.le_refl _, fun y z c h1 h2 => ?_, fun y hy => ?_, fun y c z => absurd (show false = true from z) Bool.false_ne_true, fun _ => hd, Around.frames_deeper e0.frames, .inr ⟨rfl, rfl⟩, fun b z => absurd z (noA b), e0.bs, e0.bsz, fun b _ _ => noA b, fun b z => absurd z (noA b), e0.funs, e0.frf⟩,
    rfl, e0.bare, Un.kept hk, ⟨_, hns, fun i y v h1 h2 h3 => ?_⟩, fun y c h => ?_, e0.hok.fresh (Nat.le_refl _), fun y c h => ?_, fun p hp => absurd (show p ∈ ([] : List (Addr × Obj)) from hp) (by simp), e0.hok.kept hk, ?_⟩
  · rw [(lk y c h1).1, (lk z c h2).1]
  · have hy : scope.names.lookup y = some .cell ∨ scope.names.lookup y = some .free := hy
    rcases hy with hy | hy
    · exact absurd rfl (S.nocell _ (PySem.mem_of_lookup hy))
    · have e : y = "__class__" := S.free _ (PySem.mem_of_lookup hy) rfl
      subst e
      exact ⟨cc, rfl⟩
  · have hi : i < vs.length := by
      unfold L2.start at h2
      by_cases hi : i < vs.length
      · exact hi
      · rw [List.getElem?_append_right (by simpa using hi)] at h2
        rw [List.getElem?_replicate] at h2
        split at h2 <;> cases h2
    have ha : vs[i]? = some v := by
      unfold L2.start at h2
      rw [List.getElem?_append_left (by simpa using hi), List.getElem?_map] at h2
      cases e : vs[i]? with
      | none => rw [e] at h2; cases h2
      | some a => rw [e] at h2; cases h2; rfl
    obtain ⟨u, hu, rv⟩ := r.get ha
    have hp : ps[i]? = some y := by
      rw [← S.pre, List.getElem?_take_of_lt (by omega)]; exact h1
    have ndP : ps.Nodup := by rw [← S.pre]; exact S.nd.sublist (List.take_sublist _ _)
    exact ⟨u, rv, .inl ⟨S.par y (List.mem_of_getElem? hp), rev_lookup ndP (by rw [← hl, r.length]) hp hu⟩⟩
  · obtain ⟨_, e⟩ := lk y c h
    subst e
    exact ⟨cv, oc, hk _ _ hcs, hcv⟩
  · obtain ⟨_, e⟩ := lk y c h
    subst e
    exact hcH
  · unfold L2.start
    show _ = N.length
    rw [List.length_append, List.length_map, List.length_replicate]
    omega
end
end Cip

set_option maxHeartbeats 4000000
/-! CipX2: super().__init__(e), then the fields; such an error made. -/
namespace Cip
open PySem PySem.Spec PyProof.Rows L2

section
variable {prog : Program} {w : World} {A : Around} {E : Value → Shared → Prop} {h : Heap} {g : Array GenState} {d : Drawn} {t : Nat} {os : OsState}
variable {nm q : Str} {C N : Addr} {bs bm : List Value} {hdct : Bool} {sn : List Str} {sub : List Value} {ab : Bool} {col : Option Bool} {dd : Option Addr} {k0 k1 k2 k3 k5 : Option Value}
/-- ValueError.__init__ bound to the error, called -/
theorem call_mw {u e t0 : Addr} {rest : List Value} {Q : Value → Shared → Prop}
    (hC : h.get? C = some (excClassObj nm q C N bs bm hdct sn sub ab col dd k0 k1 k2 k3 k5 "ValueError.__new__")) (he : h.get? e = some (PySem.HandSPX.excO C t0)) (hu : h.get? u = some (PySem.W.kxs_mw "ValueError.__init__" e)) (hrest : rest.length ≤ sizeLine)
    (hq : ∀ h' t1, (∀ b o, b ≠ e → h.get? b = some o → h'.get? b = some o) → h'.get? e = some (PySem.HandSPX.excO C t1) → Q .none ⟨h', g, d, t, os⟩) :
    wpAny (model prog w) A (call (.ref u) rest) Q E ⟨h, g, d, t, os⟩ := by
  refine wpAny_call (codeAny_of_tree ?_)
  show wpAny _ A.in1 (callAny (.ref u) ⟨rest, []⟩) _ _ _
  simp only [callAny]
  refine wpAny_bind (wpAny_load hu ?_)
  simp only [PySem.W.kxs_mw, show (Value.type "method-wrapper" == Value.type "method" || Value.type "method-wrapper" == Value.type "builtin_function_or_method" || Value.type "method-wrapper" == Value.type "method-wrapper") = true by decide, if_true]
  refine PySem.W.KFB.if_so (by decide) ?_
  refine wpAny_bind (PySem.ESX.check_bound F.excBase_ValueError hC he rfl ?_)
  refine wpAny_bind (wpAny_pure (wpAny_pure ?_))
  refine ⟨Code.quiet_builtin _ (by decide +kernel), codeAny_builtin F.excBase_ValueError.initEntry ?_⟩
  rw [Around.under_plainId F.excBase_ValueError.init.plain _]
  wp_walk
  refine hq _ h.objs.size (fun b o hb ho => ?_) ?_
  · rw [Heap.get?_update_other _ _ (Ne.symm hb)]
    exact Heap.get?_push_of_some _ ho
  · rw [Heap.get?_update_self _ (Heap.get?_push_of_some _ he) rfl]
    rfl
end

/-- super().m(e)'s tree -/
theorem super_tree {o e : PySem.Expr} {m : Str} {apos pos : Pos} {env : PySem.Env} (hs : starEach [e] env = (false, eval e env) :: starEach [] env) (hl : (apos.endLine == pos.line) = true) :
    eval (.Call (.Attribute o m apos) [e] [] pos) env = (do
      let ov ← attributeBase o m env (eval o env)
      standAt apos.atName
      let (f, first) ← holding [ov] (getMethod ov m (do return (← importBound o env).getD true))
      callWith pos f first (backTo pos (starEach [e] env)) []) := by
  have hform : methodCallForm (([e] : List PySem.Expr).length + ([] : List Keyword).length) (backTo pos (starEach [e] env)) (backToKw pos (keywordEach [] env)) = true := by
    have h0 : (backToKw pos (keywordEach [] env)) = [] := rfl
    rw [h0, hs]
    rfl
  have hpos : methodCallPos true o env apos pos = pure pos := by unfold methodCallPos; simp [hl]
  rw [arm_eval_Call]
  unfold methodCall
  rw [hform]
  simp only [hpos, pure_bind]
  rfl
section
variable {P : Program} {w : World} {K : PySem.W.Frag} {mg : Str → Option Value} {base : Heap}
theorem fng_super {k : Nat} {f cc cda C : Addr} {name qual : Str} {params : Arguments} {e : PySem.Expr} {rest : List Stmt} {scope : Scope} {dV kV doc pm ct oc : Value} {an od : Option Addr} {osl : Array (Option Value)} {p0 p1 p2 p3 p4 : Pos} {N ps : List Str} {sp : Sp}
    {ar : Arg} {cvs : Array Value} {file : Str} {tf : Tok} {ccl cl : Value} {cdd cld : Option Addr} {ccs csl : Array (Option Value)}
    (lk : K.lookup f = some ⟨oc, od, .func (PySem.W.ksFn name qual params (.Expr (.Call (.Attribute (.Call (.Name "super" p0) [] [] p1) "__init__" p2) [e] [] p3) p4 :: rest) scope dV kV doc pm an (.ref cda) ct cc), osl⟩)
    (hcd : PySem.W.codeIn K (.ref cda) qual = true) (S : KScope N ps scope) (T : OexC K C)
    (hp : (params.posonlyargs ++ params.args).head? = some ar) (ha0 : ps[0]? = some ar.arg)
    (hcode : K.lookup cda = some ⟨ccl, cdd, .fields cvs, ccs⟩) (hvs : cvs[2]? = some (.str file tf)) (hfile : ((P.main.file : Str) == file) = true)
    (hcell : K.lookup cc = some ⟨cl, cld, .cell (some (.ref C)), csl⟩) (hself : PySem.W.mroIn K C (.ref C) = some true) (hB : PySem.W.subIn K (.ref C) (.type "ValueError") = some true)
    (hsuper : PySem.W.nsIn K mainGlobals "super" = some none) (htop : (P.main.scope.names.lookup ("super" : Str)).isSome = false)
    (hopq : PySem.W.nsIn K cStatics "thirdparty.any" = some none) (hsi : PySem.W.ks_superIn K C C "__init__" = some (some (.builtin "ValueError.__init__")))
    (hst : ∀ env : PySem.Env, starEach [e] env = (false, eval e env) :: starEach [] env) (hln : (p2.endLine == p3.line) = true)
    (len : ∀ vs H Q E, sp vs H Q E → vs.length = ps.length)
    (hbody : ∀ (A : Around) (outer : List PySem.Env) (s : Shared) (H : Hp) (vs : List V) (Q : VK) (E : XK), (A.deeper (PySem.W.ksEnv qual scope s.heap.objs.size f (.ref cda) cc)).guards = some [] → Room k (A.deeper (PySem.W.ksEnv qual scope s.heap.objs.size f (.ref cda) cc)) → sp vs H Q E →
      ∃ a ws te ts, vs = .ref a :: ws ∧ H a = some (exo a C none) ∧ PE (cxK (L2.CX P w) P w K mg base N qual scope f cc (.ref cda) A outer s H E) e te ∧ PSs (cxK (L2.CX P w) P w K mg base N qual scope f cc (.ref cda) A outer s H E) rest ts ∧
        te (L2.start N vs) H (fun _ H1 => H1 a = some (exo a C none) ∧ ts { nx := fun _ H' => Q .non H', rt := Q } (L2.start N vs) H1)) :
    FnG P w K mg base (k + 1) f (PySem.W.ksFn name qual params (.Expr (.Call (.Attribute (.Call (.Name "super" p0) [] [] p1) "__init__" p2) [e] [] p3) p4 :: rest) scope dV kV doc pm an (.ref cda) ct cc) ps sp := by
  constructor
  · exact len
  · intro A outer s H args us vs Q E hg hr e0 hb r hsp
    have hl := len _ _ _ _ hsp
    have KX : K.In s.heap := e0.mod.kin.keeps fun b o e => (e0.bs b o e).1
    have lim : s.heap.NoLimit := e0.mod.nolimit.keeps fun b o e => (e0.bs b o e).1
    have hloc : ∀ y ∈ ps.zip us, scope.names.lookup y.1 = some .local := fun y hy => S.par y.1 (List.of_mem_zip hy).1
    refine ks_codeAny_call_defAt (fd := PySem.W.ksFn name qual params (.Expr (.Call (.Attribute (.Call (.Name "super" p0) [] [] p1) "__init__" p2) [e] [] p3) p4 :: rest) scope dV kV doc pm an (.ref cda) ct cc) (binds := ps.zip us) hr.depth (KX _ _ lk) rfl lim (PySem.W.codeRec_of KX hcd) rfl hb S.nocell hloc (fun h1 hns hk => ?_) S.co S.gen S.kind
    have I : Inv (cxK (L2.CX P w) P w K mg base N qual scope f cc (.ref cda) A outer s H E) [] (L2.start N vs) H { s with heap := h1, toks := s.toks + (ps.zip us).length } := inv_startK S hr.hd e0 hl r hns hk hcell rfl
    obtain ⟨a, ws, te, ts, rfl, ea, he, hrest, hq⟩ := hbody A outer s H vs Q E hg (hr.deeper _) hsp
    obtain ⟨nm, qq, NN, bs, bm, sn, sub, ab, col, dd, k0, k1, k2, k3, k5, hC, hbm⟩ := T.cls
    have hcl : PySem.W.clsIn K C = some { name := nm, bases := bs, mro := .ref C :: bm, ns := NN, qualname := qq, hasDict := true, slotNames := sn, subclasses := sub, abstract := ab, collection := col, hasDel := false } := by unfold PySem.W.clsIn; rw [hC] <;> rfl
    obtain ⟨t1, ho⟩ := exo_at I.hok ea
    have ndP : ps.Nodup := by rw [← S.pre]; exact S.nd.sublist (List.take_sublist _ _)
    have hu0 : us[0]? = some (.ref a) := by
      cases r with
      | cons ra rr =>
        obtain rfl := (show _ = Value.ref a from ra)
        rfl
    have hself' := rev_lookup ndP (by rw [← hl, r.length]) ha0 hu0
    obtain ⟨mb, hb1, hb2⟩ := I.mod.blt
    unfold PySem.W.ks_superIn at hsi
    rw [hcl] at hsi
    refine ks_wpAt_execs_cons (ks_wpAt_Expr_any ?_ I.quiet rfl)
    refine ks_wpAt_MethodCall ?_ (super_tree (hst _) hln)
    refine ks_wpAt_super_base (env := PySem.W.ksEnv qual scope s.heap.objs.size f (.ref cda) cc) S.sup S.cls rfl rfl (I.kIn _ _ lk) rfl hp rfl (I.kIn _ _ hcode) rfl hvs hfile htop ?_
    refine PySem.W.ks_loadName_global S.kind S.sup (Calls.loadGlobal_builtin (env := PySem.W.ksEnv qual scope s.heap.objs.size f (.ref cda) cc) (I.mod.glob.keeps I.bk) (PySem.W.mg_none_of I.mod.kin I.mod.glob hsuper) (hb1.keeps I.bk) ((hb2 "super" (by decide)).trans (by first | boot_by_name | rfl | kernel_rfl)) ⟨rfl, ?_⟩)
    refine wpAny_loadName_free S.kind S.cls rfl ⟨_, I.kIn _ _ hcell, rfl⟩ ?_
    refine wpAny_loadName_local S.kind (S.par _ (List.mem_of_getElem? ha0)) hns hself' ?_
    refine ks_wpAny_isType_cls (I.kIn _ _ hC) rfl ⟨rfl, ?_⟩
    refine ks_wpAny_call_super (I.kIn _ _ hC) rfl ho rfl (fun c e => by cases e) (PySem.W.looks_mroIn I.kIn hself) (fun h2 e2 k2 => ?_)
    have I2 := I.kept (t' := s.toks + (ps.zip us).length) k2
    have J2 : PySem.W.InstAt h2 a { cls := .ref C, dict := none, data := .fields #[.ref t1, .none, .none, .none, .bool false, .none] } C none := ⟨k2 _ _ ho, rfl, rfl, trivial⟩
    refine PySem.W.kxs_getMethod PySem.W.kxs_ValueError (D := C) (C := C) (x := a) e2 (PySem.W.looks_opaque I2.kIn hopq) (l₀ := .ref C :: bm) (fun A Q E s k q => wpAny_bind ((PySem.W.looks_clsIn I2.kIn hcl) A _ E s k (wpAny_pure q))) rfl I2.kIn hsi
      (J2.type.andThen (PySem.W.looks_subIn I2.kIn hB)) (PySem.W.ks_ne I2.kIn J2 hcl) rfl ?_
    have k3' : ∀ b o, h2.get? b = some o → (h2.push (PySem.W.kxs_mw "ValueError.__init__" a)).get? b = some o := fun b o e => Heap.get?_push_of_some _ e
    have I3 := I2.kept (t' := s.toks + (ps.zip us).length + 1) k3'
    have hu : (h2.push (PySem.W.kxs_mw "ValueError.__init__" a)).get? h2.objs.size = some (PySem.W.kxs_mw "ValueError.__init__" a) := Heap.get?_push_at rfl rfl
    have I4 : Inv (cxK (L2.CX P w) P w K mg base N qual scope f cc (.ref cda) A outer s H E) [(h2.objs.size, PySem.W.kxs_mw "ValueError.__init__" a)] (L2.start N (.ref a :: ws)) H _ := I3.pins_of (fun p hp => by
      rcases List.mem_cons.mp hp with e | hp
      · subst e
        exact ⟨hu, I2.hok.fresh (Nat.le_refl _), fun z => absurd I2.lt (by rw [show (cxK (L2.CX P w) P w K mg base N qual scope f cc (.ref cda) A outer s H E).env.locals = h2.objs.size from z.symm]; exact Nat.lt_irrefl _), I2.nofs (Nat.le_refl _), fun v z => by cases z⟩
      · cases hp)
    refine PySem.W.kxs_callWith (i := "ValueError.__init__") (x := a) (by rw [hst]; rfl) ?_
    rw [hst]
    refine Calls.evalArgs_plain (Calls.spliced_cons (thn (he.run _ _ _ H _ I4 hq) fun v s5 ⟨y, H1, I5, r5, ea1, hq1⟩ => ?_))
    refine Calls.spliced_nil ⟨(I5.pin _ (List.mem_append_right _ List.mem_cons_self)).1, ?_⟩
    obtain ⟨t5, ho5⟩ := exo_at I5.hok ea1
    have hu5 := (I5.pin (h2.objs.size, PySem.W.kxs_mw "ValueError.__init__" a) (List.mem_append_right _ List.mem_cons_self)).1
    have hC5 := I5.kIn _ _ hC
    obtain ⟨h5, g5, d5, t5', os5⟩ := s5
    refine call_mw hC5 ho5 hu5 (by simp [sizeLine_eq]) (fun h6 t6 k6 e6 => ?_)
    have J := I5.write (t' := t5') (x := a) (e := a) (o := exo a C none) (by rw [ea1]; exact True.intro) (.inl rfl) k6 ⟨_, e6⟩ (exo_ok e6)
    have eu : upd H1 a (exo a C none) = H1 := by
      funext b
      by_cases hb : b = a
      · rw [hb, upd_same, ea1]
      · rw [upd_ne hb]
    rw [eu] at J
    have I6 : Inv (cxK (L2.CX P w) P w K mg base N qual scope f cc (.ref cda) A outer s H E) [] (L2.start N (.ref a :: ws)) H1 _ := J.pins_of (fun p hp => by cases hp)
    refine wpAt_of_wpAny (wpAny_mono (hrest.run [] _ _ H1 _ I6 hq1) (fun fl s' hs => ?_) fun _ _ z => z)
    cases fl with
    | ret u =>
      obtain ⟨v, σ', H', J, rv, q⟩ := hs
      exact ⟨v, H', J.os, J.bare, J.base, J.hok, rv, q⟩
    | next =>
      obtain ⟨σ', H', J, q⟩ := hs
      exact ⟨.non, H', J.os, J.bare, J.base, J.hok, rfl, q⟩
    | brk => exact hs.elim fun _ z => z.elim fun _ z => z.2.elim
    | cont => exact hs.elim fun _ z => z.elim fun _ z => z.2.elim
end
end Cip

set_option maxHeartbeats 4000000
/-! CipX3: such an error is made; an error made is a value. -/
namespace Cip
open PySem PySem.Spec PyProof.Rows L2

/-- C(e, ..), its __init__ keeping sp -/
theorem pmk_sup {X : Cx} {x : Str} {e : PySem.Expr} {es : List PySem.Expr} {ta : TA} {p pos : Pos} {C fI : Addr} {k : Nat} {fd : FuncData} {ps : List Str} {sp : Sp} (T : OexC X.K C) (iC : PySem.W.findIn X.K (.ref C) "__init__" = some (some (.ref fI))) (tI : PySem.W.typeIn X.K (.ref fI) = some (.type "function"))
    (F1 : FnG X.prog X.w X.K X.mg X.base k fI fd ps sp) (hgu : X.A.guards = some []) (hr : Room (k + 1) X.A) (hb : Binds X.K fd ps []) (hg : Gl X x) (hm : X.mg x = some (.ref C)) (ha : PA X (e :: es) ta)
    (hdb : (x == ("__debug__" : Str)) = false) (he : starEach (e :: es) X.env = (false, eval e X.env) :: starEach es X.env) (hpl : (backTo pos (starEach es X.env)).any (·.1) = false) :
    PMk X (.Call (.Name x p) (e :: es) [] pos) (tMkO C sp [] ta) := by
  intro pins s σ H Q I h
  obtain ⟨nm, q, N, bs, bm, sn, sub, ab, col, dd, k0, k1, k2, k3, k5, hC, hbm⟩ := T.cls
  refine wpAny_Call_Name_kw (ld_glob I hg hm ?_ hdb)
  refine PySem.W.callWith_K (h₀ := X.base) I.ok.mod.kin T.kC (thn (ha.run pos pins s σ H _ I h) fun us s1 ⟨vs, H1, I1, r1, hz, q1⟩ => ⟨I1.kIn, ?_⟩) he hpl
  show wpAny _ _ (call (.ref C) us) _ _ _
  obtain ⟨hp, g, dr, tk, os⟩ := s1
  have hsz : hp.objs.size ≤ hp.objs.size + 1 := Nat.le_succ _
  have hn : H1 (hp.objs.size + 1) = none := I1.hok.fresh hsz
  have hq := q1 (hp.objs.size + 1) hn
  rw [List.append_nil] at hq
  have kk : ∀ b o, hp.get? b = some o → ((hp.push (PySem.W.kdv_tup us)).push (PySem.HandSPX.excO C hp.objs.size)).get? b = some o := fun b o e => Heap.get?_push_of_some _ (Heap.get?_push_of_some _ e)
  have hget : ((hp.push (PySem.W.kdv_tup us)).push (PySem.HandSPX.excO C hp.objs.size)).get? (hp.objs.size + 1) = some (PySem.HandSPX.excO C hp.objs.size) := by heap_get
  have I2 : Inv X pins σ (upd H1 (hp.objs.size + 1) (exo (hp.objs.size + 1) C none)) ⟨(hp.push (PySem.W.kdv_tup us)).push (PySem.HandSPX.excO C hp.objs.size), g, dr, tk, os⟩ :=
    I1.laid (t' := tk) (a := hp.objs.size + 1) (o := exo (hp.objs.size + 1) C none) (h' := (hp.push (PySem.W.kdv_tup us)).push (PySem.HandSPX.excO C hp.objs.size)) kk hsz (exo_ok hget)
  have r2 : Vals (V.ref (hp.objs.size + 1) :: vs) (Value.ref (hp.objs.size + 1) :: us) := .cons rfl r1
  have hl : (Value.ref (hp.objs.size + 1) :: us).length = ps.length := by
    have e := r2.length
    rw [F1.len _ _ _ _ hq] at e
    exact e.symm
  have hus : us.length ≤ sizeLine := by
    rw [← Paired.length r1, sizeLine_eq]
    omega
  have hbs := hb ⟨(hp.push (PySem.W.kdv_tup us)).push (PySem.HandSPX.excO C hp.objs.size), g, dr, tk, os⟩ (Value.ref (hp.objs.size + 1) :: us) I2.kIn (by rw [List.append_nil]; exact hl)
  rw [List.append_nil] at hbs
  refine wpAny_call (PySem.HandSPX.call_own F.excBase_ValueError (fun Y => PySem.HandSPX.refsVE_contains Y bm hbm) (I1.kIn _ _ hC) (PySem.W.looks_findIn I1.kIn iC) (fun self => PySem.W.bind_fn I1.kIn self tI) hus
    (codeAny_mono (F1.run _ X.stack _ _ ⟨Value.ref (hp.objs.size + 1) :: us, []⟩ (Value.ref (hp.objs.size + 1) :: us) _ _ (fun _ _ _ => False) hgu (hr.make C us []) (I2.env0.make C us []) hbs r2 hq) fun r s' hq' => ?_))
  cases r with
  | error er => exact takes0 er s' (XE.of_call I2 (fun _ _ _ z => z) hq')
  | ok fl =>
    cases fl with
    | ret u =>
      obtain ⟨v, H2, os2, bare2, un2, hok2, rv, ev, d, fs, ea, ed, hd1, q2⟩ := hq'
      subst ev
      obtain ⟨h2, g2, d2, t2, os'⟩ := s'
      exact ⟨rv, mk_end (raises_own T.exC T.tyC) I1 hsz kk un2 hok2 os2 bare2 ea ed hd1 q2⟩
    | next => exact False.elim hq'
    | brk => exact False.elim hq'
    | cont => exact False.elim hq'

/-! ### an error made is a value -/
section
variable {X : Cx} {pins : List (Addr × Obj)} {σ : L2.St} {H : Hp} {s : Shared} {a : Addr} {oe : Obj} {vs : Array Value} {cls : Value} {d : Option Addr}
theorem xo_ok' {P : Program} {w : World} {h : Heap} (he : h.get? a = some oe) (hz : Zc cls d oe) (hd : oe.data = .fields vs) : ObjOk P w H h a (XO cls d a) :=
  ⟨⟨oe, vs, he, hz, hd⟩, ⟨_, he⟩, fun _ _ ⟨oe, vs, e, z, f⟩ k => ⟨oe, vs, k _ e, z, f⟩⟩
theorem inv_adopt2 (I : Inv X pins σ H s) (na : H a = none) (s0 : ∀ o, X.s_0.heap.get? a = some o → a ∈ X.ex) (he : s.heap.get? a = some oe) (hz : Zc cls d oe) (hd : oe.data = .fields vs) (nL : X.env.locals ≠ a) (nC : ∀ x c, X.env.cells.lookup x = some c → c ≠ a)
    (nP : ∀ p ∈ X.pn ++ pins, p.1 ≠ a) : Inv X pins σ (upd H a (XO cls d a)) s := by
  have ne : ∀ {b : Addr} {u : HO}, H b = some u → b ≠ a := fun {b u} q e => by rw [e, na] at q; cases q
  refine ⟨I.ok, I.os, I.bare, ⟨I.base.keep, I.base.slot, fun b o q n hx => ?_, I.base.there, fun b xs q => ?_, fun b o u q => ?_, fun b ps q => ?_⟩, I.loc, I.cell, ?_, fun x c hc => ?_, fun p hp => ?_, fun b o q => ?_, I.len⟩
  · rw [upd_ne (fun e => hx (by rw [e]; exact s0 o (by rw [← e]; exact q)))]
    exact I.base.free b o q n hx
  · have z := I.base.tups b xs q
    rw [upd_ne (ne z)]
    exact z
  · have z := I.base.frzs b o u q
    rw [upd_ne (ne z)]
    exact z
  · obtain ⟨m, z⟩ := I.base.tbls b ps q
    exact ⟨m, by rw [upd_ne (ne z)]; exact z⟩
  · rw [upd_ne nL]
    exact I.free
  · rw [upd_ne (nC x c hc)]
    exact I.freeC x c hc
  · obtain ⟨p1, p2, p3, p4, p5⟩ := I.pin p hp
    exact ⟨p1, by rw [upd_ne (nP p hp)]; exact p2, p3, p4, p5⟩
  · by_cases hb : b = a
    · subst hb
      rw [upd_same] at q
      cases q
      exact xo_ok' he hz hd
    · rw [upd_ne hb] at q
      exact (I.hok b o q).stay (fun c v hc r => r) (fun c hc => by rw [upd_ne (ne hc)]; exact hc) (fun c xs hc => by rw [upd_ne (ne hc)]; exact hc)
end
/-- the reading of an error made, as a value -/
def tMade (t : L2.St → Hp → XK → Prop) : TE := fun σ H Q => t σ H fun cls d H' => ∀ a, H' a = none → Q (.ref a) (upd H' a (XO cls d a))
theorem pe_made {X : Cx} {e : PySem.Expr} {t : L2.St → Hp → XK → Prop} (h : PMk X e t) : PE X e (tMade t) := by
  refine ⟨fun pins s σ H Q I q => thn (h pins s σ H _ I q) fun u s' hu => ?_⟩
  obtain ⟨a, oe, vs, sI, H', cls, d, rfl, J, k, hne, ha, hz, hd, h1, na, os, ag, r, q⟩ := hu
  have J2 : Inv X pins σ H' s' := J.call' (ch := []) os (Un.kept k) (J.hok.kept k) ag (fun b z => absurd z (by simp))
  refine ⟨.ref a, _, inv_adopt2 J2 na (fun o q0 => ?_) ha hz hd (fun z => ?_) (fun x c hc z => ?_) (fun p hp z => ?_), rfl, q a na⟩
  · by_cases hx : a ∈ X.ex
    · exact hx
    · obtain ⟨o', z⟩ := J.base.there a o q0 hx
      rw [hne] at z
      cases z
  · obtain ⟨m, ⟨o, es, ep, ho, _⟩, _⟩ := J.loc
    rw [z, hne] at ho
    cases ho
  · obtain ⟨v, o, ho, _⟩ := J.cell x c hc
    rw [z, hne] at ho
    cases ho
  · have := (J.pin p hp).1
    rw [z, hne] at this
    cases this

/-! ### the class, decided -/
def oexB (K : PySem.W.Frag) (C : Addr) : Bool := (match K.lookup C with
    | some ⟨.type "type", _, .cls cd, sl⟩ => (match cd.mro, sl.toList with
      | .ref C' :: bm, [_, _, _, _, some (.builtin n), _] => C' == C && n == "ValueError.__new__" && !cd.hasDel && cd.hasDict && PySem.HandSPX.refsVE bm
      | _, _ => false)
    | _ => false) && decide (PySem.W.findIn K (.ref C) "__setattr__" = some (some (.builtin "object.__setattr__"))) && decide (PySem.W.subIn K (.ref C) (.type "BaseException") = some true) &&
  decide (PySem.W.typeIn K (.ref C) = some (.type "type")) && PySem.W.keepIn K (.ref C)
theorem oexB_ok {K : PySem.W.Frag} {C : Addr} (h : oexB K C = true) : OexC K C := by
  unfold oexB at h
  simp only [Bool.and_eq_true, decide_eq_true_eq] at h
  obtain ⟨⟨⟨⟨h1, h2⟩, h3⟩, h4⟩, h5⟩ := h
  refine ⟨?_, h2, h3, h4, h5⟩
  split at h1
  · rename_i dd cd sl hk
    obtain ⟨nm, bs, mro, ns, qn, hdd, sn, sb, ab, col, del⟩ := cd
    dsimp only at h1
    split at h1
    · rename_i C' bm k0 k1 k2 k3 n k5 e2
      simp only [Bool.and_eq_true, beq_iff_eq, Bool.not_eq_true'] at h1
      obtain ⟨⟨⟨⟨q1, q2⟩, q3⟩, q4⟩, q5⟩ := h1
      have q3 : del = false := q3
      have q4 : hdd = true := q4
      subst q1 q2 q3 q4
      have esl : sl = #[k0, k1, k2, k3, some (.builtin "ValueError.__new__"), k5] := by
        rw [← Array.toArray_toList (xs := sl), e2]
      subst esl
      exact ⟨nm, qn, ns, bs, bm, sn, sb, ab, col, dd, k0, k1, k2, k3, k5, hk, q5⟩
    · cases h1
  · cases h1
end Cip

set_option maxHeartbeats 4000000
/-! Cip8: a text of the small language held against a text of the row. -/
namespace Cip
open PySem PySem.Spec PyProof.Rows L2

/-- names of the row -/
structure Pn where
  con : Nat → Str
  has : Nat → Bool
  fn : Nat → Str
  fld : Nat → Str
  cls : Nat → Str
  mth : Nat → Str
  hasF : Nat → Nat → Bool
  hasM : Nat → Nat → Bool
  hasI : Nat → Nat → Bool
  hasX : Nat → Bool
  xd : Nat → Option XD
def kindB (sc : Scope) (x : Str) (k : NameKind) : Bool := match sc.names.lookup x with
  | some k' => k' == k
  | none => false
theorem kindB_ok {sc : Scope} {x : Str} {k : NameKind} (h : kindB sc x k = true) : sc.names.lookup x = some k := by
  unfold kindB at h
  split at h
  · rename_i k' e
    rw [e, beq_iff_eq.mp h]
  · cases h
def nm0 (x : Str) : Bool := !(x == ("__debug__" : Str)) && !(x == ("__classdict__" : Str)) && !(x == ("super" : Str)) && !(x == ("__name__" : Str))
def visB (sc : Scope) (x : Str) : Bool := kindB sc x .local || kindB sc x .cell || kindB sc x .free
def glB (sc : Scope) (x : Str) : Bool := kindB sc x .globalImplicit && nm0 x
theorem visB_ok {sc : Scope} {x : Str} (h : visB sc x = true) : Vis sc x := by
  unfold visB at h
  rw [Bool.or_eq_true, Bool.or_eq_true] at h
  rcases h with (h | h) | h
  · exact .inl (kindB_ok h)
  · exact .inr (.inl (kindB_ok h))
  · exact .inr (.inr (kindB_ok h))
theorem nm0_d {x : Str} (h : nm0 x = true) : (x == ("__debug__" : Str)) = false := by
  unfold nm0 at h
  simp only [Bool.and_eq_true, Bool.not_eq_true'] at h
  exact h.1.1.1
theorem nm0_c {x : Str} (h : nm0 x = true) : (x == ("__classdict__" : Str)) = false := by
  unfold nm0 at h
  simp only [Bool.and_eq_true, Bool.not_eq_true'] at h
  exact h.1.1.2
theorem nm0_n {x : Str} (h : nm0 x = true) : x ≠ "__name__" := by
  unfold nm0 at h
  simp only [Bool.and_eq_true, Bool.not_eq_true'] at h
  intro e
  subst e
  exact absurd h.2 (by decide)

/-! ### the heads that stand in our texts -/
def headOk : Expr → Bool
  | .Starred _ _ => false
  | .Slice _ _ _ _ => false
  | .Set _ _ _ => false
  | _ => true
theorem head_star {x : Expr} {es : List Expr} {env : PySem.Env} (h : headOk x = true) : starEach (x :: es) env = (false, eval x env) :: starEach es env := by
  cases x <;> first | rfl | cases h
theorem head_ix {x : Expr} (h : headOk x = true) : PlainIx x := by
  intro o i
  cases x <;> first | rfl | cases h
theorem head_set {x : Expr} {env : PySem.Env} (h : headOk x = true) (v : Value) : foldedSetIterable x env v = pure v := by
  cases x <;> first | rfl | cases h
theorem head_marks {x : Expr} {op : CmpOp} (h : headOk x = true) : behindInMarks op x = false := by
  cases x <;> first | rfl | cases h
/-- the receiver of an attribute -/
def headA : Expr → Bool
  | .Name _ _ => true
  | .Attribute _ _ _ => true
  | .Subscript _ _ _ => true
  | .Constant _ _ _ => true
  | .Call _ (_ :: _) [] _ => true
  | .Call (.Attribute _ _ _) [] [] _ => true
  | .Tuple _ _ _ => true
  | _ => false
theorem headA_ok {x : Expr} {f : Str} {env : PySem.Env} (h : headA x = true) : attributeBase x f env (eval x env) = eval x env := by
  cases x <;> first | rfl | skip
  rename_i fn as ks pos
  cases as with
  | cons a r => cases fn <;> rfl
  | nil => cases fn <;> first | rfl | (cases ks <;> first | rfl | cases h)
def noStars (es : List Expr) : Bool := es.all headOk
theorem noStars_any {es : List Expr} {env : PySem.Env} {pos : Pos} (h : noStars es = true) : (backTo pos (starEach es env)).any (·.1) = false := by
  induction es with
  | nil => rfl
  | cons e r ih =>
    have h' : (headOk e && noStars r) = true := h
    rw [Bool.and_eq_true] at h'
    rw [head_star h'.1]
    show (false || (backTo pos (starEach r env)).any (·.1)) = false
    rw [ih h'.2] <;> rfl

/-! ### targets -/
mutual
def chkT (N : List Str) (sc : Scope) (fn : Str → Bool) : Tg → Expr → Bool
  | .nm i, .Name x _ => decide (N[i]? = some x) && ((kindB sc x .local) || (kindB sc x .cell && fn x))
  | .tup ts, .Tuple es _ _ => noStars es && chkTs N sc fn ts es
  | _, _ => false
def chkTs (N : List Str) (sc : Scope) (fn : Str → Bool) : List Tg → List Expr → Bool
  | [], [] => true
  | t :: ts, e :: es => chkT N sc fn t e && chkTs N sc fn ts es
  | _, _ => false
end
mutual
def Tg.vars : Tg → List Nat
  | .nm i => [i]
  | .tup ts => Tg.varss ts
def Tg.varss : List Tg → List Nat
  | [] => []
  | t :: ts => Tg.vars t ++ Tg.varss ts
end
def Tg.isTup : Tg → Bool
  | .tup _ => true
  | _ => false

def BI.nm : BI → Str
  | .len => "len" | .abs => "abs" | .int => "int" | .str => "str" | .repr => "repr" | .sum => "sum" | .all => "all" | .any => "any" | .max2 => "max" | .min2 => "min"
  | .tuple => "tuple" | .list => "list" | .sorted => "sorted" | .set => "set" | .lenset => "len"
def Ty.nm : Ty → Str
  | .int => "int" | .str => "str" | .bool => "bool" | .tuple => "tuple" | .list => "list" | .dict => "dict" | .cls _ => "" | .verr => "ValueError"
def BM.nm : BM → Str
  | .join => "join" | .split => "split" | .upper => "upper" | .count => "count" | .rstrip => "rstrip" | .tindex => "index" | .lindex => "index" | .sindex => "index" | .part => "partition"
/-- how many arguments; which are served -/
def BM.ar : BM → Nat
  | .join => 1 | .split => 1 | .upper => 0 | .count => 1 | .rstrip => 1 | .tindex => 1 | .lindex => 1 | .sindex => 1 | .part => 1
def BM.okB : BM → E → Bool
  | .lindex, _ => false
  | .tindex, .con _ => true
  | .tindex, .tup _ => true
  | .tindex, _ => false
  | _, _ => true

/-- it makes a list or a dict that no one else has -/
def E.fresh : E → Bool
  | .lst _ => true
  | .lc _ _ _ _ _ _ => true
  | .dct _ => true
  | .bi .list _ => true
  | .bin _ _ _ => true
  | .slc _ _ _ => true
  | .bm .split _ _ => true
  | .rev _ => true
  | .ite _ a b => a.fresh && b.fresh
  | _ => false

/-! ### the forms of the row's text -/
abbrev CkE := Expr → Bool
abbrev CkS := List Expr → Bool
def kNon : CkE := fun x => match x with | .Constant .none _ _ => true | _ => false
def kBl (b : Bool) : CkE := fun x => match x with | .Constant (.bool c) _ _ => b == c | _ => false
def kInt (i : Int) : CkE := fun x => match x with | .Constant (.int j) _ _ => decide (i = j) | _ => false
def kStr (z : Str) : CkE := fun x => match x with | .Constant (.str y) _ _ => decide (z = y) && decide (z.length ≤ sizeLine) | _ => false
def kVar (N : List Str) (sc : Scope) (i : Nat) : CkE := fun x => match x with | .Name y _ => decide (N[i]? = some y) && visB sc y && nm0 y | _ => false
def kCon (sc : Scope) (n : Str) : CkE := fun x => match x with | .Name y _ => decide (n = y) && glB sc y | _ => false
def kBin (o : Operator) (a b : CkE) : CkE := fun x => match x with | .BinOp x op y _ => decide (o = op) && a x && b y | _ => false
def kUn (o : UnaryOp) (a : CkE) : CkE := fun x => match x with | .UnaryOp op x _ => decide (o = op) && a x | _ => false
def kCmp (o : CmpOp) (a b : CkE) : CkE := fun x => match x with | .Compare x [op] [y] _ => decide (o = op) && a x && b y | _ => false
def kChn (o p : CmpOp) (a b c : CkE) : CkE := fun x => match x with | .Compare x [op, op'] [y, z] _ => decide (o = op) && decide (p = op') && a x && b y && c z | _ => false
def kIsn (a : CkE) : CkE := fun x => match x with | .Compare x [.Is] [.Constant .none _ _] _ => a x | _ => false
def kNotn (a : CkE) : CkE := fun x => match x with | .Compare x [.IsNot] [.Constant .none _ _] _ => a x | _ => false
def kBoo (o : BoolOp) (as : CkS) : CkE := fun x => match x with | .BoolOp op xs _ => decide (o = op) && as xs | _ => false
def kIte (c a b : CkE) : CkE := fun x => match x with | .IfExp x y z _ => c x && a y && b z | _ => false
def kTup (as : CkS) : CkE := fun x => match x with | .Tuple xs _ _ => as xs | _ => false
def kLst (as : CkS) : CkE := fun x => match x with | .List xs _ => as xs | _ => false
def kDct : CkE := fun x => match x with | .Dict [] [] _ => true | _ => false
def kIdx (a b : CkE) : CkE := fun x => match x with | .Subscript x y _ => a x && b y | _ => false
def kOpt (nul : Bool) (a : CkE) : Option Expr → Bool := fun x => match x with | none => nul | some y => !nul && a y
def kSlc (a : CkE) (l h : Option Expr → Bool) : CkE := fun x => match x with | .Subscript x (.Slice lo hi none _) _ => a x && l lo && h hi | _ => false
def kRev (a : CkE) : CkE := fun x => match x with | .Subscript x (.Slice none none (some (.UnaryOp .USub (.Constant (.int 1) _ _) _)) _) _ => a x | _ => false
def kCall (sc : Scope) (n : Str) (as : CkS) : CkE := fun x => match x with | .Call (.Name x _) xs [] _ => decide (n = x) && glB sc x && as xs | _ => false
def kMeth (m : Str) (a : CkE) (as : CkS) : CkE := fun x => match x with | .Call (.Attribute x m' ap) xs [] cp => decide (m = m') && headA x && (ap.endLine == cp.line) && a x && as xs | _ => false
def kLens (sc : Scope) (a : CkE) : CkE := fun x => match x with | .Call (.Name x _) [.Call (.Name y _) [z] [] _] [] _ => decide (x = "len") && glB sc x && decide (y = "set") && glB sc y && a z | _ => false
def kFld (f : Str) (a : CkE) : CkE := fun x => match x with | .Attribute x g _ => decide (f = g) && headA x && a x | _ => false
def kIsi (sc : Scope) (ty : Str) (a : CkE) : CkE := fun x => match x with | .Call (.Name x _) [y, .Name z _] [] _ => decide (x = "isinstance") && glB sc x && a y && decide (ty = z) && glB sc z | _ => false
/-- what is walked -/
def kIt (sc : Scope) (k : IK) (tup : Bool) (n : Nat) (as : CkS) : CkE := fun x => match k with
  | .val => as [x] && n == 1
  | .enum => kCall sc "enumerate" as x && tup && n == 1
  | .zip2 => kCall sc "zip" as x && tup && n == 2
  | .rng1 => kCall sc "range" as x && n == 1
  | .rng2 => kCall sc "range" as x && n == 2
  | _ => false
def kOne (a : CkE) : CkS := fun xs => match xs with | [y] => a y | _ => false
def kIfs (nul : Bool) (a : CkE) : CkS := fun xs => match xs with | [] => nul | [y] => !nul && a y | _ => false
def kLc (N : List Str) (sc : Scope) (own : List Nat) (it : CkE) (tg : Scope → CkE) (e : Scope → CkE) (c : Scope → CkS) : CkE := fun x => match x with
  | .ListComp elt [⟨tgt, iter, ifs, 0⟩] scope _ => it iter && blkC N sc scope (own.map fun i => (N.getD i Str.empty, i)) && tg scope tgt && e scope elt && c scope ifs
  | _ => false
def BI.okB : BI → Bool
  | .sorted => false
  | .set => false
  | .lenset => false
  | _ => true
def ownTy : Ty → Bool
  | .cls _ => true
  | .verr => true
  | _ => false
/-- a type's name; the types that are served -/
def Pn.tyn (P : Pn) : Ty → Str
  | .cls c => P.cls c
  | ty => ty.nm
/-- how many arguments an error takes -/
def Pn.xar (P : Pn) (c n : Nat) : Bool := P.hasX c && match P.xd c with
  | none => n == 1
  | some x => n == x.n && n != 0
def Pn.tyB (P : Pn) : Ty → Bool
  | .cls c => P.hasX c
  | _ => true
def cellB (scope : Scope) : Str → Bool := fun x => scope.names.lookup x == some .cell
def kCons (a : CkE) (as : CkS) : CkS := fun xs => match xs with | x :: xs => a x && as xs | [] => false
/-- a part of an f-string -/
def kFmt (a : CkE) : CkE := fun x => match x with | .FormattedValue y c none _ => decide (c = -1) && a y | _ => false
def kPart (e : E) (a : CkE) : CkE := fun x => match e with | .str z => kStr z x | _ => kFmt a x
def kFst (as : CkS) : CkE := fun x => match x with | .JoinedStr xs _ => as xs && decide (2 ≤ xs.length) | _ => false
mutual
def chk (P : Pn) (N : List Str) : E → Scope → Expr → Bool
  | .nul, _, _ => false
  | .non, _, x => kNon x
  | .bl b, _, x => kBl b x
  | .int i, _, x => kInt i x
  | .str z, _, x => kStr z x
  | .var i, sc, x => kVar N sc i x
  | .con i, sc, x => kCon sc (P.con i) x
  | .bin o a b, sc, x => kBin o.py (chk P N a sc) (chk P N b sc) x
  | .neg a, sc, x => kUn .USub (chk P N a sc) x
  | .cmp o a b, sc, x => kCmp o.py (chk P N a sc) (chk P N b sc) x
  | .chn o p a b c, sc, x => kChn o.py p.py (chk P N a sc) (chk P N b sc) (chk P N c sc) x
  | .chn3 _ _ _ _ _ _ _, _, _ => false
  | .isn a, sc, x => kIsn (chk P N a sc) x
  | .notn a, sc, x => kNotn (chk P N a sc) x
  | .and es, sc, x => kBoo .And (chks P N es sc) x && !es.isEmpty
  | .or es, sc, x => kBoo .Or (chks P N es sc) x && !es.isEmpty
  | .not a, sc, x => kUn .Not (chk P N a sc) x
  | .ite c a b, sc, x => kIte (chk P N c sc) (chk P N a sc) (chk P N b sc) x
  | .tup es, sc, x => kTup (chks P N es sc) x
  | .lst es, sc, x => kLst (chks P N es sc) x
  | .mut a, sc, x => chk P N a sc x && a.fresh
  | .dct es, _, x => kDct x && es.isEmpty
  | .idx a i, sc, x => kIdx (chk P N a sc) (chk P N i sc) x
  | .slc a lo hi, sc, x => kSlc (chk P N a sc) (kOpt lo.nulB (chk P N lo sc)) (kOpt hi.nulB (chk P N hi sc)) x
  | .rev a, sc, x => kRev (chk P N a sc) x
  | .fld c a f, sc, x => kFld (P.fld f) (chk P N a sc) x && P.hasF c f
  | .xnew c es, sc, x => kCall sc (P.cls c) (chks P N es sc) x && P.xar c es.length
  | .xfld a f, sc, x => kFld (P.fld f) (chk P N a sc) x
  | .call f es, sc, x => kCall sc (P.fn f) (chks P N es sc) x && P.has f
  | .mth c a f es, sc, x => kMeth (P.mth f) (chk P N a sc) (chks P N es sc) x && P.hasM c f && decide (es.length < 30)
  | .new c f es, sc, x => kCall sc (P.cls c) (chks P N es sc) x && P.hasI c f
  | .bad, _, x => headOk x
  | .bi b es, sc, x => kCall sc b.nm (chks P N es sc) x && !es.isEmpty && b.okB
  | .bm m a es, sc, x => kMeth m.nm (chk P N a sc) (chks P N es sc) x && es.length == m.ar && m.okB a
  | .isi a ty, sc, x => kIsi sc (P.tyn ty) (chk P N a sc) x && P.tyB ty
  | .fst es, sc, x => kFst (chkF P N es sc) x
  | .lc own t k its c e, sc, x => kLc N sc own (kIt sc k t.isTup its.length (chks P N its sc)) (fun scope => chkT N (relS scope sc) (cellB scope) t) (fun scope => chk P N e (relS scope sc)) (fun scope => kIfs c.nulB (chk P N c (relS scope sc))) x && t.vars.all fun i => own.contains i
  | .app a e, sc, x => kMeth "append" (chk P N a sc) (kOne (chk P N e sc)) x
  | .ext a e, sc, x => kMeth "extend" (chk P N a sc) (kOne (chk P N e sc)) x
  | .pop a, sc, x => kMeth "pop" (chk P N a sc) (fun xs => xs.isEmpty) x
  | .lens a, sc, x => kLens sc (chk P N a sc) x
  | .popi a i, sc, x => kMeth "pop" (chk P N a sc) (kOne (chk P N i sc)) x
def chks (P : Pn) (N : List Str) : List E → Scope → List Expr → Bool
  | [], _, xs => xs.isEmpty
  | e :: es, sc, xs => kCons (chk P N e sc) (chks P N es sc) xs
def chkF (P : Pn) (N : List Str) : List E → Scope → List Expr → Bool
  | [], _, xs => xs.isEmpty
  | e :: es, sc, xs => kCons (kPart e (chk P N e sc)) (chkF P N es sc) xs
end
end Cip

set_option maxHeartbeats 4000000
/-! CipX4: what an error's __init__ promises. -/
namespace Cip
open PySem PySem.Spec PyProof.Rows L2

/-- the error at a is given its fields -/
def spX (T : Rz) (x : XD) (C : Addr) : Sp := fun vs H Q _ => vs.length = x.n + 1 ∧ ∃ (a : Addr) (ws : List V) (φ : Fi) (ds : List D) (st : Store) (fs : List (Nat × D)), vs = .ref a :: ws ∧ H a = some (exo a C none) ∧ a ∉ φ.ref ∧ Rel T φ H st ∧ Reps T.K φ H ds ws ∧ exfX x ds = some fs ∧
  ∀ (φ' : Fi) (H' : Hp) (dx : Addr) (gs : List (Str × V)), Rel T φ' H' st → Ext φ H φ' H' → H' a = some (exo a C none) → H' dx = none → dx ≠ a → gs.map (·.1) = fs.map (fun p => T.fnm p.1) → Reps T.K φ' H' (fs.map (·.2)) (gs.map (·.2)) →
    Q .non (upd (upd H' a (exo a C (some dx))) dx (exd dx gs))
/-- what stands of an error class with its __init__ -/
structure XinOk (Pr : Program) (w : World) (K : PySem.W.Frag) (mg : Str → Option Value) (base : Heap) (k : Nat) (t : Nm) (x : XD) (c : Nat) : Prop where
  oc : OexC K (t.cls c)
  ne : x.fs ≠ []
  n1 : x.n ≤ 1000
  ini : ∃ (fI : Addr) (fd : FuncData) (ps : List Str), PySem.W.findIn K (.ref (t.cls c)) "__init__" = some (some (.ref fI)) ∧ PySem.W.typeIn K (.ref fI) = some (.type "function") ∧ Binds K fd ps [] ∧ FnG Pr w K mg base k fI fd ps (spX ⟨K, t.cls, t.fnm⟩ x (t.cls c))

/-! ### a and dx change, no value leads there -/
section
variable {K : PySem.W.Frag} {T : Rz} {φ : Fi} {H H' : Hp} {a : Addr} {st : Store}
structure AltX (H H' : Hp) (a : Addr) : Prop where
  keep : ∀ b o, b ≠ a → H b = some o → H' b = some o
  ext : ∃ (e C : Addr) (d : Option Addr), H a = some (exo e C d)
theorem AltX.at_ (h : AltX H H' a) {b : Addr} {o : HO} (e : H b = some o) (hn : ∀ (e C : Addr) (d : Option Addr), exo e C d ≠ o) : H' b = some o :=
  h.keep b o (fun z => by
    obtain ⟨e', C, d, q⟩ := h.ext
    rw [z, q] at e
    exact hn _ _ _ (Option.some.inj e)) e
theorem AltX.rd (h : AltX H H' a) {b : Addr} {o : HO} (hn : ∀ (e C : Addr) (d : Option Addr), exo e C d ≠ o) (e : Rd H b o) : Rd H' b o := by
  rcases e with e | ⟨ob, e⟩
  · exact .inl (h.at_ e hn)
  · exact .inr ⟨ob, h.at_ e fun _ _ _ => exo_frz⟩
theorem exo_lst {e C : Addr} {d : Option Addr} {xs : List V} : exo e C d ≠ .lst xs := fun z => by
  have z' : HO.ext _ = HO.lst xs := z
  cases z'
theorem exo_dK {e C : Addr} {d : Option Addr} {xs : List (Key × V)} : exo e C d ≠ .dK xs := fun z => by
  have z' : HO.ext _ = HO.dK xs := z
  cases z'
theorem exo_xd {e C : Addr} {d : Option Addr} {xs : List (Str × V)} : exo e C d ≠ .xd xs := fun z => by
  have z' : HO.ext _ = HO.xd xs := z
  cases z'
theorem AltX.sqt (h : AltX H H' a) {b : Addr} {vs : List V} (e : SqT K H b vs) : SqT K H' b vs := e.elim (fun e => .inl (h.rd (fun _ _ _ => exo_tup) e)) .inr
theorem AltX.sqf (h : AltX H H' a) {b : Addr} {vs : List V} (e : SqF K φ H b vs) : SqF K φ H' b vs := e.elim (fun e => .inl ⟨h.rd (fun _ _ _ => exo_lst) e.1, e.2⟩) .inr
mutual
theorem Rep.altX (h : AltX H H' a) : ∀ (d : D) (v : V), Rep K φ H d v → Rep K φ H' d v
  | .non, _, q => q
  | .bl _, _, q => q
  | .int _, _, q => q
  | .str _, _, q => q
  | .tup xs, _, ⟨b, vs, h1, h2, h3, h4⟩ => ⟨b, vs, h1, h.sqt h2, h3, Reps.altX h xs vs h4⟩
  | .lst xs, _, ⟨b, vs, h1, h2, h3, h4, h5⟩ => ⟨b, vs, h1, h.at_ h2 fun _ _ _ => exo_lst, h3, h4, Reps.altX h xs vs h5⟩
  | .scr xs, _, ⟨b, vs, h1, h2, h4, h5⟩ => ⟨b, vs, h1, h.sqf h2, h4, Reps.altX h xs vs h5⟩
  | .dct ks ws, _, ⟨b, kvs, h1, h2, h3, h4, h5⟩ => ⟨b, kvs, h1, h.at_ h2 fun _ _ _ => exo_dK, h3, h4, Reps.altX h ws _ h5⟩
  | .ref k, _, q => q
theorem Reps.altX (h : AltX H H' a) : ∀ (ds : List D) (vs : List V), Reps K φ H ds vs → Reps K φ H' ds vs
  | [], _, q => q
  | x :: xs, _, ⟨v, r, h1, h2, h3⟩ => ⟨v, r, h1, Rep.altX h x v h2, Reps.altX h xs r h3⟩
end
theorem XF.altX (h : AltX H H' a) {fs : List (Nat × D)} {d : Option Addr} (x : XF T φ H fs d) : XF T φ H' fs d := ⟨x.1, fun hn => by
  obtain ⟨dd, gs, h1, h2, h3, h4, h5⟩ := x.2 hn
  exact ⟨dd, gs, h1, h.at_ h2 fun _ _ _ => exo_xd, h3, h4, Reps.altX h _ _ h5⟩⟩
theorem ORel.altX (h : AltX H H' a) {o : MO} {b : Addr} (hb : b ≠ a) (q : ORel T φ H o b) : ORel T φ H' o b := by
  cases o with
  | lst _ => obtain ⟨vs, h1, h2, h3⟩ := q; exact ⟨vs, h.keep _ _ hb h1, h2, Reps.altX h _ _ h3⟩
  | dct lk _ _ =>
    obtain ⟨kvs, h1, h2, h3⟩ := q
    refine ⟨kvs, ?_, h2, Reps.altX h _ _ h3⟩
    cases lk with
    | true =>
      simp only [if_true] at h1 ⊢
      obtain ⟨o, h1⟩ := h1
      exact ⟨o, h.keep _ _ hb h1⟩
    | false =>
      simp only [Bool.false_eq_true, if_false] at h1 ⊢
      exact h.keep _ _ hb h1
  | ins _ _ => obtain ⟨dx, gs, h1, h2, h3⟩ := q; exact ⟨dx, gs, h.keep _ _ hb h1, h2, Reps.altX h _ _ h3⟩
  | exc _ _ => obtain ⟨d, h1, h2⟩ := q; exact ⟨d, h.keep _ _ hb h1, h2.altX h⟩
theorem Rel.altX (h : AltX H H' a) (r : Rel T φ H st) (na : a ∉ φ.ref) : Rel T φ H' st :=
  ⟨r.len, r.nd, fun k o e => by
    obtain ⟨b, h1, h2⟩ := r.at_ k o e
    exact ⟨b, h1, h2.altX h fun z => na (by rw [← z]; exact List.mem_of_getElem? h1)⟩, fun b hb => by
    obtain ⟨h1, xs, h2⟩ := r.hid b hb
    exact ⟨h1, xs, h.at_ h2 fun _ _ _ => exo_lst⟩⟩
end
end Cip

set_option maxHeartbeats 4000000
/-! Cip9: an expression's text does what the small language says: the simple forms. -/
namespace Cip
open PySem PySem.Spec PyProof.Rows L2

/-- the built-in names that our texts use -/
def bltNames : List Str := ["len", "abs", "int", "str", "repr", "sum", "all", "any", "max", "min", "tuple", "list", "sorted", "set", "isinstance", "bool", "dict", "range", "enumerate", "zip", "ValueError"]
/-- the fields' names -/
structure NmOk (P : Pn) (t : Nm) (K : PySem.W.Frag) : Prop where
  inj : ∀ f g, t.fnm f = t.fnm g → f = g
  fld : ∀ c f, P.hasF c f = true → Cls K (t.cls c) ∧ NoAttr K (t.cls c) (t.fnm f) ∧ t.fnm f = P.fld f
/-- an error class -/
structure XcOk (K : PySem.W.Frag) (mg : Str → Option Value) (x : Str) (C : Addr) : Prop where
  glo : mg x = some (.ref C)
  kp : PySem.W.keepIn K (.ref C) = true
  ty : PySem.W.typeIn K (.ref C) = some (.type "type")
  cc : ExcC K C
/-- what the top has left, for our texts -/
structure TopOk (Γ : Tx) (P : Pn) (t : Nm) (K : PySem.W.Frag) (mg : Str → Option Value) : Prop where
  con : ∀ i d, Γ.con i = some d → ∃ v u, mg (P.con i) = some u ∧ RelV v u ∧ d.isL = false ∧ (∀ φ H, Rep K φ H d v) ∧ ∀ ds, d = .tup ds → ∃ a o, v = .ref a ∧ K.lookup a = some o ∧ o.cls = .type "tuple" ∧ o.dict = none
  blt : ∀ x ∈ bltNames, mg x = none
  nm : NmOk P t K
  exc : ∀ c, P.hasX c = true → XcOk K mg (P.cls c) (t.cls c)
  sub : ∀ c c' b, Γ.sub c c' = some b → P.hasX c = true ∧ P.hasX c' = true ∧ PySem.W.exmOne K (.ref (t.cls c)) (.ref (t.cls c')) = some b ∧ PySem.W.kitOne K (.ref (t.cls c)) (.ref (t.cls c')) = some b
  exf : ∀ c ds fs, Γ.exf c ds = some fs → P.hasX c = true ∧ ((P.xd c = none ∧ fs = [] ∧ ∃ d, ds = [d]) ∨ ∃ x, P.xd c = some x ∧ exfX x ds = some fs)
  exn : ∀ c, P.hasX c = true → P.xd c = none → PySem.W.excIn K (t.cls c) He.veBase "ValueError.__new__" = true
  ve : ∀ c b, Γ.ve c = some b → P.hasX c = true ∧ PySem.W.kitOne K (.ref (t.cls c)) (.type "ValueError") = some b
  xfl : ∀ c f, Γ.xfl c f = true → P.hasX c = true ∧ NoAttr K (t.cls c) (t.fnm f) ∧ t.fnm f = P.fld f
/-- where a def's promise holds -/
def FnsOk (cf : CF) (P : Pn) (t : Nm) (k : Nat) (Pr : Program) (w : World) (K : PySem.W.Frag) (mg : Str → Option Value) (base : Heap) (f : Nat) (at_ : Addr → Prop) : Prop :=
  ∃ a fd ps, at_ a ∧ Binds K fd ps [] ∧ (∀ ds st, ds.length ≠ ps.length → cf f ds st = .stk) ∧ FnG Pr w K mg base k a fd ps (spOf K t cf f ps.length)
structure Fns (cf : CF) (P : Pn) (t : Nm) (k : Nat) (Pr : Program) (w : World) (K : PySem.W.Frag) (mg : Str → Option Value) (base : Heap) : Prop where
  fn : ∀ f, P.has f = true → FnsOk cf P t k Pr w K mg base f fun a => mg (P.fn f) = some (.ref a) ∧ PySem.W.keepIn K (.ref a) = true
  mth : ∀ c f, P.hasM c f = true → FnsOk cf P t k Pr w K mg base f fun a => Cls K (t.cls c) ∧ Meth K (t.cls c) (P.mth f) a ∧ ∀ g, t.fnm g ≠ P.mth f
  xin : ∀ c x, P.hasX c = true → P.xd c = some x → XinOk Pr w K mg base k t x c
  ini : ∀ c f, P.hasI c f = true → FnsOk cf P t k Pr w K mg base f fun a => mg (P.cls c) = some (.ref (t.cls c)) ∧ Mk K (t.cls c) a
structure Good (Γ : Tx) (cf : CF) (P : Pn) (t : Nm) (k : Nat) (X : Cx) (W : WX) : Prop where
  calm : X.calm = true
  nd : X.N.Nodup
  grd : X.A.guards = some []
  room : Room (k + 1) X.A
  tk : Takes X W
  top : TopOk Γ P t X.K X.mg
  fns : Fns cf P t k X.prog X.w X.K X.mg X.base

section
variable {Γ : Tx} {cf : CF} {P : Pn} {t : Nm} {k : Nat}
/-- the reading of an expression, a test, arguments -/
def tI (Γ : Tx) (cf : CF) (T : Rz) (W : WX) (e : E) : TE := fun σ H Q => ∃ φ env st, Rel T φ H st ∧ EnvR T φ H σ env ∧ OutG T (repD T e.fresh) W φ H σ (ev Γ cf e env st) Q
def tT (Γ : Tx) (cf : CF) (T : Rz) (W : WX) (e : E) : TT := fun σ H Q => ∃ φ env st, Rel T φ H st ∧ EnvR T φ H σ env ∧ OutG T repB W φ H σ (testR (ev Γ cf e env st)) Q
def tIs (Γ : Tx) (cf : CF) (T : Rz) (W : WX) (es : List E) : TA := fun σ H Q => ∃ φ env st, Rel T φ H st ∧ EnvR T φ H σ env ∧ OutG T (repS T) W φ H σ (evs Γ cf es env st) Q
theorem pe_imp {X : Cx} {x : Expr} {t u : TE} (h : PE X x t) (hi : ∀ σ H Q, u σ H Q → t σ H Q) : PE X x u := ⟨fun pins s σ H Q I q => h.run pins s σ H Q I (hi σ H Q q)⟩
theorem pt_imp {X : Cx} {x : Expr} {t u : TT} (h : PT X x t) (hi : ∀ σ H Q, u σ H Q → t σ H Q) : PT X x u := ⟨fun pins s σ H Q I q => h.run pins s σ H Q I (hi σ H Q q)⟩
theorem pa_imp {X : Cx} {x : List Expr} {t u : TA} (h : PA X x t) (hi : ∀ σ H Q, u σ H Q → t σ H Q) : PA X x u := ⟨fun pos pins s σ H Q I q => h.run pos pins s σ H Q I (hi σ H Q q)⟩
/-- what is shown of an expression -/
def Snd (Γ : Tx) (cf : CF) (P : Pn) (t : Nm) (k : Nat) (e : E) : Prop := ∀ (X : Cx) (W : WX) (x : Expr), Good Γ cf P t k X W → chk P X.N e X.env.scope x = true → PE X x (tI Γ cf (rz X t) W e) ∧ headOk x = true
def SndT (Γ : Tx) (cf : CF) (P : Pn) (t : Nm) (k : Nat) (e : E) : Prop := ∀ (X : Cx) (W : WX) (x : Expr), Good Γ cf P t k X W → chk P X.N e X.env.scope x = true → PT X x (tT Γ cf (rz X t) W e)
def SndS (Γ : Tx) (cf : CF) (P : Pn) (t : Nm) (k : Nat) (es : List E) : Prop := ∀ (X : Cx) (W : WX) (xs : List Expr), Good Γ cf P t k X W → chks P X.N es X.env.scope xs = true → PA X xs (tIs Γ cf (rz X t) W es)

theorem Good.hu {X : Cx} {W : WX} (G : Good Γ cf P t k X W) : X.A.units + 110 < cLine := by have := G.room.un; omega
theorem Good.glob {X : Cx} {W : WX} (_ : Good Γ cf P t k X W) {x : Str} (h : glB X.env.scope x = true) : Gl X x := by
  unfold glB at h
  rw [Bool.and_eq_true] at h
  exact kindB_ok h.1
theorem glB_nm {sc : Scope} {x : Str} (h : glB sc x = true) : nm0 x = true := by
  unfold glB at h
  rw [Bool.and_eq_true] at h
  exact h.2

/-! ### constants and names -/
/-- a value that needs nothing -/
theorem out_ok {T : Rz} {W : WX} {φ : Fi} {H : Hp} {σ : L2.St} {st : Store} {d : D} {v : V} {fr : Bool} {Q : VK} (r : Rel T φ H st) (h : OutG T (repD T fr) W φ H σ (.ok d st) Q) (hd : Rep T.K φ H d v) (hn : d.isL = false ∨ fr = false) : Q v H :=
  h φ H v r .refl ⟨hd, fun z l => by rcases hn with hn | hn <;> simp_all⟩
theorem snd_non : Snd Γ cf P t k .non := by
  intro X W x G h
  simp only [chk, kNon] at h
  split at h
  · exact ⟨pe_imp pe_non fun σ H Q ⟨φ, env, st, r, E, o⟩ => out_ok (v := .non) r o rfl (.inl rfl), rfl⟩
  · cases h
theorem snd_bl {b : Bool} : Snd Γ cf P t k (.bl b) := by
  intro X W x G h
  simp only [chk, kBl] at h
  split at h
  · rename_i c _ _
    rw [beq_iff_eq] at h
    subst h
    exact ⟨pe_imp pe_bl fun σ H Q ⟨φ, env, st, r, E, o⟩ => out_ok (v := .bl b) r o rfl (.inl rfl), rfl⟩
  · cases h
theorem snd_int {i : Int} : Snd Γ cf P t k (.int i) := by
  intro X W x G h
  simp only [chk, kInt] at h
  split at h
  · rename_i c _ _
    have h := of_decide_eq_true h
    subst h
    exact ⟨pe_imp pe_int fun σ H Q ⟨φ, env, st, r, E, o⟩ => out_ok (v := .int i) r o rfl (.inl rfl), rfl⟩
  · cases h
theorem snd_str {z : Str} : Snd Γ cf P t k (.str z) := by
  intro X W x G h
  simp only [chk, kStr] at h
  split at h
  · rename_i c _ _
    rw [Bool.and_eq_true] at h
    have h1 := of_decide_eq_true h.1
    have h2 := of_decide_eq_true h.2
    subst h1
    exact ⟨pe_imp pe_str fun σ H Q ⟨φ, env, st, r, E, o⟩ => out_ok (v := .str z) r o ⟨rfl, h2⟩ (.inl rfl), rfl⟩
  · cases h
theorem snd_var {i : Nat} : Snd Γ cf P t k (.var i) := by
  intro X W x G h
  simp only [chk, kVar] at h
  split at h
  · rename_i y pos
    rw [Bool.and_eq_true, Bool.and_eq_true] at h
    refine ⟨pe_imp (pe_var (i := i) (of_decide_eq_true h.1.1) (visB_ok h.1.2) (nm0_d h.2) (nm0_c h.2)) fun σ H Q ⟨φ, env, st, r, E, o⟩ => ?_, rfl⟩
    simp only [ev] at o
    split at o
    · rename_i d hd
      obtain ⟨v, h1, h2⟩ := E.get i d hd
      exact ⟨v, h1, out_ok r o h2 (.inr rfl)⟩
    · exact o.elim
  · cases h
theorem snd_con {i : Nat} : Snd Γ cf P t k (.con i) := by
  intro X W x G h
  simp only [chk, kCon] at h
  split at h
  · rename_i y pos
    rw [Bool.and_eq_true] at h
    have hn := of_decide_eq_true h.1
    subst hn
    refine ⟨?_, rfl⟩
    cases q : Γ.con i with
    | none =>
      refine ⟨fun pins s σ H Q I ⟨φ, env, st, r, E, o⟩ => ?_⟩
      simp only [ev, q] at o
      exact o.elim
    | some d =>
      obtain ⟨v, u, h1, h2, h3, h4⟩ := G.top.con i d q
      refine pe_imp (pe_glob (v := v) (G.glob h.2) h1 h2 (nm0_d (glB_nm h.2))) fun σ H Q ⟨φ, env, st, r, E, o⟩ => ?_
      simp only [ev, q] at o
      exact out_ok r o (h4.1 φ H) (.inl h3)
  · cases h

/-! ### one step, two -/
/-- behind a: what follows, at the store that it left -/
theorem tI_then {α β : Type} {X : Cx} {W : WX} {rep : RepT α β} {a : E} {φ : Fi} {H : Hp} {σ : L2.St} {env : Env} {st : Store} {kk : D → Store → R α} {Q : β → Hp → Prop} (r : Rel (rz X t) φ H st) (E0 : EnvR (rz X t) φ H σ env)
    (sh : Shift (rz X t) rep) (o : OutG (rz X t) rep W φ H σ ((ev Γ cf a env st).bind kk) Q) {Q' : V → Hp → Prop}
    (hq : ∀ v H1 φ1 st1 d, Rel (rz X t) φ1 H1 st1 → Ext φ H φ1 H1 → EnvR (rz X t) φ1 H1 σ env → repD (rz X t) a.fresh H φ1 H1 st1 d v → OutG (rz X t) rep W φ1 H1 σ (kk d st1) Q → Q' v H1) : tI Γ cf (rz X t) W a σ H Q' :=
  ⟨φ, env, st, r, E0, (OutG.bind (rep1 := repD (rz X t) a.fresh) r sh o).imp fun v H1 ⟨φ1, st1, d, r1, e1, p1, o1⟩ => hq v H1 φ1 st1 d r1 e1 (E0.ext r e1) p1 o1⟩
theorem snd_op2 {a b : E} {e : E} {f : Store → D → D → Option D} {X : Cx} {W : WX} {z : Expr} (hev : ∀ env st, ev Γ cf e env st = (ev Γ cf a env st).bind fun x st => (ev Γ cf b env st).bind fun y st => .of (f st x y) st)
    (hz : PE X z (tOp (rOO (rz X t) e.fresh f) (tI Γ cf (rz X t) W a) (tI Γ cf (rz X t) W b))) : PE X z (tI Γ cf (rz X t) W e) := by
  refine pe_imp hz fun σ H Q ⟨φ, env, st, r, E, o⟩ => ?_
  rw [hev] at o
  exact tI_then r E shD o fun v H1 φ1 st1 d r1 e1 E1 p1 o1 => tI_then r1 E1 shD o1 fun w H2 φ2 st2 d2 r2 e2 E2 p2 o2 =>
    ⟨φ2, st2, d, d2, r2, r1.rep e2 p1.1, p2.1, o2.of⟩
theorem snd_bin {o : BOp} {a b : E} (ha : Snd Γ cf P t k a) (hb : Snd Γ cf P t k b) : Snd Γ cf P t k (.bin o a b) := by
  intro X W x G h
  simp only [chk, kBin] at h
  split at h
  · rename_i x op y pos
    simp only [Bool.and_eq_true] at h
    have h1 := of_decide_eq_true h.1.1
    subst h1
    exact ⟨snd_op2 (fun env st => by simp only [ev]) (pe_op (opr_bin o) (ha X W x G h.1.2).1 (hb X W y G h.2).1), rfl⟩
  · cases h
theorem snd_cmp {o : COp} {a b : E} (ha : Snd Γ cf P t k a) (hb : Snd Γ cf P t k b) : Snd Γ cf P t k (.cmp o a b) := by
  intro X W x G h
  simp only [chk, kCmp] at h
  split at h
  · rename_i x op y pos
    simp only [Bool.and_eq_true] at h
    have h1 := of_decide_eq_true h.1.1
    subst h1
    obtain ⟨hb1, hb2⟩ := hb X W y G h.2
    exact ⟨snd_op2 (fun env st => by simp only [ev]) (pe_cmpR (opr_cmp G.hu o) (ha X W x G h.1.2).1 hb1 (head_marks hb2)), rfl⟩
  · cases h
end
end Cip

set_option maxHeartbeats 4000000
/-! Cip10: tests, lists of expressions, displays, conditions. -/
namespace Cip
open PySem PySem.Spec PyProof.Rows L2

section
variable {Γ : Tx} {cf : CF} {P : Pn} {t : Nm} {k : Nat}
/-! ### tests -/
/-- a test that is its value's truth -/
def headV : Expr → Bool
  | .BoolOp _ _ _ => false
  | .UnaryOp .Not _ _ => false
  | .IfExp _ _ _ _ => false
  | .Compare _ _ _ _ => false
  | _ => true
theorem headV_ok {x : Expr} {env : PySem.Env} (h : headV x = true) (whole : Sem Value) : isTrue x env whole = (do let v ← whole; standAt x.pos; holding [v] (truthy v)) := by
  cases x <;> first | rfl | cases h | skip
  rename_i op a pos
  cases op <;> first | rfl | cases h
/-- a value's test, from its reading -/
theorem tT_tI {X : Cx} {W : WX} {e : E} {σ : L2.St} {H : Hp} {Q : Bool → Hp → Prop} (h : tT Γ cf (rz X t) W e σ H Q) : tI Γ cf (rz X t) W e σ H fun v H1 => ∃ c, v = .bl c ∧ Q c H1 := by
  obtain ⟨φ, env, st, r, E, o⟩ := h
  refine tI_then r E shB o fun v H1 φ1 st1 d r1 e1 E1 p1 o1 => ?_
  cases d with
  | bl b => exact ⟨b, p1.1, o1 φ1 H1 b r1 .refl rfl⟩
  | _ => exact o1.elim
theorem sndT_of {e : E} (h : Snd Γ cf P t k e) (hv : ∀ (N : List Str) (sc : Scope) (x : Expr), chk P N e sc x = true → headV x = true) : SndT Γ cf P t k e := by
  intro X W x G hc
  exact pt_imp (pt_val (h X W x G hc).1 (headV_ok (hv _ _ _ hc))) fun σ H Q q => tT_tI q
theorem sndT_cmp {o : COp} {a b : E} (ha : Snd Γ cf P t k a) (hb : Snd Γ cf P t k b) : SndT Γ cf P t k (.cmp o a b) := by
  intro X W x G h
  simp only [chk, kCmp] at h
  split at h
  · rename_i x op y pos
    simp only [Bool.and_eq_true] at h
    have h1 := of_decide_eq_true h.1.1
    subst h1
    obtain ⟨hb1, hb2⟩ := hb X W y G h.2
    refine pt_imp (pt_cmpR (opr_cmp (t := t) (fr := false) G.hu o) (ha X W x G h.1.2).1 hb1 (head_marks hb2)) fun σ H Q q => ?_
    obtain ⟨φ, env, st, r, E, o⟩ := tT_tI q
    simp only [ev] at o
    exact tI_then r E shD o fun v H1 φ1 st1 d r1 e1 E1 p1 o1 => tI_then r1 E1 shD o1 fun w H2 φ2 st2 d2 r2 e2 E2 p2 o2 =>
      ⟨φ2, st2, d, d2, r2, r1.rep e2 p1.1, p2.1, o2.of⟩
  · cases h
/-- the chain's two links -/
theorem tI_chn {X : Cx} {W : WX} {o p : COp} {a b c : E} {σ : L2.St} {H : Hp} {Q : VK} (h : tI Γ cf (rz X t) W (.chn o p a b c) σ H Q) :
    tChain (rOO (rz X t) false fun st a b => (cmpD st o a b).map .bl) (fun y w H Q => ∃ φ st d e, Rel (rz X t) φ H st ∧ Rep X.K φ H d y ∧ Rep X.K φ H e w ∧ OutO (rz X t) false φ H st ((cmpD st p d e).map .bl) Q)
      (tI Γ cf (rz X t) W a) (tI Γ cf (rz X t) W b) (tI Γ cf (rz X t) W c) σ H Q := by
  obtain ⟨φ, env, st, r, E, o0⟩ := h
  simp only [ev] at o0
  refine tI_then r E shD o0 fun v H1 φ1 st1 d r1 e1 E1 p1 o1 => tI_then r1 E1 shD o1 fun w H2 φ2 st2 d2 r2 e2 E2 p2 o2 => ?_
  refine ⟨φ2, st2, d, d2, r2, r1.rep e2 p1.1, p2.1, ?_⟩
  cases q : cmpD st2 o d d2 with
  | none => rw [q] at o2; exact o2.elim
  | some bb =>
    rw [q] at o2
    show OutO (rz X t) false φ2 H2 st2 ((cmpD st2 o d d2).map .bl) _
    rw [q]
    intro H3 z r3 e3 p3
    have hz : z = .bl bb := p3.1
    refine ⟨bb, hz, ?_⟩
    cases bb with
    | false =>
      rw [if_neg (by simp)]
      exact o2 φ2 H3 (.bl false) r3 e3 ⟨rfl, fun _ z => by cases z⟩
    | true =>
      rw [if_pos rfl]
      have o3 : OutG (rz X t) (repD (rz X t) false) W φ2 H2 σ ((ev Γ cf c env st2).bind fun z st => .of ((cmpD st p d2 z).map .bl) st) Q := o2
      have E3 := E2.ext r2 e3
      refine ⟨φ2, env, st2, r3, E3, ?_⟩
      have o4 := OutG.shift shD r2 e3 r3 o3
      exact (OutG.bind (rep1 := repD (rz X t) c.fresh) r3 shD o4).imp fun v5 H5 ⟨φ5, st5, d5, r5, e5, p5, o5⟩ => ⟨φ5, st5, d2, d5, r5, r3.rep e5 (r2.rep e3 p2.1), p5.1, o5.of⟩
theorem snd_chn {o p : COp} {a b c : E} (ha : Snd Γ cf P t k a) (hb : Snd Γ cf P t k b) (hc : Snd Γ cf P t k c) : Snd Γ cf P t k (.chn o p a b c) ∧ SndT Γ cf P t k (.chn o p a b c) := by
  constructor
  · intro X W x G h
    simp only [chk, kChn] at h
    split at h
    · rename_i x op op' y z pos
      simp only [Bool.and_eq_true] at h
      have h1 := of_decide_eq_true h.1.1.1.1
      have h2 := of_decide_eq_true h.1.1.1.2
      subst h1 h2
      obtain ⟨hc1, hc2⟩ := hc X W z G h.2
      obtain ⟨hb1, hb2⟩ := hb X W y G h.1.2
      exact ⟨pe_imp (pe_chain (opr_cmp (t := t) (fr := false) G.hu o) (opr_cmp (t := t) (fr := false) G.hu p) (ha X W x G h.1.1.2).1 hb1 hc1 (by show behindInMarks _ z = false; exact head_marks hc2)) fun σ H Q q => tI_chn q, rfl⟩
    · cases h
  · intro X W x G h
    simp only [chk, kChn] at h
    split at h
    · rename_i x op op' y z pos
      simp only [Bool.and_eq_true] at h
      have h1 := of_decide_eq_true h.1.1.1.1
      have h2 := of_decide_eq_true h.1.1.1.2
      subst h1 h2
      obtain ⟨hc1, hc2⟩ := hc X W z G h.2
      obtain ⟨hb1, hb2⟩ := hb X W y G h.1.2
      exact pt_imp (pt_chain (opr_cmp (t := t) (fr := false) G.hu o) (opr_cmp (t := t) (fr := false) G.hu p) (ha X W x G h.1.1.2).1 hb1 hc1 (by show behindInMarks _ z = false; exact head_marks hc2)) fun σ H Q q => tI_chn (tT_tI q)
    · cases h
theorem pair_non {X : Cx} {φ : Fi} {H : Hp} {d : D} {v : V} (h : Rep X.K φ H d v) : decide (v = .non) = d.isNon := by
  cases d with
  | non => cases h; rfl
  | bl _ => cases h; rfl
  | int _ => cases h; rfl
  | str _ => cases h.1; rfl
  | tup _ => obtain ⟨_, _, e, _⟩ := h; subst e; rfl
  | lst _ => obtain ⟨_, _, e, _⟩ := h; subst e; rfl
  | dct _ _ => obtain ⟨_, _, e, _⟩ := h; subst e; rfl
  | scr _ => obtain ⟨_, _, e, _⟩ := h; subst e; rfl
  | ref _ => obtain ⟨_, _, e⟩ := h; subst e; rfl
theorem tI_isn {X : Cx} {W : WX} {a : E} {σ : L2.St} {H : Hp} {Q : VK} (h : tI Γ cf (rz X t) W (.isn a) σ H Q) : tIsN (tI Γ cf (rz X t) W a) σ H Q := by
  obtain ⟨φ, env, st, r, E, o⟩ := h
  simp only [ev] at o
  exact tI_then r E shD o fun v H1 φ1 st1 d r1 e1 E1 p1 o1 => by
    rw [pair_non p1.1]
    exact out_ok r1 o1 rfl (.inl rfl)
theorem tI_notn {X : Cx} {W : WX} {a : E} {σ : L2.St} {H : Hp} {Q : VK} (h : tI Γ cf (rz X t) W (.notn a) σ H Q) : tNotN (tI Γ cf (rz X t) W a) σ H Q := by
  obtain ⟨φ, env, st, r, E, o⟩ := h
  simp only [ev] at o
  exact tI_then r E shD o fun v H1 φ1 st1 d r1 e1 E1 p1 o1 => by
    rw [pair_non p1.1]
    exact out_ok r1 o1 rfl (.inl rfl)
theorem snd_isn {a : E} (ha : Snd Γ cf P t k a) : Snd Γ cf P t k (.isn a) ∧ SndT Γ cf P t k (.isn a) := by
  constructor
  · intro X W x G h
    simp only [chk, kIsn] at h
    split at h
    · exact ⟨pe_imp (pe_cmp (pc_isN (ha X W _ G h).1) rfl) fun σ H Q q => tI_isn q, rfl⟩
    · cases h
  · intro X W x G h
    simp only [chk, kIsn] at h
    split at h
    · exact pt_imp (pt_cmp (pc_isN (ha X W _ G h).1) rfl) fun σ H Q q => tI_isn (tT_tI q)
    · cases h
theorem snd_notn {a : E} (ha : Snd Γ cf P t k a) : Snd Γ cf P t k (.notn a) ∧ SndT Γ cf P t k (.notn a) := by
  constructor
  · intro X W x G h
    simp only [chk, kNotn] at h
    split at h
    · exact ⟨pe_imp (pe_cmp (pc_notN (ha X W _ G h).1) rfl) fun σ H Q q => tI_notn q, rfl⟩
    · cases h
  · intro X W x G h
    simp only [chk, kNotn] at h
    split at h
    · exact pt_imp (pt_cmp (pc_notN (ha X W _ G h).1) rfl) fun σ H Q q => tI_notn (tT_tI q)
    · cases h
theorem snd_neg {a : E} (ha : Snd Γ cf P t k a) : Snd Γ cf P t k (.neg a) := by
  intro X W x G h
  simp only [chk, kUn] at h
  split at h
  · rename_i op x pos
    rw [Bool.and_eq_true] at h
    have h1 := of_decide_eq_true h.1
    subst h1
    refine ⟨pe_imp (pe_un un_neg (ha X W x G h.2).1) fun σ H Q ⟨φ, env, st, r, E, o⟩ => ?_, rfl⟩
    simp only [ev] at o
    refine tI_then r E shD o fun v H1 φ1 st1 d r1 e1 E1 p1 o1 => ?_
    cases d with
    | int i => exact ⟨i, p1.1, out_ok r1 o1 rfl (.inl rfl)⟩
    | _ => exact o1.elim
  · cases h
theorem testR_bl {α : Type} (r : R α) (f : α → Bool) : testR (r.bind fun b st => .ok (.bl (f b)) st) = r.bind fun b st => .ok (f b) st := by cases r <;> rfl
theorem snd_not {a : E} (ha : Snd Γ cf P t k a) (hT : SndT Γ cf P t k a) : Snd Γ cf P t k (.not a) ∧ SndT Γ cf P t k (.not a) := by
  constructor
  · intro X W x G h
    simp only [chk, kUn] at h
    split at h
    · rename_i op x pos
      rw [Bool.and_eq_true] at h
      have h1 := of_decide_eq_true h.1
      subst h1
      refine ⟨pe_imp (pe_not (ha X W x G h.2).1) fun σ H Q ⟨φ, env, st, r, E, o⟩ => ?_, rfl⟩
      simp only [ev] at o
      have o' := OutG.bind (rep1 := repB) r shD o
      exact tT_tI ⟨φ, env, st, r, E, o'.imp fun c H1 ⟨φ1, st1, b, r1, e1, p1, o1⟩ => by
        have : b = c := p1
        subst this
        exact out_ok r1 o1 rfl (.inl rfl)⟩
    · cases h
  · intro X W x G h
    simp only [chk, kUn] at h
    split at h
    · rename_i op x pos
      rw [Bool.and_eq_true] at h
      have h1 := of_decide_eq_true h.1
      subst h1
      refine pt_imp (pt_not (hT X W x G h.2)) fun σ H Q ⟨φ, env, st, r, E, o⟩ => ?_
      simp only [ev] at o
      refine ⟨φ, env, st, r, E, ?_⟩
      have o2 := o
      rw [testR_bl] at o2
      exact (OutG.bind (rep1 := repB) r shB o2).imp fun c H1 ⟨φ1, st1, b, r1, e1, p1, o1⟩ => by
        have : b = c := p1
        subst this
        exact o1 φ1 H1 _ r1 .refl rfl
    · cases h
/-! ### and, or -/
def Snds (Γ : Tx) (cf : CF) (P : Pn) (t : Nm) (k : Nat) (es : List E) : Prop := ∀ e ∈ es, Snd Γ cf P t k e
def SndTs (Γ : Tx) (cf : CF) (P : Pn) (t : Nm) (k : Nat) (es : List E) : Prop := ∀ e ∈ es, SndT Γ cf P t k e
/-- the reading of several, to a truth -/
def tB2 (Γ : Tx) (cf : CF) (T : Rz) (W : WX) (f : List E → Env → Store → R Bool) (es : List E) : TT := fun σ H Q => ∃ φ env st, Rel T φ H st ∧ EnvR T φ H σ env ∧ OutG T repB W φ H σ (f es env st) Q
theorem chks_cons {N : List Str} {sc : Scope} {e : E} {es : List E} {xs : List Expr} (h : chks P N (e :: es) sc xs = true) : ∃ y ys, xs = y :: ys ∧ chk P N e sc y = true ∧ chks P N es sc ys = true := by
  simp only [chks, kCons] at h
  split at h
  · rename_i y ys
    rw [Bool.and_eq_true] at h
    exact ⟨y, ys, rfl, h.1, h.2⟩
  · cases h
theorem chks_nil {N : List Str} {sc : Scope} {xs : List Expr} (h : chks P N [] sc xs = true) : xs = [] := by
  simp only [chks] at h
  exact List.isEmpty_iff.mp h
/-- behind a test -/
theorem tT_then {α β : Type} {X : Cx} {W : WX} {rep : RepT α β} {a : E} {φ : Fi} {H : Hp} {σ : L2.St} {env : Env} {st : Store} {kk : Bool → Store → R α} {Q : β → Hp → Prop} (r : Rel (rz X t) φ H st) (E0 : EnvR (rz X t) φ H σ env)
    (sh : Shift (rz X t) rep)
    (o : OutG (rz X t) rep W φ H σ ((testR (ev Γ cf a env st)).bind kk) Q) {Q' : Bool → Hp → Prop}
    (hq : ∀ b H1 φ1 st1, Rel (rz X t) φ1 H1 st1 → Ext φ H φ1 H1 → EnvR (rz X t) φ1 H1 σ env → OutG (rz X t) rep W φ1 H1 σ (kk b st1) Q → Q' b H1) : tT Γ cf (rz X t) W a σ H Q' :=
  ⟨φ, env, st, r, E0, (OutG.bind (rep1 := repB) r sh o).imp fun v H1 ⟨φ1, st1, d, r1, e1, p1, o1⟩ => by
    have : d = v := p1
    subst this
    exact hq d H1 φ1 st1 r1 e1 (E0.ext r e1) o1⟩
theorem pe_ands : ∀ (es : List E) (X : Cx) (W : WX) (xs : List Expr) (pos : Pos), es ≠ [] → Snds Γ cf P t k es → Good Γ cf P t k X W → chks P X.N es X.env.scope xs = true →
    PE X (.BoolOp .And xs pos) (fun σ H Q => tB2 Γ cf (rz X t) W (evAnd Γ cf) es σ H fun b H1 => Q (.bl b) H1)
  | [], _, _, _, _, hn, _, _, _ => absurd rfl hn
  | [e], X, W, xs, pos, _, hs, G, h => by
    obtain ⟨y, ys, rfl, h1, h2⟩ := chks_cons h
    obtain rfl := chks_nil h2
    refine pe_imp (pe_one (hs e (by simp) X W y G h1).1) fun σ H Q ⟨φ, env, st, r, E, o⟩ => ?_
    simp only [evAnd] at o
    obtain ⟨φ', env', st', r', E', o'⟩ := tT_tI (tT_then (Q' := fun b H1 => Q (.bl b) H1) r E shB o fun b H1 φ1 st1 r1 e1 E1 o1 => by
      cases b with
      | true => rw [if_pos rfl] at o1; exact o1 φ1 H1 true r1 .refl rfl
      | false => rw [if_neg (by simp)] at o1; exact o1 φ1 H1 false r1 .refl rfl)
    exact ⟨φ', env', st', r', E', o'.imp fun v H1 ⟨c, e, q⟩ => by rw [e]; exact q⟩
  | e :: e' :: es, X, W, xs, pos, _, hs, G, h => by
    obtain ⟨y, ys, rfl, h1, h2⟩ := chks_cons h
    have ih := pe_ands (e' :: es) X W ys pos (by simp) (fun z hz => hs z (List.mem_cons_of_mem _ hz)) G h2
    obtain ⟨y', ys', rfl, _, _⟩ := chks_cons h2
    refine pe_imp (pe_and (hs e (by simp) X W y G h1).1 ih) fun σ H Q ⟨φ, env, st, r, E, o⟩ => ?_
    rw [evAnd] at o
    refine tT_tI (tT_then r E shB o fun b H1 φ1 st1 r1 e1 E1 o1 => ?_)
    cases b with
    | true =>
      rw [if_pos rfl] at o1
      rw [if_pos rfl]
      exact ⟨φ1, env, st1, r1, E1, o1⟩
    | false =>
      rw [if_neg (by simp)] at o1
      rw [if_neg (by simp)]
      exact o1 φ1 H1 false r1 .refl rfl
theorem pe_ors : ∀ (es : List E) (X : Cx) (W : WX) (xs : List Expr) (pos : Pos), es ≠ [] → Snds Γ cf P t k es → Good Γ cf P t k X W → chks P X.N es X.env.scope xs = true →
    PE X (.BoolOp .Or xs pos) (fun σ H Q => tB2 Γ cf (rz X t) W (evOr Γ cf) es σ H fun b H1 => Q (.bl b) H1)
  | [], _, _, _, _, hn, _, _, _ => absurd rfl hn
  | [e], X, W, xs, pos, _, hs, G, h => by
    obtain ⟨y, ys, rfl, h1, h2⟩ := chks_cons h
    obtain rfl := chks_nil h2
    refine pe_imp (pe_one (hs e (by simp) X W y G h1).1) fun σ H Q ⟨φ, env, st, r, E, o⟩ => ?_
    simp only [evOr] at o
    obtain ⟨φ', env', st', r', E', o'⟩ := tT_tI (tT_then (Q' := fun b H1 => Q (.bl b) H1) r E shB o fun b H1 φ1 st1 r1 e1 E1 o1 => by
      cases b with
      | true => rw [if_pos rfl] at o1; exact o1 φ1 H1 true r1 .refl rfl
      | false => rw [if_neg (by simp)] at o1; exact o1 φ1 H1 false r1 .refl rfl)
    exact ⟨φ', env', st', r', E', o'.imp fun v H1 ⟨c, e, q⟩ => by rw [e]; exact q⟩
  | e :: e' :: es, X, W, xs, pos, _, hs, G, h => by
    obtain ⟨y, ys, rfl, h1, h2⟩ := chks_cons h
    have ih := pe_ors (e' :: es) X W ys pos (by simp) (fun z hz => hs z (List.mem_cons_of_mem _ hz)) G h2
    obtain ⟨y', ys', rfl, _, _⟩ := chks_cons h2
    refine pe_imp (pe_or (hs e (by simp) X W y G h1).1 ih) fun σ H Q ⟨φ, env, st, r, E, o⟩ => ?_
    rw [evOr] at o
    refine tT_tI (tT_then r E shB o fun b H1 φ1 st1 r1 e1 E1 o1 => ?_)
    cases b with
    | true =>
      rw [if_pos rfl] at o1
      rw [if_pos rfl]
      exact o1 φ1 H1 true r1 .refl rfl
    | false =>
      rw [if_neg (by simp)] at o1
      rw [if_neg (by simp)]
      exact ⟨φ1, env, st1, r1, E1, o1⟩
theorem pw_ands : ∀ (es : List E) (X : Cx) (W : WX) (xs : List Expr) (pos : Pos), es ≠ [] → SndTs Γ cf P t k es → Good Γ cf P t k X W → chks P X.N es X.env.scope xs = true →
    PW X (.BoolOp .And xs pos) (tB2 Γ cf (rz X t) W (evAnd Γ cf) es)
  | [], _, _, _, _, hn, _, _, _ => absurd rfl hn
  | [e], X, W, xs, pos, _, hs, G, h => by
    obtain ⟨y, ys, rfl, h1, h2⟩ := chks_cons h
    obtain rfl := chks_nil h2
    have hw := pw_and1 (pos := pos) (hs e (by simp) X W y G h1)
    refine ⟨fun wh pins s σ H Q I ⟨φ, env, st, r, E, o⟩ => hw.run wh pins s σ H Q I ?_⟩
    rw [evAnd] at o
    refine tT_then r E shB o fun b H1 φ1 st1 r1 e1 E1 o1 => ?_
    cases b with
    | true => rw [if_pos rfl] at o1; simp only [evAnd] at o1; exact o1 φ1 H1 true r1 .refl rfl
    | false => rw [if_neg (by simp)] at o1; exact o1 φ1 H1 false r1 .refl rfl
  | e :: e' :: es, X, W, xs, pos, _, hs, G, h => by
    obtain ⟨y, ys, rfl, h1, h2⟩ := chks_cons h
    have ih := pw_ands (e' :: es) X W ys pos (by simp) (fun z hz => hs z (List.mem_cons_of_mem _ hz)) G h2
    obtain ⟨y', ys', rfl, _, _⟩ := chks_cons h2
    have hw := pw_and (hs e (by simp) X W y G h1) ih
    refine ⟨fun wh pins s σ H Q I ⟨φ, env, st, r, E, o⟩ => hw.run wh pins s σ H Q I ?_⟩
    rw [evAnd] at o
    refine tT_then r E shB o fun b H1 φ1 st1 r1 e1 E1 o1 => ?_
    cases b with
    | true =>
      rw [if_pos rfl] at o1
      rw [if_pos rfl]
      exact ⟨φ1, env, st1, r1, E1, o1⟩
    | false =>
      rw [if_neg (by simp)] at o1
      rw [if_neg (by simp)]
      exact o1 φ1 H1 false r1 .refl rfl
theorem pw_ors : ∀ (es : List E) (X : Cx) (W : WX) (xs : List Expr) (pos : Pos), es ≠ [] → SndTs Γ cf P t k es → Good Γ cf P t k X W → chks P X.N es X.env.scope xs = true →
    PW X (.BoolOp .Or xs pos) (tB2 Γ cf (rz X t) W (evOr Γ cf) es)
  | [], _, _, _, _, hn, _, _, _ => absurd rfl hn
  | [e], X, W, xs, pos, _, hs, G, h => by
    obtain ⟨y, ys, rfl, h1, h2⟩ := chks_cons h
    obtain rfl := chks_nil h2
    have hw := pw_or1 (pos := pos) (hs e (by simp) X W y G h1)
    refine ⟨fun wh pins s σ H Q I ⟨φ, env, st, r, E, o⟩ => hw.run wh pins s σ H Q I ?_⟩
    rw [evOr] at o
    refine tT_then r E shB o fun b H1 φ1 st1 r1 e1 E1 o1 => ?_
    cases b with
    | true => rw [if_pos rfl] at o1; exact o1 φ1 H1 true r1 .refl rfl
    | false => rw [if_neg (by simp)] at o1; simp only [evOr] at o1; exact o1 φ1 H1 false r1 .refl rfl
  | e :: e' :: es, X, W, xs, pos, _, hs, G, h => by
    obtain ⟨y, ys, rfl, h1, h2⟩ := chks_cons h
    have ih := pw_ors (e' :: es) X W ys pos (by simp) (fun z hz => hs z (List.mem_cons_of_mem _ hz)) G h2
    obtain ⟨y', ys', rfl, _, _⟩ := chks_cons h2
    have hw := pw_or (hs e (by simp) X W y G h1) ih
    refine ⟨fun wh pins s σ H Q I ⟨φ, env, st, r, E, o⟩ => hw.run wh pins s σ H Q I ?_⟩
    rw [evOr] at o
    refine tT_then r E shB o fun b H1 φ1 st1 r1 e1 E1 o1 => ?_
    cases b with
    | true =>
      rw [if_pos rfl] at o1
      rw [if_pos rfl]
      exact o1 φ1 H1 true r1 .refl rfl
    | false =>
      rw [if_neg (by simp)] at o1
      rw [if_neg (by simp)]
      exact ⟨φ1, env, st1, r1, E1, o1⟩
theorem ne_of_empty {es : List E} (h : (!es.isEmpty) = true) : es ≠ [] := by
  intro e
  subst e
  cases h
theorem snd_and {es : List E} (hs : Snds Γ cf P t k es) (hT : SndTs Γ cf P t k es) : Snd Γ cf P t k (.and es) ∧ SndT Γ cf P t k (.and es) := by
  constructor
  · intro X W x G h
    simp only [chk, kBoo] at h
    rw [Bool.and_eq_true] at h
    obtain ⟨h, hn⟩ := h
    split at h
    · rename_i op xs pos
      rw [Bool.and_eq_true] at h
      have h1 := of_decide_eq_true h.1
      subst h1
      refine ⟨pe_imp (pe_ands es X W xs pos (ne_of_empty hn) hs G h.2) fun σ H Q ⟨φ, env, st, r, E, o⟩ => ⟨φ, env, st, r, E, ?_⟩, rfl⟩
      simp only [ev] at o
      exact (OutG.bind (rep1 := repB) r shD o).imp fun v H1 ⟨φ1, st1, d, r1, e1, p1, o1⟩ => by
        have : d = v := p1
        subst this
        exact out_ok r1 o1 rfl (.inl rfl)
    · cases h
  · intro X W x G h
    simp only [chk, kBoo] at h
    rw [Bool.and_eq_true] at h
    obtain ⟨h, hn⟩ := h
    split at h
    · rename_i op xs pos
      rw [Bool.and_eq_true] at h
      have h1 := of_decide_eq_true h.1
      subst h1
      refine pt_imp (pw_ands es X W xs pos (ne_of_empty hn) hT G h.2).pt fun σ H Q ⟨φ, env, st, r, E, o⟩ => ⟨φ, env, st, r, E, ?_⟩
      simp only [ev] at o
      rw [testR_bl] at o
      exact (OutG.bind (rep1 := repB) r shB o).imp fun v H1 ⟨φ1, st1, d, r1, e1, p1, o1⟩ => by
        have : d = v := p1
        subst this
        exact o1 φ1 H1 d r1 .refl rfl
    · cases h
theorem snd_or {es : List E} (hs : Snds Γ cf P t k es) (hT : SndTs Γ cf P t k es) : Snd Γ cf P t k (.or es) ∧ SndT Γ cf P t k (.or es) := by
  constructor
  · intro X W x G h
    simp only [chk, kBoo] at h
    rw [Bool.and_eq_true] at h
    obtain ⟨h, hn⟩ := h
    split at h
    · rename_i op xs pos
      rw [Bool.and_eq_true] at h
      have h1 := of_decide_eq_true h.1
      subst h1
      refine ⟨pe_imp (pe_ors es X W xs pos (ne_of_empty hn) hs G h.2) fun σ H Q ⟨φ, env, st, r, E, o⟩ => ⟨φ, env, st, r, E, ?_⟩, rfl⟩
      simp only [ev] at o
      exact (OutG.bind (rep1 := repB) r shD o).imp fun v H1 ⟨φ1, st1, d, r1, e1, p1, o1⟩ => by
        have : d = v := p1
        subst this
        exact out_ok r1 o1 rfl (.inl rfl)
    · cases h
  · intro X W x G h
    simp only [chk, kBoo] at h
    rw [Bool.and_eq_true] at h
    obtain ⟨h, hn⟩ := h
    split at h
    · rename_i op xs pos
      rw [Bool.and_eq_true] at h
      have h1 := of_decide_eq_true h.1
      subst h1
      refine pt_imp (pw_ors es X W xs pos (ne_of_empty hn) hT G h.2).pt fun σ H Q ⟨φ, env, st, r, E, o⟩ => ⟨φ, env, st, r, E, ?_⟩
      simp only [ev] at o
      rw [testR_bl] at o
      exact (OutG.bind (rep1 := repB) r shB o).imp fun v H1 ⟨φ1, st1, d, r1, e1, p1, o1⟩ => by
        have : d = v := p1
        subst this
        exact o1 φ1 H1 d r1 .refl rfl
    · cases h
theorem OutG.fr {T : Rz} {W : WX} {φ : Fi} {H : Hp} {σ : L2.St} {f g : Bool} {o : R D} {Q : VK} (h : OutG T (repD T g) W φ H σ o Q) (hfg : g = true → f = true) : OutG T (repD T f) W φ H σ o Q := by
  cases o with
  | stk => exact h
  | ex _ _ _ => exact h
  | ok d st => exact fun φ' H' v a b c => h φ' H' v a b ⟨c.1, fun z l => c.2 (hfg z) l⟩
theorem snd_ite {c a b : E} (hc : SndT Γ cf P t k c) (ha : Snd Γ cf P t k a) (hb : Snd Γ cf P t k b) (haT : SndT Γ cf P t k a) (hbT : SndT Γ cf P t k b) : Snd Γ cf P t k (.ite c a b) ∧ SndT Γ cf P t k (.ite c a b) := by
  constructor
  · intro X W x G h
    simp only [chk, kIte] at h
    split at h
    · rename_i x y z pos
      simp only [Bool.and_eq_true] at h
      refine ⟨pe_imp (pe_ifExp (hc X W x G h.1.1) (ha X W y G h.1.2).1 (hb X W z G h.2).1) fun σ H Q ⟨φ, env, st, r, E, o⟩ => ?_, rfl⟩
      simp only [ev] at o
      refine tT_then r E shD o fun v H1 φ1 st1 r1 e1 E1 o1 => ?_
      cases v with
      | true =>
        rw [if_pos rfl] at o1
        rw [if_pos rfl]
        exact ⟨φ1, env, st1, r1, E1, o1.fr (fun z => (Bool.and_eq_true_iff.mp z).1)⟩
      | false =>
        rw [if_neg (by simp)] at o1
        rw [if_neg (by simp)]
        exact ⟨φ1, env, st1, r1, E1, o1.fr (fun z => (Bool.and_eq_true_iff.mp z).2)⟩
    · cases h
  · intro X W x G h
    simp only [chk, kIte] at h
    split at h
    · rename_i x y z pos
      simp only [Bool.and_eq_true] at h
      have h1 := hc X W x G h.1.1
      have h2 := haT X W y G h.1.2
      have h3 := hbT X W z G h.2
      refine ⟨fun pins s σ H Q I ⟨φ, env, st, r, E, o⟩ => ?_⟩
      have e : testR (ev Γ cf (.ite c a b) env st) = (testR (ev Γ cf c env st)).bind fun r st => if r = true then testR (ev Γ cf a env st) else testR (ev Γ cf b env st) := by
        simp only [ev]
        cases testR (ev Γ cf c env st) with
        | ok bb s => cases bb <;> rfl
        | ex _ _ _ => rfl
        | stk => rfl
      rw [e] at o
      refine PyProof.Rows.isTrue_IfExp (thn (h1.run pins s σ H (fun bb H1 => ∃ φ1 st1, Rel (rz X t) φ1 H1 st1 ∧ EnvR (rz X t) φ1 H1 σ env ∧ OutG (rz X t) repB W φ1 H1 σ (if bb = true then testR (ev Γ cf a env st1) else testR (ev Γ cf b env st1)) Q) I
        (tT_then r E shB o fun v H1 φ1 st1 r1 e1 E1 o1 => ⟨φ1, st1, r1, E1, o1⟩)) fun bb s1 ⟨H1, I1, φ1, st1, r1, E1, o1⟩ => ?_)
      cases bb with
      | true =>
        rw [if_pos rfl] at o1
        rw [if_pos rfl]
        exact h2.run pins s1 σ H1 Q I1 ⟨φ1, env, st1, r1, E1, o1⟩
      | false =>
        rw [if_neg (by simp)] at o1
        rw [if_neg (by simp)]
        exact h3.run pins s1 σ H1 Q I1 ⟨φ1, env, st1, r1, E1, o1⟩
    · cases h
end
end Cip

set_option maxHeartbeats 4000000
/-! Cip11: arguments, displays, places, calls. -/
namespace Cip
open PySem PySem.Spec PyProof.Rows L2

section
variable {Γ : Tx} {cf : CF} {P : Pn} {t : Nm} {k : Nat}
theorem evs_nil {env : Env} {st : Store} : evs Γ cf [] env st = .ok [] st := by simp only [evs]
/-- behind arguments -/
theorem tIs_then {α β : Type} {X : Cx} {W : WX} {rep : RepT α β} {as : List E} {φ : Fi} {H : Hp} {σ : L2.St} {env : Env} {st : Store} {kk : List D → Store → R α} {Q : β → Hp → Prop} (r : Rel (rz X t) φ H st) (E0 : EnvR (rz X t) φ H σ env)
    (sh : Shift (rz X t) rep) (o : OutG (rz X t) rep W φ H σ ((evs Γ cf as env st).bind kk) Q) {Q' : List V → Hp → Prop}
    (hq : ∀ v H1 φ1 st1 d, Rel (rz X t) φ1 H1 st1 → Ext φ H φ1 H1 → EnvR (rz X t) φ1 H1 σ env → Reps X.K φ1 H1 d v → OutG (rz X t) rep W φ1 H1 σ (kk d st1) Q → Q' v H1) : tIs Γ cf (rz X t) W as σ H Q' :=
  ⟨φ, env, st, r, E0, (OutG.bind (rep1 := repS (rz X t)) r sh o).imp fun v H1 ⟨φ1, st1, d, r1, e1, p1, o1⟩ => hq v H1 φ1 st1 d r1 e1 (E0.ext r e1) p1 o1⟩
theorem snd_args : ∀ (es : List E), Snds Γ cf P t k es → ∀ (X : Cx) (W : WX) (xs : List Expr), Good Γ cf P t k X W → chks P X.N es X.env.scope xs = true → PA X xs (tIs Γ cf (rz X t) W es) ∧ noStars xs = true
  | [], _, X, W, xs, G, h => by
    obtain rfl := chks_nil h
    refine ⟨pa_imp pa_nil fun σ H Q ⟨φ, env, st, r, E, o⟩ => ?_, rfl⟩
    rw [evs_nil] at o
    exact o φ H [] r .refl rfl
  | e :: es, hs, X, W, xs, G, h => by
    obtain ⟨y, ys, rfl, h1, h2⟩ := chks_cons h
    obtain ⟨ih, ih2⟩ := snd_args es (fun z hz => hs z (List.mem_cons_of_mem _ hz)) X W ys G h2
    obtain ⟨he, he2⟩ := hs e (by simp) X W y G h1
    refine ⟨pa_imp (pa_cons he ih (head_star he2)) fun σ H Q ⟨φ, env, st, r, E, o⟩ => ?_, by show (headOk y && noStars ys) = true; rw [he2, ih2] <;> rfl⟩
    simp only [evs] at o
    exact tI_then r E shS o fun v H1 φ1 st1 d r1 e1 E1 p1 o1 => tIs_then r1 E1 shS o1 fun w H2 φ2 st2 d2 r2 e2 E2 p2 o2 =>
      o2 φ2 H2 (v :: w) r2 .refl ⟨v, w, rfl, r1.rep e2 p1.1, p2⟩
/-! ### displays -/
theorem snd_tup {es : List E} (hs : Snds Γ cf P t k es) : Snd Γ cf P t k (.tup es) := by
  intro X W x G h
  simp only [chk, kTup] at h
  split at h
  · rename_i xs _ pos
    refine ⟨pe_imp (pe_tup (snd_args es hs X W xs G h).1) fun σ H Q ⟨φ, env, st, r, E, o⟩ => ?_, rfl⟩
    simp only [ev] at o
    refine tIs_then r E shD o fun v H1 φ1 st1 ds r1 e1 E1 p1 o1 => ?_
    split at o1
    · rename_i hz
      exact ⟨by rw [p1.length]; exact hz, fun p hp => o1.of_ok.tup r1 hp p1 hz⟩
    · exact o1.elim
  · cases h
theorem snd_lst {es : List E} (hs : Snds Γ cf P t k es) : Snd Γ cf P t k (.lst es) := by
  intro X W x G h
  simp only [chk, kLst] at h
  split at h
  · rename_i xs pos
    refine ⟨pe_imp (pe_lst (snd_args es hs X W xs G h).1) fun σ H Q ⟨φ, env, st, r, E, o⟩ => ?_, rfl⟩
    simp only [ev] at o
    refine tIs_then r E shD o fun v H1 φ1 st1 ds r1 e1 E1 p1 o1 => ?_
    split at o1
    · rename_i hz
      exact ⟨by rw [p1.length]; exact hz, fun p hp => o1.of_ok.lst r1 hp p1 hz⟩
    · exact o1.elim
  · cases h
/-- a thing that was laid last becomes one of the store -/
theorem ext_push {φ : Fi} {Hb : Hp} {p : Addr} {o : HO} (hp : Hb p = none) : Ext φ Hb (φ.push p) (upd Hb p o) :=
  ⟨⟨[p], rfl, fun a ha => by rw [List.mem_singleton.mp ha]; exact hp⟩, rfl, fun a u hu _ => by rw [upd_ne (ne_of_none hu hp)]; exact hu⟩
theorem push_at {T : Rz} {φ : Fi} {Hb : Hp} {st : Store} {p : Addr} (r : Rel T φ Hb st) : (φ.push p).ref[st.length]? = some p := by
  show (φ.ref ++ [p])[st.length]? = some p
  rw [← r.len, List.getElem?_append_right (Nat.le_refl _)]
  simp
theorem rel_push {T : Rz} {φ : Fi} {Hb : Hp} {st : Store} {p : Addr} {o : HO} {m : MO} (r : Rel T φ Hb st) (hp : Hb p = none) (h : ORel T (φ.push p) (upd Hb p o) m p) :
    Rel T (φ.push p) (upd Hb p o) (st ++ [m]) ∧ Ext φ Hb (φ.push p) (upd Hb p o) := by
  have e : Ext φ Hb (φ.push p) (upd Hb p o) := ext_push hp
  refine ⟨⟨?_, ?_, fun kk u hu => ?_, fun a ha => ?_⟩, e⟩
  · show (φ.ref ++ [p]).length = _
    rw [List.length_append, List.length_append, r.len] <;> rfl
  · show (φ.ref ++ [p]).Nodup
    refine List.nodup_append.mpr ⟨r.nd, by simp, fun a ha b hb => ?_⟩
    rw [List.mem_singleton.mp hb]
    intro q
    exact (r.fresh hp).1 (q ▸ ha)
  · by_cases hk : kk < st.length
    · rw [List.getElem?_append_left hk] at hu
      obtain ⟨a, h1, h2⟩ := r.at_ kk u hu
      obtain ⟨w, hw⟩ := h2.there
      refine ⟨a, ?_, h2.ext e r.nt (upd_ne (ne_of_none hw hp))⟩
      show (φ.ref ++ [p])[kk]? = some a
      rw [List.getElem?_append_left (by rw [r.len]; exact hk)]
      exact h1
    · have hk2 : kk = st.length := by
        have := (List.getElem?_eq_some_iff.mp hu).1
        rw [List.length_append] at this
        have e1 : [m].length = 1 := rfl
        omega
      subst hk2
      rw [List.getElem?_append_right (Nat.le_refl _)] at hu
      simp at hu
      subst hu
      exact ⟨p, push_at r, h⟩
  · obtain ⟨h1, xs, h2⟩ := r.hid a ha
    refine ⟨fun m => ?_, xs, by rw [upd_ne (ne_of_none h2 hp)]; exact h2⟩
    rcases List.mem_append.mp (show a ∈ φ.ref ++ [p] from m) with m | m
    · exact h1 m
    · rw [List.mem_singleton.mp m, hp] at h2
      cases h2
theorem ext_join {T : Rz} {φ φ1 : Fi} {H Hb : Hp} {st st1 : Store} {p : Addr} {o : HO} (r : Rel T φ H st) (e : Ext φ H φ1 (upd Hb p o)) (h0 : H p = none) (r1 : Rel T φ1 Hb st1) (hb : Hb p = none) : Ext φ H (φ1.push p) (upd Hb p o) := by
  obtain ⟨ψ, hψ, hn⟩ := e.more
  refine ⟨⟨ψ ++ [p], ?_, fun a ha => ?_⟩, e.hid, e.keep⟩
  · show φ1.ref ++ [p] = _
    rw [hψ, List.append_assoc]
  · rcases List.mem_append.mp ha with ha | ha
    · exact hn a ha
    · rw [List.mem_singleton.mp ha]; exact h0
theorem snd_mut {a : E} (ha : Snd Γ cf P t k a) : Snd Γ cf P t k (.mut a) := by
  intro X W x G h
  simp only [chk] at h
  rw [Bool.and_eq_true] at h
  obtain ⟨h1, hf⟩ := h
  obtain ⟨p1, p2⟩ := ha X W x G h1
  refine ⟨pe_imp p1 fun σ H Q ⟨φ, env, st, r, E, o⟩ => ⟨φ, env, st, r, E, ?_⟩, p2⟩
  simp only [ev] at o
  cases q : ev Γ cf a env st with
  | stk => rw [q] at o; exact o
  | ex c fs s => rw [q] at o; exact o
  | ok d st1 =>
    rw [q] at o
    intro φ1 H1 v r1 e1 p1
    cases d with
    | lst ds =>
      obtain ⟨p, Hb, ob, rfl, rfl, hb, h0, rb, vs, rfl, hz, hr⟩ := p1.2 hf rfl
      have hx : Ext φ1 Hb (φ1.push p) (upd Hb p (.lst vs)) := ext_push hb
      obtain ⟨rp, _⟩ := rel_push (m := .lst ds) rb hb ⟨vs, upd_same, hz, rb.reps hx hr⟩
      exact o (φ1.push p) _ (.ref p) rp (ext_join r e1 h0 rb hb) (.no ⟨p, push_at rb, rfl⟩ rfl)
    | dct ks ws =>
      obtain ⟨p, Hb, ob, rfl, rfl, hb, h0, rb, kvs, rfl, hz, hr⟩ := p1.2 hf rfl
      have hx : Ext φ1 Hb (φ1.push p) (upd Hb p (.dK kvs)) := ext_push hb
      obtain ⟨rp, _⟩ := rel_push (m := .dct false ks ws) rb hb ⟨kvs, by simp only [Bool.false_eq_true, if_false]; exact upd_same, hz, rb.reps hx hr⟩
      exact o (φ1.push p) _ (.ref p) rp (ext_join r e1 h0 rb hb) (.no ⟨p, push_at rb, rfl⟩ rfl)
    | _ => exact o.elim
/-! ### places -/
theorem snd_idx {a i : E} (ha : Snd Γ cf P t k a) (hi : Snd Γ cf P t k i) : Snd Γ cf P t k (.idx a i) := by
  intro X W x G h
  simp only [chk, kIdx] at h
  split at h
  · rename_i x y pos
    simp only [Bool.and_eq_true] at h
    obtain ⟨hi1, hi2⟩ := hi X W y G h.2
    exact ⟨snd_op2 (fun env st => by simp only [ev]) (pe_ix ixr_idx (ha X W x G h.1).1 hi1 (head_ix hi2)), rfl⟩
  · cases h
/-- a slice's part -/
theorem po_part {e : E} (he : Snd Γ cf P t k e) {X : Cx} {W : WX} (G : Good Γ cf P t k X W) {l : Option Expr} (h : kOpt e.nulB (chk P X.N e X.env.scope) l = true) :
    PO X l (fun σ H Q => ∃ φ env st, Rel (rz X t) φ H st ∧ EnvR (rz X t) φ H σ env ∧ OutG (rz X t) (fun _ _ _ _ (a : Option Int) (b : Option Int) => a = b) W φ H σ
      (if e.nulB = true then .ok none st else (ev Γ cf e env st).bind fun d st => .of (bnd d) st : R (Option Int)) Q) := by
  cases l with
  | none =>
    have hn : e.nulB = true := h
    refine ⟨fun pins s σ H Q I ⟨φ, env, st, r, E, o⟩ => po_none.run pins s σ H Q I ?_⟩
    rw [if_pos hn] at o
    exact o φ H none r .refl rfl
  | some y =>
    have h' : (!e.nulB && chk P X.N e X.env.scope y) = true := h
    rw [Bool.and_eq_true] at h'
    have hn : e.nulB = false := by simpa using h'.1
    refine ⟨fun pins s σ H Q I ⟨φ, env, st, r, E, o⟩ => (po_some (he X W y G h'.2).1).run pins s σ H Q I ?_⟩
    rw [if_neg (by rw [hn]; simp)] at o
    refine tI_then r E (fun _ _ _ _ _ _ _ _ _ _ _ _ h => h) o fun v H1 φ1 st1 d r1 e1 E1 p1 o1 => ?_
    cases d with
    | int i => exact ⟨i, p1.1, o1 φ1 H1 (some i) r1 .refl rfl⟩
    | _ => exact o1.elim
theorem snd_slc {a lo hi : E} (ha : Snd Γ cf P t k a) (hl : Snd Γ cf P t k lo) (hh : Snd Γ cf P t k hi) : Snd Γ cf P t k (.slc a lo hi) := by
  intro X W x G h
  simp only [chk, kSlc] at h
  split at h
  · rename_i x l u p2 pos
    simp only [Bool.and_eq_true] at h
    refine ⟨pe_imp (pe_slice (slr_slc (t := t) (fr := true)) (ha X W x G h.1.1).1 (po_part hl G h.1.2) (po_part hh G h.2)) fun σ H Q ⟨φ, env, st, r, E, o⟩ => ?_, rfl⟩
    simp only [ev] at o
    refine tI_then r E shD o fun v H1 φ1 st1 d r1 e1 E1 p1 o1 => ?_
    refine ⟨φ1, env, st1, r1, E1, (OutG.bind (rep1 := fun _ _ _ _ (a : Option Int) (b : Option Int) => a = b) r1 shD o1).imp fun l1 H2 ⟨φ2, st2, d2, r2, e2, p2, o3⟩ => ?_⟩
    have p2' : d2 = l1 := p2
    subst p2'
    refine ⟨φ2, env, st2, r2, E1.ext r1 e2, (OutG.bind (rep1 := fun _ _ _ _ (a : Option Int) (b : Option Int) => a = b) r2 shD o3).imp fun u1 H3 ⟨φ3, st3, d3, r3, e3, p3, o4⟩ => ?_⟩
    have p3' : d3 = u1 := p3
    subst p3'
    exact ⟨φ3, st3, d, r3, r2.rep e3 (r1.rep e2 p1.1), o4.of⟩
  · cases h
end
end Cip

set_option maxHeartbeats 1000000
/-! Cip11r: xs[::-1], of lists and of tuples. -/
namespace Cip
open PySem PySem.Spec PyProof.Rows L2 HT
section
variable {prog : Program} {w : World} {A : Around} {E : Value → Shared → Prop} {s : Shared}
theorem adjust_rev (n : Nat) : Builtin.Slice.sliceAdjust none none (-1) (n : Int) = ((n : Int) - 1, -1) := by
  unfold Builtin.Slice.sliceAdjust
  simp
theorem places_rev (n : Nat) : Builtin.Slice.slicePlaces ((n : Int) - 1) (-1) (-1) = n := by
  unfold Builtin.Slice.slicePlaces
  have h1 : ¬ ((-1 : Int) > 0) := by omega
  have h2 : (- -1 : Int) = 1 := rfl
  simp only [h1, if_false, h2, Int.ediv_one]
  split <;> omega
theorem pick_rev (xs : Array Value) : ((List.range xs.size).filterMap fun (m : Nat) => xs[(((xs.size : Int) - 1) + (m : Int) * (-1)).toNat]?).toArray = xs.toList.reverse.toArray := by
  congr 1
  apply List.ext_getElem?
  intro k
  have hf : ∀ l : List Nat, (∀ m ∈ l, m < xs.size) → l.filterMap (fun (m : Nat) => xs[(((xs.size : Int) - 1) + (m : Int) * (-1)).toNat]?) = l.map fun m => (xs[xs.size - 1 - m]?).getD .none := fun l => by
    induction l with
    | nil => exact fun _ => rfl
    | cons m l ih =>
      intro h
      have hm := h m (by simp)
      have e : (((xs.size : Int) - 1) + (m : Int) * (-1)).toNat = xs.size - 1 - m := by omega
      have e2 : xs[xs.size - 1 - m]? = some xs[xs.size - 1 - m] := Array.getElem?_eq_getElem (by omega)
      rw [List.filterMap_cons, e, e2, List.map_cons, e2, ih fun k hk => h k (List.mem_cons_of_mem _ hk)]
      rfl
  have hf := hf (List.range xs.size) fun m hm => List.mem_range.mp hm
  rw [hf, List.getElem?_map]
  by_cases hk : k < xs.size
  · rw [List.getElem?_range hk, List.getElem?_reverse (by simpa using hk)]
    simp only [Option.map_some, Array.length_toList]
    rw [Array.getElem?_eq_getElem (by omega)]
    simp
  · rw [List.getElem?_eq_none (by simp; omega), List.getElem?_eq_none (by simp; omega)]
    rfl
theorem sliceApplied_rev {sl : Addr} {vl vu vs : Value} {n : Nat} {Q : Int × Int × Nat → Shared → Prop} (hs : s.heap.IsSliceOf sl vl vu vs) (pl : IsPart vl none) (pu : IsPart vu none) (ps : IsPart vs (some (-1)))
    (h : Q ((n : Int) - 1, -1, n) s) : wpAny (model prog w) A (Builtin.Slice.sliceApplied (.ref sl) (pure (n : Int))) Q E s := by
  obtain ⟨os, hos, hcs, hds⟩ := id hs
  unfold Builtin.Slice.sliceApplied Builtin.Slice.sliceFields
  refine wpAny_bind (wpAny_bind (wpAny_field hos hds (x := vl) rfl (wpAny_bind (wpAny_field hos hds (x := vu) rfl (wpAny_bind (wpAny_field hos hds (x := vs) rfl (wpAny_pure ?_)))))))
  refine wpAny_bind (slicePart_ ps ?_)
  show wpAny _ _ (if ((-1 : Int) == 0) = true then _ else _) _ _ s
  rw [if_neg (by decide)]
  refine wpAny_bind (slicePart_ pl (wpAny_bind (slicePart_ pu (wpAny_bind (wpAny_pure ?_)))))
  show wpAny _ _ (match Builtin.Slice.sliceAdjust none none (-1) (n : Int) with | (lo, hi) => pure (lo, (-1 : Int), Builtin.Slice.slicePlaces lo hi (-1))) _ _ s
  rw [adjust_rev n]
  show wpAny _ _ (pure ((n : Int) - 1, (-1 : Int), Builtin.Slice.slicePlaces ((n : Int) - 1) (-1) (-1))) _ _ s
  rw [places_rev]
  exact wpAny_pure h
theorem getItem_tuple_rev {t sl : Addr} {items : Array Value} {vl vu vs : Value} {Q : Value → Shared → Prop} (ht : IsTup s.heap t items) (hs : s.heap.IsSliceOf sl vl vu vs) (pl : IsPart vl none) (pu : IsPart vu none) (ps : IsPart vs (some (-1)))
    (h : Q (.ref s.heap.objs.size) { s with heap := s.heap.push { cls := .type "tuple", data := .seq items.toList.reverse.toArray } })
    (hsz : items.size ≤ sizeLine) : wpAny (model prog w) A (getItem (.ref t) (.ref sl)) Q E s := by
  have htake : sizeOk (.seq items.toList.reverse.toArray) := by
    show items.toList.reverse.toArray.size ≤ sizeLine
    simpa using hsz
  obtain ⟨os, hos, hcs, hds⟩ := id hs
  have hTs : s.TypeIs (.ref sl) "slice" := ⟨os, hos, hcs⟩
  unfold getItem
  try with_reducible refine wpAny_holding ?_
  first | refine wpAny_bind (wpAny_pure ?_) | skip
  refine wpAny_bind (wpAny_sequenceKey ht.typeIs (by decide) ?_)
  refine wpAny_bind (wpAny_callSpecial?_slot (name := Str.ofString "__getitem__") ht.typeIs PyProof.Rows.slot_tuple_getitem
    (wpAny_call_entry PyProof.Rows.slot_tuple_getitem ht.typeIs entry_tuple_getitem ?_ (args_tuple_getitem _ _)))
  show wpAny _ _ (Builtin.Tuple.tupleItemsOf (.ref t) >>= _) _ _ s
  refine wpAny_bind (tupleItemsOf_ ht ?_)
  refine wpAny_bind (wpAny_typeOf hTs ?_)
  rw [if_pos (by decide)]
  refine wpAny_bind (sliceApplied_rev hs pl pu ps ?_)
  have hno : ¬ (((((items.size : Int) - 1) == 0) && (-1 : Int) == 1 && items.size == items.size) = true) := by
    intro q
    rw [Bool.and_eq_true, Bool.and_eq_true] at q
    exact absurd q.1.2 (by decide)
  show wpAny _ _ (if ((((items.size : Int) - 1) == 0) && (-1 : Int) == 1 && items.size == items.size) = true then _ else _) _ _ s
  rw [if_neg hno, pick_rev]
  first
    | exact wpAny_bind (m := Builtin.Tuple.tupleExact _) (wpAny_newObj_type (wpAny_pure ⟨_, rfl, wpAny_pure h⟩) htake)
    | exact wpAny_bind (m := Builtin.Tuple.tupleExact _) (wpAny_newObj_type (wpAny_bind (wpAny_pure (wpAny_pure ⟨_, rfl, wpAny_pure h⟩))) htake)
    | exact wpAny_bind (wpAny_bind (m := Builtin.Tuple.tupleExact _) (wpAny_newObj_type (wpAny_pure (wpAny_pure ⟨_, rfl, wpAny_pure h⟩)) htake))
    | exact wpAny_bind (wpAny_bind (m := Builtin.Tuple.tupleExact _) (wpAny_newObj_type (wpAny_pure ⟨_, rfl, wpAny_pure h⟩) htake))
end
end Cip

set_option maxHeartbeats 4000000
/-! Cip12: calls. -/
namespace Cip
open PySem PySem.Spec PyProof.Rows L2

section
variable {Γ : Tx} {cf : CF} {P : Pn} {t : Nm} {k : Nat}
/-- a call's outcome, to the def's promise -/
theorem sp_of {X : Cx} {W : WX} {f : Nat} {φ : Fi} {H : Hp} {σ : L2.St} {st : Store} {ds : List D} {vs : List V} {Q : VK} (r : Rel (rz X t) φ H st) (hr : Reps X.K φ H ds vs) (o : OutG (rz X t) (repD (rz X t) false) W φ H σ (cf f ds st) Q) :
    spOf X.K t cf f ds.length vs H Q fun cls d H' => W cls d σ H' := by
  refine ⟨φ, ds, st, r, hr, rfl, ?_⟩
  cases q : cf f ds st with
  | ok d s => rw [q] at o; exact fun φ' H' v a b c => o φ' H' v a b (.weak c)
  | ex c fs s => rw [q] at o; exact o
  | stk => rw [q] at o; exact o
theorem sp_len {K : PySem.W.Frag} {f np : Nat} {vs : List V} {H : Hp} {Q : VK} {E : XK} (h : spOf K t cf f np vs H Q E) : vs.length = np := by
  obtain ⟨φ, ds, st, r, hr, hl, _⟩ := h
  rw [hr.length, hl]
theorem snd_call {f : Nat} {es : List E} (hs : Snds Γ cf P t k es) : Snd Γ cf P t k (.call f es) := by
  intro X W x G h
  simp only [chk, kCall] at h
  rw [Bool.and_eq_true] at h
  obtain ⟨h, hhas⟩ := h
  split at h
  · rename_i y _ xs pos
    simp only [Bool.and_eq_true] at h
    obtain ⟨a, fd, ps, ⟨hm, hk⟩, hb, hl, F⟩ := G.fns.fn f hhas
    obtain rfl := of_decide_eq_true h.1.1
    obtain ⟨hp, hns⟩ := snd_args es hs X W xs G h.2
    refine ⟨⟨fun pins s σ H Q I ⟨φ, env, st, r, E, o⟩ => ?_⟩, rfl⟩
    simp only [ev] at o
    -- the arguments, then the call
    have hA : tIs Γ cf (rz X t) W es σ H (fun vs H1 => spOf X.K t cf f ps.length vs H1 Q fun cls d H' => W cls d σ H') :=
      tIs_then r E shD o fun v H1 φ1 st1 ds r1 e1 E1 p1 o1 => by
        by_cases e : ds.length = ps.length
        · rw [← e]
          exact sp_of r1 p1 o1
        · rw [hl ds st1 e] at o1
          exact o1.elim
    refine wpAny_Call_Name_kw (ld_glob I (G.glob h.1.2) hm ?_ (nm0_d (glB_nm h.1.2)))
    cases xs with
    | nil =>
      refine PySem.W.callWith_K0 I.kIn hk ?_
      have he : es = [] := by
        cases es with
        | nil => rfl
        | cons e es => obtain ⟨_, _, e, _⟩ := chks_cons h.2; cases e
      subst he
      obtain ⟨φ', env', st', r', E', o'⟩ := hA
      rw [evs_nil] at o'
      exact run_fng (us := []) F G.grd (G.room.mono (Nat.le_succ k)) hb G.tk I .nil (o' φ' H [] r' .refl rfl)
    | cons y ys =>
      have hy : headOk y = true := by
        have : (headOk y && noStars ys) = true := hns
        exact (Bool.and_eq_true_iff.mp this).1
      have hys : noStars ys = true := by
        have : (headOk y && noStars ys) = true := hns
        exact (Bool.and_eq_true_iff.mp this).2
      refine PySem.W.callWith_K (h₀ := X.base) I.ok.mod.kin hk (thn (hp.run pos pins s σ H _ I hA) fun us s1 ⟨vs, H1, I1, ru, q⟩ => ⟨I1.kIn, ?_⟩) (head_star hy) (noStars_any hys)
      exact run_fng F G.grd (G.room.mono (Nat.le_succ k)) hb G.tk I1 ru q
  · cases h
/-! ### built-in calls -/
theorem reps1 {T : Rz} {φ : Fi} {H : Hp} {d : D} {vs : List V} (h : Reps T.K φ H [d] vs) : ∃ v, vs = [v] ∧ Rep T.K φ H d v := by
  obtain ⟨v, r, h1, h2, h3⟩ := h
  have h3 : r = [] := h3
  subst h3
  exact ⟨v, h1, h2⟩
theorem reps2 {T : Rz} {φ : Fi} {H : Hp} {d e : D} {vs : List V} (h : Reps T.K φ H [d, e] vs) : ∃ v w, vs = [v, w] ∧ Rep T.K φ H d v ∧ Rep T.K φ H e w := by
  obtain ⟨v, r, h1, h2, w, r2, h3, h4, h5⟩ := h
  have h5 : r2 = [] := h5
  subst h5
  exact ⟨v, w, by rw [h1, h3], h2, h4⟩
theorem cr_of1 {X : Cx} {f : Value} {g : Store → D → Option D} (h : C1 X t f g) (fr : Bool) : CallR X f (fun xs H Q => ∃ φ st d v, xs = [v] ∧ Rel (rz X t) φ H st ∧ Rep X.K φ H d v ∧ OutO (rz X t) fr φ H st (g st d) Q) := by
  intro pins s σ H xs us Q I ru ⟨φ, st, d, v, e, r, hd, o⟩
  subst e
  cases ru with
  | cons r1 r2 =>
    cases r2
    exact h fr pins s σ H v _ Q φ st d I (.cons r1 .nil) r hd o
theorem bi_one {X : Cx} {W : WX} {b : BI} {es : List E} {σ : L2.St} {H : Hp} {Q : VK} (hb : ∀ st d e, bi2 st b d e = none) (h : tI Γ cf (rz X t) W (.bi b es) σ H Q) :
    tCB (fun xs H Q => ∃ φ st d v, xs = [v] ∧ Rel (rz X t) φ H st ∧ Rep X.K φ H d v ∧ OutO (rz X t) (E.bi b es).fresh φ H st (bi1 st b d) Q) (tIs Γ cf (rz X t) W es) σ H Q := by
  obtain ⟨φ, env, st, r, E0, o⟩ := h
  simp only [ev] at o
  refine tIs_then r E0 shD o fun v H1 φ1 st1 ds r1 e1 E1 p1 o1 => ?_
  match ds, p1, o1 with
  | [], _, o1 => exact o1.elim
  | [d], p1, o1 =>
    obtain ⟨w, hw, hd⟩ := reps1 (T := rz X t) p1
    exact ⟨φ1, st1, d, w, hw, r1, hd, o1.of⟩
  | [d, e], _, o1 =>
    simp only [biD, hb] at o1
    exact o1.elim
  | _ :: _ :: _ :: _, _, o1 => exact o1.elim
theorem bi_two {X : Cx} {W : WX} {b : BI} {es : List E} {σ : L2.St} {H : Hp} {Q : VK} (hb : ∀ st d, bi1 st b d = none) (h : tI Γ cf (rz X t) W (.bi b es) σ H Q) :
    tCB (fun xs H Q => ∃ φ st d e v w, xs = [v, w] ∧ Rel (rz X t) φ H st ∧ Rep X.K φ H d v ∧ Rep X.K φ H e w ∧ OutO (rz X t) (E.bi b es).fresh φ H st (bi2 st b d e) Q) (tIs Γ cf (rz X t) W es) σ H Q := by
  obtain ⟨φ, env, st, r, E0, o⟩ := h
  simp only [ev] at o
  refine tIs_then r E0 shD o fun v H1 φ1 st1 ds r1 e1 E1 p1 o1 => ?_
  match ds, p1, o1 with
  | [], _, o1 => exact o1.elim
  | [d], _, o1 =>
    simp only [biD, hb] at o1
    exact o1.elim
  | [d, e], p1, o1 =>
    obtain ⟨v1, v2, hw, hd, he⟩ := reps2 (T := rz X t) p1
    exact ⟨φ1, st1, d, e, v1, v2, hw, r1, hd, he, o1.of⟩
  | _ :: _ :: _ :: _, _, o1 => exact o1.elim
theorem cr_max2 {X : Cx} (hc : X.calm = true) (fr : Bool) : CallR X (.builtin "max") (fun xs H Q => ∃ φ st d e v w, xs = [v, w] ∧ Rel (rz X t) φ H st ∧ Rep X.K φ H d v ∧ Rep X.K φ H e w ∧ OutO (rz X t) fr φ H st (bi2 st .max2 d e) Q) := by
  intro pins s σ H xs us Q I ru ⟨φ, st, d, e, v, w, hx, r, hd, he, o⟩
  subst hx
  cases d with
  | int i => cases e with
    | int j => cases hd; cases he; exact call_max2 hc pins s σ H _ us Q I ru ⟨i, j, rfl, o.flat r rfl⟩
    | _ => exact o.elim
  | _ => cases e <;> exact o.elim
theorem cr_min2 {X : Cx} (hc : X.calm = true) (fr : Bool) : CallR X (.builtin "min") (fun xs H Q => ∃ φ st d e v w, xs = [v, w] ∧ Rel (rz X t) φ H st ∧ Rep X.K φ H d v ∧ Rep X.K φ H e w ∧ OutO (rz X t) fr φ H st (bi2 st .min2 d e) Q) := by
  intro pins s σ H xs us Q I ru ⟨φ, st, d, e, v, w, hx, r, hd, he, o⟩
  subst hx
  cases d with
  | int i => cases e with
    | int j => cases hd; cases he; exact call_min2 hc pins s σ H _ us Q I ru ⟨i, j, rfl, o.flat r rfl⟩
    | _ => exact o.elim
  | _ => cases e <;> exact o.elim
theorem chars_reps {T : Rz} {φ : Fi} {H : Hp} : ∀ (cs : List Nat), Reps T.K φ H (cs.map fun c => D.str ⟨#[c]⟩) (cs.map fun c => V.str ⟨#[c]⟩)
  | [] => rfl
  | c :: cs => ⟨_, _, rfl, ⟨rfl, by show 1 ≤ sizeLine; decide⟩, chars_reps cs⟩
theorem vals_chars {x : Str} : ∀ (us : List Value) (cs : List Nat), us.length = cs.length → (∀ (j : Nat) (v : Value), us[j]? = some v → ∃ c u, cs[j]? = some c ∧ v = Value.str ⟨#[c]⟩ u) → Vals (cs.map fun c => V.str ⟨#[c]⟩) us
  | [], [], _, _ => .nil
  | u :: us, c :: cs, hl, h => by
    obtain ⟨c', tk, h1, h2⟩ := h 0 u rfl
    cases h1
    exact .cons ⟨tk, h2⟩ (vals_chars (x := x) us cs (by simpa using hl) fun j v hv => h (j + 1) v hv)
  | [], _ :: _, hl, _ => by cases hl
  | _ :: _, [], hl, _ => by cases hl
theorem c1_list {X : Cx} (hc : X.calm = true) : C1 X t (.type "list") fun st d => bi1 st .list d := by
  intro fr pins s σ H v u Q φ st d I ru r hd h
  by_cases hs : ∃ x, d = .str x
  · obtain ⟨x, rfl⟩ := hs
    have hz := hd.2
    cases hd.1
    cases ru with
    | cons r1 r2 =>
      cases r2
      obtain ⟨tk, rfl⟩ := r1
      refine call_list_str (I.ok.hd hc) x tk (hn := hz) fun h' tk' acc c' hk e hi => ?_
      have hv : Vals (x.cps.toList.map fun c => V.str ⟨#[c]⟩) acc.toList := vals_chars (x := x) _ _ (by rw [Array.length_toList, Array.length_toList, hi.1]) fun j w hw => by
        obtain ⟨c, tk2, q1, q2⟩ := hi.2 j w (by simpa using hw)
        exact ⟨c, tk2, by simpa using q1, q2⟩
      have hl : (x.cps.toList.map fun c => V.str ⟨#[c]⟩).length ≤ sizeLine := by
        rw [List.length_map, Array.length_toList]
        exact hz
      have I2 := I.laid (a := s.heap.objs.size) (o := .lst (x.cps.toList.map fun c => V.str ⟨#[c]⟩)) (t' := tk') (h' := h') hk (Nat.le_refl _) ⟨hl, acc.toList, c', hv, by simpa using e⟩
      refine ⟨.ref s.heap.objs.size, _, I2, rfl, ?_⟩
      exact h.lst r (I.hok.fresh (Nat.le_refl _)) (chars_reps _) (by rw [List.length_map, Array.length_toList]; exact hz)
  cases q : seqD st d with
  | some xs =>
    have h' : OutO (rz X t) fr φ H st (some (.lst xs)) Q := by
      cases d with
      | str x => cases q
      | _ => simp only [bi1, q] at h; exact h
    obtain ⟨p, vs, rfl, h2, h3, h4⟩ := seq_at r hd q
    exact call_list_of pins s σ H _ _ Q I ru ⟨p, vs, rfl, h2, fun l hl => h'.lst r hl h4 h3⟩
  | none =>
    cases d with
    | str x => exact absurd ⟨x, rfl⟩ hs
    | _ => simp only [bi1, q] at h; exact h.elim
/-- a built-in function, a type, by its name -/
theorem snd_biB {X : Cx} {W : WX} {b : BI} {id : String} {es : List E} {y : Str} {p pos : Pos} {xs : List Expr} {r : List V → Hp → VK → Prop} (hs : Snds Γ cf P t k es) (G : Good Γ cf P t k X W) (hy : glB X.env.scope y = true) (hm : y ∈ bltNames)
    (hb : bootBuiltins y = some (.builtin id)) (hc : CallR X (.builtin id) r) (hne : es ≠ []) (h : chks P X.N es X.env.scope xs = true)
    (hi : ∀ σ H Q, tI Γ cf (rz X t) W (.bi b es) σ H Q → tCB r (tIs Γ cf (rz X t) W es) σ H Q) : PE X (.Call (.Name y p) xs [] pos) (tI Γ cf (rz X t) W (.bi b es)) := by
  obtain ⟨hp, hns⟩ := snd_args es hs X W xs G h
  cases xs with
  | nil =>
    cases es with
    | nil => exact absurd rfl hne
    | cons e es => obtain ⟨_, _, e, _⟩ := chks_cons h; cases e
  | cons z zs =>
    have hz : (headOk z && noStars zs) = true := hns
    rw [Bool.and_eq_true] at hz
    exact pe_imp (pe_callB hc (G.glob hy) (G.top.blt y hm) hb hp (nm0_n (glB_nm hy)) (nm0_d (glB_nm hy)) (head_star hz.1) (noStars_any hz.2)) hi
theorem snd_biT {X : Cx} {W : WX} {b : BI} {id : String} {es : List E} {y : Str} {p pos : Pos} {xs : List Expr} {r : List V → Hp → VK → Prop} (hs : Snds Γ cf P t k es) (G : Good Γ cf P t k X W) (hy : glB X.env.scope y = true) (hm : y ∈ bltNames)
    (hb : bootBuiltins y = some (.type id)) (hc : CallR X (.type id) r) (hne : es ≠ []) (h : chks P X.N es X.env.scope xs = true)
    (hi : ∀ σ H Q, tI Γ cf (rz X t) W (.bi b es) σ H Q → tCB r (tIs Γ cf (rz X t) W es) σ H Q) : PE X (.Call (.Name y p) xs [] pos) (tI Γ cf (rz X t) W (.bi b es)) := by
  obtain ⟨hp, hns⟩ := snd_args es hs X W xs G h
  cases xs with
  | nil =>
    cases es with
    | nil => exact absurd rfl hne
    | cons e es => obtain ⟨_, _, e, _⟩ := chks_cons h; cases e
  | cons z zs =>
    have hz : (headOk z && noStars zs) = true := hns
    rw [Bool.and_eq_true] at hz
    exact pe_imp (pe_callTy hc (G.glob hy) (G.top.blt y hm) hb hp (nm0_n (glB_nm hy)) (nm0_d (glB_nm hy)) (head_star hz.1) (noStars_any hz.2)) hi
theorem snd_bi {b : BI} {es : List E} (hs : Snds Γ cf P t k es) : Snd Γ cf P t k (.bi b es) := by
  intro X W x G h
  simp only [chk, kCall] at h
  rw [Bool.and_eq_true, Bool.and_eq_true] at h
  obtain ⟨⟨h, hn⟩, hok⟩ := h
  have hne := ne_of_empty hn
  split at h
  · rename_i y _ xs pos
    simp only [Bool.and_eq_true] at h
    obtain ⟨⟨h1, h2⟩, h3⟩ := h
    have h1 := of_decide_eq_true h1
    subst h1
    refine ⟨?_, rfl⟩
    cases b with
    | len => exact snd_biB hs G h2 (by decide) (by decide +kernel) (cr_of1 c1_len _) hne h3 fun σ H Q q => bi_one (fun _ _ _ => rfl) q
    | abs => exact snd_biB hs G h2 (by decide) (by decide +kernel) (cr_of1 c1_abs _) hne h3 fun σ H Q q => bi_one (fun _ _ _ => rfl) q
    | int => exact snd_biT hs G h2 (by decide) (by decide +kernel) (cr_of1 c1_int _) hne h3 fun σ H Q q => bi_one (fun _ _ _ => rfl) q
    | str => exact snd_biT hs G h2 (by decide) (by decide +kernel) (cr_of1 c1_str _) hne h3 fun σ H Q q => bi_one (fun _ _ _ => rfl) q
    | repr => exact snd_biB hs G h2 (by decide) (by decide +kernel) (cr_of1 (c1_repr G.grd G.hu) _) hne h3 fun σ H Q q => bi_one (fun _ _ _ => rfl) q
    | sum => exact snd_biB hs G h2 (by decide) (by decide +kernel) (cr_of1 (c1_sum G.calm) _) hne h3 fun σ H Q q => bi_one (fun _ _ _ => rfl) q
    | all => exact snd_biB hs G h2 (by decide) (by decide +kernel) (cr_of1 (c1_all G.calm) _) hne h3 fun σ H Q q => bi_one (fun _ _ _ => rfl) q
    | any => exact snd_biB hs G h2 (by decide) (by decide +kernel) (cr_of1 (c1_any G.calm) _) hne h3 fun σ H Q q => bi_one (fun _ _ _ => rfl) q
    | tuple => exact snd_biT hs G h2 (by decide) (by decide +kernel) (cr_of1 c1_tuple _) hne h3 fun σ H Q q => bi_one (fun _ _ _ => rfl) q
    | max2 => exact snd_biB hs G h2 (by decide) (by decide +kernel) (cr_max2 G.calm _) hne h3 fun σ H Q q => bi_two (fun _ _ => rfl) q
    | min2 => exact snd_biB hs G h2 (by decide) (by decide +kernel) (cr_min2 G.calm _) hne h3 fun σ H Q q => bi_two (fun _ _ => rfl) q
    | list => exact snd_biT hs G h2 (by decide) (by decide +kernel) (cr_of1 (c1_list G.calm) _) hne h3 fun σ H Q q => bi_one (fun _ _ _ => rfl) q
    | sorted => cases hok
    | set => cases hok
    | lenset => cases hok
  · cases h
end
end Cip

set_option maxHeartbeats 4000000
/-! Cip12b: how many unlike texts there are in a list: len(set(..)). -/
namespace Cip
open PySem PySem.Spec PyProof.Rows
theorem dist_snoc (xs : List Str) (x : Str) : dist (xs ++ [x]) = dstep (dist xs) x := by simp [dist]
theorem dist_fold : ∀ (xs : List Str) (p : List Str × Nat), (∀ y, y ∈ (xs.foldl dstep p).1 ↔ y ∈ xs ∨ y ∈ p.1) ∧ (xs.foldl dstep p).2 ≤ p.2 + xs.length
  | [], p => ⟨fun y => by simp, Nat.le_refl _⟩
  | x :: xs, p => by
    obtain ⟨h1, h2⟩ := dist_fold xs (dstep p x)
    refine ⟨fun y => ?_, ?_⟩
    · rw [List.foldl_cons, h1]
      simp only [dstep, List.mem_cons]
      constructor
      · rintro (h | h | h)
        · exact .inl (.inr h)
        · exact .inl (.inl h)
        · exact .inr h
      · rintro ((h | h) | h)
        · exact .inr (.inl h)
        · exact .inl h
        · exact .inr (.inr h)
    · rw [List.foldl_cons]
      have : (dstep p x).2 ≤ p.2 + 1 := by unfold dstep; simp only; split <;> omega
      simp only [List.length_cons]
      omega
theorem dist_le (xs : List Str) : (dist xs).2 ≤ xs.length := by
  have h : (dist xs).2 ≤ 0 + xs.length := (dist_fold xs ([], 0)).2
  omega
section
variable {prog : Program} {w : World} {A : Around} {R : Result → Shared → Prop} {I : Addr} {fp wr : List Addr} {G : Array GenState → Array GenState → Prop} {n : Nat} {P : Nat → Value → Prop} {St : Nat → Shared → Prop}
/-- what the set holds when i items are through -/
abbrev Thru (h : Heap) (prog : Program) (w : World) (S : Addr) (xs : List Str) (i : Nat) : Prop := h.SetOf (PySem.strKind prog w) S (fun y => decide (y ∈ (dist (xs.take i)).1)) (dist (xs.take i)).2
theorem thru_loop (W : WalksS prog w A.in1 I fp wr G n P St) (S : Addr) (hf : S ∉ fp) (xs : List Str) (hn : xs.length = n) (hb : n + 1 < scanBound) (hv : ∀ i v, P i v → ∃ t, v = .str (xs.getD i Str.empty) t) :
    ∀ (m i : Nat) (s : Shared), n - i = m → i ≤ n → St i s → Thru s.heap prog w S xs i → (∀ s', Moved (S :: wr) G s s' → Thru s'.heap prog w S xs n → R (.ok (.ret .none)) s') →
      codeAny (model prog w) A (.builtin "set.update.loop" ⟨[.ref S, .ref I], []⟩) R s
  | 0, i, s, hm, hi, hst, hS, hR => by
    obtain rfl : i = n := by omega
    refine codeAny_builtin F.entry_set_update_loop ?_
    rw [Around.under_plainId F.plain_set_update_loop _]
    show wpAny _ A.in1 (pyNext (.ref I) >>= _) _ _ s
    refine wpAny_bind (W.done s _ _ hst fun s' mv => wpAny_pure (hR s' (mv.mono fun b hb => List.mem_cons_of_mem _ hb) ?_))
    obtain ⟨o, es, ep, t, ho, r⟩ := hS
    exact ⟨o, es, ep, t, mv.heap S _ (fun h => hf (W.sub _ h)) ho, r⟩
  | m + 1, i, s, hm, hi, hst, hS, hR => by
    have lt : i < n := by omega
    have hix : xs[i]? = some (xs.getD i Str.empty) := by
      rw [List.getD_eq_getElem?_getD, List.getElem?_eq_getElem (by omega)] <;> rfl
    have etake : xs.take (i + 1) = xs.take i ++ [xs.getD i Str.empty] := by rw [List.take_add_one, hix] <;> rfl
    refine codeAny_builtin F.entry_set_update_loop ?_
    rw [Around.under_plainId F.plain_set_update_loop _]
    show wpAny _ A.in1 (pyNext (.ref I) >>= _) _ _ s
    refine wpAny_bind (W.item i s _ _ lt hst fun v s' hP hst' mv => ?_)
    obtain ⟨t, rfl⟩ := hv i v hP
    generalize hx : xs.getD i Str.empty = x at *
    have hS1 : Thru s'.heap prog w S xs i := by
      obtain ⟨o, es, ep, tb, ho, r⟩ := hS
      exact ⟨o, es, ep, tb, mv.heap S _ (fun h => hf (W.sub _ h)) ho, r⟩
    show wpAny _ A.in1 (holding [Value.str x t] (setAdd S (.str x t)) >>= _) _ _ s'
    refine wpAny_bind (wpAny_holding ?_)
    unfold setAdd
    refine wpAny_holding (wpAny_bind ((PySem.strKind prog w).pyHash (k := x) (strKind_is _ _ _ _) ?_))
    have hroom : (dist (xs.take i)).2 + 1 < scanBound := by
      have := dist_le (xs.take i)
      have := List.length_take_le i xs
      omega
    refine wpAny_setAddHashed_of (knd := PySem.strKind prog w) (s := { s' with toks := s'.toks + 1 }) (strKind_is _ _ _ _) rfl hS1 hroom fun h' sb hS2 => ?_
    have hS3 : Thru h' prog w S xs (i + 1) := by
      refine SetOf_congr hS2 (fun y => ?_) ?_
      · rw [etake, dist_snoc]
        rw [Bool.eq_iff_iff]
        simp only [dstep, Bool.or_eq_true, decide_eq_true_eq, List.mem_cons]
        exact Or.comm
      · rw [etake, dist_snoc]
        simp only [dstep, decide_eq_true_eq]
    have keep : ∀ b, b ≠ S → ∀ o, s'.heap.get? b = some o → h'.get? b = some o := fun b hb o e => (sb.2 b hb).trans e
    refine wpAny_pure ⟨plainId_quiet F.plain_set_update_loop _, ?_⟩
    refine thru_loop W S hf xs hn hb hv m (i + 1) _ (by omega) lt (W.frame _ s' _ _ hst' (Nat.le_succ _) fun b hb o e => keep b (fun h => hf (h ▸ hb)) o e) hS3 fun s2 mv2 hS4 => hR s2 ?_ hS4
    exact Moved.trans W.gtrans ((mv.mono fun b hb => List.mem_cons_of_mem _ hb).then_heap (Nat.le_succ _) fun b o hb e => keep b (fun h => hb (h ▸ List.mem_cons_self)) o e) mv2
end
/-- a set with nothing in it -/
abbrev eset (led : Bool) : Obj := { cls := .type "set", dict := none, data := .set #[] 0 (.fresh 0 0 led) }
section
variable {prog : Program} {w : World} {A : Around} {E : Value → Shared → Prop} {s : Shared}
theorem strs_get : ∀ {us : List Value} {xs : List Str}, StrsAre us xs → ∀ (i : Nat) (v : Value), us[i]? = some v → ∃ t, v = .str (xs.getD i Str.empty) t
  | _, _, .nil, _, _, h => by simp at h
  | _, _, .cons x t r, 0, v, h => ⟨t, by simpa using h.symm⟩
  | _, _, .cons x t r, i + 1, v, h => by simpa using strs_get r i v (by simpa using h)
theorem strs_len : ∀ {us : List Value} {xs : List Str}, StrsAre us xs → us.length = xs.length
  | _, _, .nil => rfl
  | _, _, .cons _ _ r => by rw [List.length_cons, List.length_cons, strs_len r]
/-- set(l) of a list of texts -/
theorem set_of_strs {l : Addr} {its : Array Value} {xs : List Str} {Q : Value → Shared → Prop} (hh : A.handled = none) (hl : s.heap.IsList l its) (hi : StrsAre its.toList xs) (hb : xs.length + 1 < scanBound)
    (h : ∀ (h' : Heap) (tk : Nat), Thru h' prog w s.heap.objs.size xs xs.length → (∀ b o, b < s.heap.objs.size → s.heap.get? b = some o → h'.get? b = some o) → Q (.ref s.heap.objs.size) { s with heap := h', toks := tk }) :
    wpAny (model prog w) A (call (.type "set") [.ref l]) Q E s := by
  have hsz : xs.length = its.size := by rw [← strs_len hi, Array.length_toList]
  obtain ⟨c, tl, hmro⟩ := F.called_set.mro
  have c1 := F.called_set.made
  have c2 := F.called_set.sub
  refine wpAny_call (codeAny_of_tree ?_)
  show wpAny _ _ (callAny (.type "set") _) _ _ _
  refine wpAny_pure ⟨Code.quiet_builtin _ (by decide +kernel), ?_⟩
  refine codeAny_builtin F.entry_type_call ?_
  rw [Around.under_plain (weight_type_call_type "set" [.ref l] []) rfl]
  have c3 := F.called_set.notType
  have c4 := F.called_set.canCreate
  have c5 := F.typeCall_set_1 (.ref l)
  repeat any_goals first | assumption | wp_step
  refine codeAny_mono (code_set_new_1 (.ref l) (E := E) (Q₁ := fun ob t => ∃ led : Bool, ob = .ref s.heap.objs.size ∧ t = { s with heap := s.heap.push (eset led) }) fun led => ⟨led, rfl, rfl⟩) fun r s1 hr => ?_
  rcases r with e | fl
  · exact hr
  cases fl with
  | ret ob =>
    obtain ⟨led, rfl, rfl⟩ := hr
    have g1 : (s.heap.push (eset led)).get? s.heap.objs.size = some (eset led) := Heap.get?_push_size _ rfl
    have ty : Shared.TypeIs { s with heap := s.heap.push (eset led) } (.ref s.heap.objs.size) "set" := ⟨_, g1, rfl⟩
    have i1 := F.called_set.init.lookup
    have i2 := F.called_set.init.bind (.ref s.heap.objs.size)
    repeat any_goals first | assumption | wp_step
    refine codeAny_mono (codeAny_call_builtin (R := wants (fun r t => r = .none ∧ ∃ h' tk, t = { s with heap := h', toks := tk } ∧ Thru h' prog w s.heap.objs.size xs xs.length ∧ ∀ b o, b < s.heap.objs.size → s.heap.get? b = some o → h'.get? b = some o) E)
      F.called_set.init.plain F.entry_set_init (check_set_init_1 ty ?_)) fun r2 s2 hr2 => ?_
    · obtain ⟨⟨oc, od, oa, os⟩, ho, e1, m, e2⟩ := hl
      simp only at e1 e2
      subst e1 e2
      have hlt : l < s.heap.objs.size := Heap.lt_size ho
      have ho1 : (s.heap.push (eset led)).get? l = some { cls := .type "list", dict := od, data := .seq its m, slots := os } := Heap.get?_push_of_some _ ho
      have hl1 : (s.heap.push (eset led)).IsList l its := ⟨_, ho1, rfl, m, rfl⟩
      have t1 := F.sub_list_set
      have t2 := F.sub_list_frozenset
      have t3 : (Value.type "list" == Value.type "dict") = false := by decide
      unfold Builtin.«set.__init__» noKeywords Builtin.Frozenset.updateFrom
      generalize hPI : pyIter = PI
      wp_walk
      subst hPI
      refine wpAny_pyIter_list hl1 (wpAny_bind (wpAny_runValue ?_))
      have psz : (s.heap.push (eset led)).objs.size = s.heap.objs.size + 1 := Heap.size_push ..
      have n1 : l ≠ (s.heap.push (eset led)).objs.size := by rw [psz]; exact Nat.ne_of_lt (Nat.lt_succ_of_lt hlt)
      have n2 : s.heap.objs.size ∉ [(s.heap.push (eset led)).objs.size, l] := by
        simp only [List.mem_cons, List.not_mem_nil, or_false, not_or]
        rw [psz]
        exact ⟨Nat.ne_of_lt (Nat.lt_succ_self _), Nat.ne_of_gt hlt⟩
      have hh3 : A.in1.in1.in1.handled = none := by simp [hh]
      refine thru_loop ((Walks.list hh3 _ l n1 its).toS) s.heap.objs.size n2 xs hsz (by omega) (fun i v hv => strs_get hi i v (by rw [Array.getElem?_toList]; exact hv)) (its.size - 0) 0 _ (by omega) (Nat.zero_le _)
        ⟨⟨_, Heap.get?_push_size _ rfl, rfl, rfl⟩, hl1.push _⟩ ?start ?stop
      case start =>
        have g2 : ((s.heap.push (eset led)).push { cls := .type "list_iterator", data := .fields #[.ref l, .int 0 0] }).get? s.heap.objs.size = some (eset led) := Heap.get?_push_of_some _ g1
        exact SetOf_congr ((setObjOf_fresh (knd := PySem.strKind prog w) led).setOf g2 (by unfold scanBound; omega)) (fun _ => rfl) rfl
      case stop =>
        rintro ⟨h', g', d', tk', os'⟩ mv hS'
        obtain rfl : g' = s.gens := mv.gens
        obtain rfl : d' = s.drawn := mv.drawn
        obtain rfl : os' = s.os := mv.os
        show wpAny _ _ _ _ _ _
        refine wpAny_pure ?_
        show wpAny _ _ (ret Value.none) _ _ _
        rw [← hsz] at hS'
        refine wpAny_pure ⟨rfl, h', tk', rfl, hS', fun b o hb e => mv.heap b o ?_ (Heap.get?_push_of_some _ (Heap.get?_push_of_some _ e))⟩
        simp only [List.mem_cons, List.not_mem_nil, or_false, not_or]
        exact ⟨Nat.ne_of_lt hb, by rw [psz]; exact Nat.ne_of_lt (Nat.lt_succ_of_lt hb)⟩
    · rcases r2 with e | fl2
      · exact hr2
      cases fl2 with
      | ret r =>
        obtain ⟨rfl, h', tk, rfl, hS', hk'⟩ := hr2
        repeat any_goals first | assumption | wp_step
        exact h _ _ hS' hk'
      | _ => exact hr2.elim
  | _ => exact hr.elim
end
end Cip

set_option maxHeartbeats 4000000
/-! Cip13: isinstance, methods, the empty dict, append. -/
namespace Cip
open PySem PySem.Spec PyProof.Rows L2

section
variable {Γ : Tx} {cf : CF} {P : Pn} {t : Nm} {k : Nat}
/-! ### isinstance -/
theorem kit_no {K : PySem.W.Frag} {a b : String} {r : Bool} (h : kitB a b = some r) : PySem.W.kitOne K (.type a) (.type b) = some r := kit_ty h
def tyS : Ty → String
  | .int => "int" | .str => "str" | .bool => "bool" | .tuple => "tuple" | .list => "list" | .dict => "dict" | .cls _ => "" | .verr => "ValueError"
theorem sqt_ty {K : PySem.W.Frag} {H : Hp} {a : Addr} {vs : List V} (h : SqT K H a vs) : TyX K H (.ref a) (.type "tuple") := by
  rcases h with (h | ⟨o, h⟩) | ⟨o, its, n, h1, h2, h3, _⟩
  · exact .base (.tup h)
  · exact .fTuple h
  · exact .kTuple h1 h2
/-- the answer of isinstance, for built-in types -/
theorem isi_ok {T : Rz} {φ : Fi} {H : Hp} {st : Store} {d : D} {v : V} {ty : Ty} {b : Bool} (r : Rel T φ H st) (hd : Rep T.K φ H d v) (ho : ownTy ty = false) (h : maxTy st ty d = some b) :
    ∃ t, TyX T.K H v t ∧ PySem.W.kitOne T.K t (.type (tyS ty)) = some b := by
  have lst : ∀ {a : Addr} {vs : List V}, H a = some (.lst vs) → TyX T.K H (.ref a) (.type "list") := fun e => .base (.lst e)
  cases d with
  | non => cases hd; refine ⟨_, .base .non, ?_⟩; cases ty <;> first | (cases h; exact kit_ty (by decide +kernel)) | cases ho
  | bl x => cases hd; refine ⟨_, .base (.bl x), ?_⟩; cases ty <;> first | (cases h; exact kit_ty (by decide +kernel)) | cases ho
  | int x => cases hd; refine ⟨_, .base (.int x), ?_⟩; cases ty <;> first | (cases h; exact kit_ty (by decide +kernel)) | cases ho
  | str x => cases hd.1; refine ⟨_, .base (.str x), ?_⟩; cases ty <;> first | (cases h; exact kit_ty (by decide +kernel)) | cases ho
  | tup xs => obtain ⟨a, vs, rfl, h2, _⟩ := hd; refine ⟨_, sqt_ty h2, ?_⟩; cases ty <;> first | (cases h; exact kit_ty (by decide +kernel)) | cases ho
  | lst xs => obtain ⟨a, vs, rfl, h2, _⟩ := hd; refine ⟨_, lst h2, ?_⟩; cases ty <;> first | (cases h; exact kit_ty (by decide +kernel)) | cases ho
  | dct ks ws => obtain ⟨a, vs, rfl, h2, _⟩ := hd; refine ⟨_, .base (.dK h2), ?_⟩; cases ty <;> first | (cases h; exact kit_ty (by decide +kernel)) | cases ho
  | scr xs => cases ty <;> cases h
  | ref j =>
    obtain ⟨a, h1, rfl⟩ := hd
    cases q : st[j]? with
    | none => cases ty <;> simp [maxTy, q] at h
    | some o =>
      obtain ⟨a', h3, h4⟩ := r.at_ j o q
      rw [h1] at h3; cases h3
      cases o with
      | lst xs =>
        obtain ⟨vs, e, _⟩ := h4
        refine ⟨_, lst e, ?_⟩
        cases ty <;> first | (simp only [maxTy, q] at h; cases h; exact kit_ty (by decide +kernel)) | cases ho
      | dct lk ks ws =>
        obtain ⟨kvs, e, _⟩ := h4
        cases lk with
        | true =>
          simp only [if_true] at e
          obtain ⟨o, e⟩ := e
          refine ⟨_, .fDict e, ?_⟩
          cases ty <;> first | (simp only [maxTy, q] at h; cases h; exact kit_ty (by decide +kernel)) | cases ho
        | false =>
          simp only [Bool.false_eq_true, if_false] at e
          refine ⟨_, .base (.dK e), ?_⟩
          cases ty <;> first | (simp only [maxTy, q] at h; cases h; exact kit_ty (by decide +kernel)) | cases ho
      | ins c fs => cases ty <;> first | (simp only [maxTy, q] at h; cases h; done) | cases ho | skip
      | exc c fs => cases ty <;> first | (simp only [maxTy, q] at h; cases h; done) | cases ho | skip
theorem ty_boot {ty : Ty} (ho : ownTy ty = false) : bootBuiltins ty.nm = some (.type (tyS ty)) := by
  cases ty <;> first | decide +kernel | cases ho
theorem ty_blt {ty : Ty} (ho : ownTy ty = false) : ty.nm ∈ bltNames := by
  cases ty <;> first | decide | cases ho
/-- isinstance(e, c), e an error that is kept -/
theorem call_isX {X : Cx} : CallR X (.builtin "isinstance") (fun xs H Q => ∃ (a D : Addr) (c : V) (cv : Value) (b : Bool) (dd : Option Addr), xs = [.ref a, c] ∧ ExcC X.K D ∧ H a = some (XO (.ref D) dd a) ∧ (∀ d, dd = some d → ∃ gs, H d = some (.xd gs)) ∧ (∀ u, RelV c u → u = cv) ∧ PySem.W.kitOne X.K (.ref D) cv = some b ∧ Q (.bl b) H) := by
  intro pins s σ H xs us Q I r h
  obtain ⟨a, D, c, cv, b, dd, rfl, C, ha, hdd, hcv, e, q⟩ := h
  cases r with
  | cons rx rr =>
    cases rr with
    | cons rt rr =>
      cases rr
      cases rx
      have ec := hcv _ rt
      subst ec
      obtain ⟨⟨oe, vs, hget, hz, hv⟩, _, _⟩ := I.hok a _ ha
      have hcl : (PySem.W.clsIn X.K D).isSome = true := by
        obtain ⟨cd, hc, _⟩ := PySem.W.any_some C.hd
        rw [hc]
        rfl
      have J : ∃ od, PySem.W.InstAt s.heap a oe D od := by
        obtain ⟨oc, od, oda, osl⟩ := oe
        obtain ⟨h1, h2⟩ := hz
        dsimp only at h1 h2 hv
        subst h1 h2 hv
        cases od with
        | none => exact ⟨none, hget, rfl, rfl, trivial⟩
        | some d =>
          obtain ⟨gs, hg⟩ := hdd d rfl
          have hk : ObjOk X.prog X.w H s.heap d (.xd gs) := I.hok d _ hg
          obtain ⟨mA, ⟨o, es, ep, ho, _⟩, _⟩ := hk
          exact ⟨some o, hget, rfl, rfl, ho⟩
      obtain ⟨od, J⟩ := J
      exact PySem.W.kia_one (PySem.W.kitx_exc hcl C.hg C.hk C.hs C.ha C.hn C.ht C.hm) I.kIn J e (fun z => nomatch z) fun tk => ⟨.bl b, H, I.kept (t' := tk) fun _ _ z => z, rfl, q⟩
theorem xf_dict {T : Rz} {φ : Fi} {H : Hp} {fs : List (Nat × D)} {dd : Option Addr} (h : XF T φ H fs dd) : ∀ d, dd = some d → ∃ gs, H d = some (.xd gs) := fun d e => by
  cases fs with
  | nil =>
    rw [h.1 rfl] at e
    cases e
  | cons p fs =>
    obtain ⟨d', gs, h1, h2, _⟩ := h.2 (by simp)
    rw [h1] at e
    cases e
    exact ⟨gs, h2⟩
theorem snd_isi {a : E} {ty : Ty} (ha : Snd Γ cf P t k a) : Snd Γ cf P t k (.isi a ty) := by
  intro X W x G h
  simp only [chk, kIsi] at h
  rw [Bool.and_eq_true] at h
  obtain ⟨h, ho'⟩ := h
  split at h
  · rename_i n p y z p2 pos
    simp only [Bool.and_eq_true] at h
    obtain ⟨⟨⟨⟨h1, h2⟩, h3⟩, h4⟩, h5⟩ := h
    have h1 := of_decide_eq_true h1
    subst h1
    have h4 := of_decide_eq_true h4
    subst h4
    obtain ⟨hy, hy2⟩ := ha X W y G h3
    by_cases ho : ownTy ty = false
    · have en : P.tyn ty = ty.nm := by cases ty <;> first | rfl | cases ho
      rw [en] at h5 ⊢
      have hT : PE X (.Name ty.nm p2) (tC (.ty (tyS ty))) := pe_bltn (G.glob h5) (G.top.blt _ (ty_blt ho)) (ty_boot ho) rfl (nm0_n (glB_nm h5)) (nm0_d (glB_nm h5))
      refine ⟨pe_imp (pe_callB call_isi (G.glob h2) (G.top.blt _ (by decide)) (by decide +kernel) (pa_cons hy (pa_cons hT pa_nil rfl) (head_star hy2)) (by decide) (by decide) (head_star hy2) rfl) fun σ H Q ⟨φ, env, st, r, E, o⟩ => ?_, rfl⟩
      simp only [ev] at o
      refine tI_then r E shD o fun v H1 φ1 st1 d r1 e1 E1 p1 o1 => ?_
      cases q : isiD Γ.sub Γ.ve st1 d ty with
      | none => rw [q] at o1; exact o1.elim
      | some b =>
        rw [q] at o1
        have q' : maxTy st1 ty d = some b := by
          cases ty <;> first | exact q | cases ho
        obtain ⟨tt, q1, q2⟩ := isi_ok r1 p1.1 ho q'
        exact ⟨v, .ty (tyS ty), tt, .type (tyS ty), b, rfl, .ty _, q1, q2, out_ok r1 o1 rfl (.inl rfl)⟩
    · have hty : (∃ c, ty = .cls c) ∨ ty = .verr := by cases ty <;> first | exact .inl ⟨_, rfl⟩ | exact .inr rfl | exact (ho rfl).elim
      rcases hty with ⟨c, rfl⟩ | rfl
      · have hx : P.hasX c = true := ho'
        have xc := G.top.exc c hx
        have hT : PE X (.Name (P.cls c) p2) (tC (.ref (t.cls c))) := pe_glob (v := .ref (t.cls c)) (G.glob h5) xc.glo rfl (nm0_d (glB_nm h5))
        refine ⟨pe_imp (pe_callB call_isX (G.glob h2) (G.top.blt _ (by decide)) (by decide +kernel) (pa_cons hy (pa_cons hT pa_nil rfl) (head_star hy2)) (by decide) (by decide) (head_star hy2) rfl) fun σ H Q ⟨φ, env, st, r, E, o⟩ => ?_, rfl⟩
        simp only [ev] at o
        refine tI_then r E shD o fun v H1 φ1 st1 d r1 e1 E1 p1 o1 => ?_
        cases q : isiD Γ.sub Γ.ve st1 d (.cls c) with
        | none => rw [q] at o1; exact o1.elim
        | some b =>
          rw [q] at o1
          simp only [isiD] at q
          split at q
          · rename_i kk
            split at q
            · rename_i c' fs hk
              obtain ⟨l, h6, rfl⟩ := p1.1
              obtain ⟨l', h7, dd, h8, h9⟩ := r1.at_ _ _ hk
              rw [h6] at h7
              cases h7
              obtain ⟨s1, s2, s3, s4⟩ := G.top.sub c' c b q
              exact ⟨l, t.cls c', .ref (t.cls c), .ref (t.cls c), b, dd, rfl, (G.top.exc c' s1).cc, h8, xf_dict h9, fun u hu => hu, s4, out_ok r1 o1 rfl (.inl rfl)⟩
            · cases q
          · cases q
      · have hT : PE X (.Name "ValueError" p2) (tC (.ty "ValueError")) := pe_bltn (G.glob h5) (G.top.blt _ (by decide)) (by decide +kernel) rfl (nm0_n (glB_nm h5)) (nm0_d (glB_nm h5))
        refine ⟨pe_imp (pe_callB call_isX (G.glob h2) (G.top.blt _ (by decide)) (by decide +kernel) (pa_cons hy (pa_cons hT pa_nil rfl) (head_star hy2)) (by decide) (by decide) (head_star hy2) rfl) fun σ H Q ⟨φ, env, st, r, E, o⟩ => ?_, rfl⟩
        simp only [ev] at o
        refine tI_then r E shD o fun v H1 φ1 st1 d r1 e1 E1 p1 o1 => ?_
        cases q : isiD Γ.sub Γ.ve st1 d .verr with
        | none => rw [q] at o1; exact o1.elim
        | some b =>
          rw [q] at o1
          simp only [isiD] at q
          split at q
          · rename_i kk
            split at q
            · rename_i c' fs hk
              obtain ⟨l, h6, rfl⟩ := p1.1
              obtain ⟨l', h7, dd, h8, h9⟩ := r1.at_ _ _ hk
              rw [h6] at h7
              cases h7
              obtain ⟨s1, s4⟩ := G.top.ve c' b q
              exact ⟨l, t.cls c', .ty "ValueError", .type "ValueError", b, dd, rfl, (G.top.exc c' s1).cc, h8, xf_dict h9, fun u hu => hu, s4, out_ok r1 o1 rfl (.inl rfl)⟩
            · cases q
          · cases q
  · cases h
theorem snd_isiT {a : E} {ty : Ty} (ha : Snd Γ cf P t k a) : SndT Γ cf P t k (.isi a ty) := sndT_of (snd_isi ha) fun N sc x h => by
  simp only [chk, kIsi] at h
  rw [Bool.and_eq_true] at h
  obtain ⟨h, _⟩ := h
  split at h
  · rfl
  · cases h

/-! ### the empty dict -/
theorem snd_dct {es : List E} : Snd Γ cf P t k (.dct es) := by
  intro X W x G h
  simp only [chk, kDct] at h
  rw [Bool.and_eq_true] at h
  obtain ⟨h, hn⟩ := h
  obtain rfl := List.isEmpty_iff.mp hn
  split at h
  · refine ⟨pe_imp pe_dnewK fun σ H Q ⟨φ, env, st, r, E, o⟩ p hp => ?_, rfl⟩
    simp only [ev] at o
    have hx : Ext φ H φ (upd H p (.dK [])) := ext_new hp
    exact o φ _ (.ref p) (r.new hp) hx ⟨⟨p, [], rfl, upd_same, r.fresh hp, rfl, rfl⟩, fun _ _ => ⟨p, H, _, rfl, rfl, hp, hp, r, [], rfl, rfl, rfl⟩⟩
  · cases h
/-! ### append -/
theorem app_ok2 {T : Rz} {W : WX} {φ : Fi} {H : Hp} {σ : L2.St} {st : Store} {x d : D} {l : Addr} {w : V} {Q : VK} {fr : Bool} (r : Rel T φ H st) (hx : Rep T.K φ H x (.ref l)) (hd : Rep T.K φ H d w) (o : OutG T (repD T fr) W φ H σ (appD st x d) Q) : rAppend (.ref l) [w] H Q := by
  unfold appD at o
  split at o
  · rename_i k
    split at o
    · rename_i xs hk
      split at o
      · rename_i hz
        obtain ⟨a, h1, h2⟩ := hx
        cases h2
        obtain ⟨b, h3, vs, h4, h5, h6⟩ := r.at_ _ _ hk
        rw [h1] at h3; cases h3
        refine ⟨l, vs, w, rfl, rfl, h4, by rw [h6.length]; exact hz, ?_⟩
        have hm : l ∈ φ.ref := List.mem_of_getElem? h1
        have e : Ext φ H φ (upd H l (.lst (vs ++ [w]))) := ext_set hm
        refine o φ _ .non (r.put h1 ⟨vs ++ [w], upd_same, ?_, ?_⟩) e ⟨rfl, fun _ z => by cases z⟩
        · rw [List.length_append, List.length_singleton]; exact hz
        · exact (r.reps e h6).append ⟨w, [], rfl, r.rep e hd, rfl⟩
      · exact o.elim
    · exact o.elim
  · exact o.elim
theorem snd_app {a e : E} (ha : Snd Γ cf P t k a) (he : Snd Γ cf P t k e) : Snd Γ cf P t k (.app a e) := by
  intro X W x G h
  simp only [chk, kMeth] at h
  split at h
  · rename_i x m' ap xs cp
    simp only [Bool.and_eq_true] at h
    obtain ⟨⟨⟨⟨h1, h2⟩, h3⟩, h4⟩, h5⟩ := h
    have h1 := of_decide_eq_true h1
    subst h1
    unfold kOne at h5
    split at h5
    · rename_i y
      obtain ⟨hy, hy2⟩ := he X W y G h5
      have hst : ∀ (z : Expr) (r : List Expr), headOk z = true → starEach (z :: r) X.env = (false, eval z X.env) :: starEach r X.env := fun z r hz => head_star hz
      refine ⟨pe_imp (pe_bm F.plainAttrs_list F.slot_list_append F.type_list_append mt_append (ha X W x G h4).1 (pa_cons hy pa_nil (head_star hy2)) (headA_ok h2) (by rw [hst y [] hy2]; rfl) h3 (head_star hy2) rfl) fun σ H Q ⟨φ, env, st, r, E, o⟩ => ?_, rfl⟩
      simp only [ev] at o
      refine tI_then r E shD o fun v H1 φ1 st1 d r1 e1 E1 p1 o1 => ?_
      split at o1
      · rename_i hl
        obtain ⟨xs, hxs⟩ := Option.isSome_iff_exists.mp hl
        obtain ⟨p, vs, rfl, h6, h7, h8⟩ := lst_at r1 p1.1 hxs
        refine ⟨.inl ⟨rfl, vs, .inl (.inl h6)⟩, ?_⟩
        obtain ⟨φ', env', st', r', E', o'⟩ := tI_then r1 E1 shD o1 fun w H2 φ2 st2 d2 r2 e2 E2 p2 o2 => app_ok2 r2 (r1.rep e2 p1.1) p2.1 o2
        exact ⟨φ', env', st', r', E', o'.imp fun v H3 q => q⟩
      · exact o1.elim
    · cases h5
  · cases h
end
end Cip

set_option maxHeartbeats 4000000
/-! Cip13b: extend, pop. -/
namespace Cip
open PySem PySem.Spec PyProof.Rows L2
section
open PySem.AutoSeq1 in
/-- extend by a list of any make -/
theorem ext_byL (l : Addr) (its : Array Value) (n : Nat) (b : Addr) (jts : Array Value) (m : Nat) (dd : Option Addr) (sl : Array (Option Value))
    (h0 : ¬(!its.isEmpty && Builtin.List.listTooLong (its.size + jts.size)) = true) (h1 : its.size ≤ sizeLine) (h2 : its.size + jts.size ≤ sizeLine + 1) :
    Meets (Builtin.«list.extend» ⟨[.ref l, .ref b], []⟩) fun _ R s => s.heap.get? l = some { cls := .type "list", dict := none, data := .seq its n, slots := #[] } ∧
      s.heap.get? b = some { cls := .type "list", dict := dd, data := .seq jts m, slots := sl } ∧ R (.ok (.ret Value.none)) { s with heap := s.heap.update l (Obj.mapSeq fun x => x ++ jts), toks := s.toks } := by
  refine .of_wp fun prog w A R s h => ?_
  obtain ⟨hp, g, d, tk, os⟩ := s
  obtain ⟨hl, hb, h⟩ := h
  have f1 := idx_int
  have f2 := PySem.AutoSeq1.sub_tuple_tuple
  have f3 := PySem.AutoSeq1.sub_list_list
  have f4 := PySem.AutoSeq1.sub_tuple_list
  have f5 := PySem.AutoSeq1.sub_list_tuple
  have hz' : (its ++ jts).size ≤ sizeLine + 1 := by rw [Array.size_append]; exact h2
  wp_walk using (wpAny_updateSeq hl rfl (hz := h1) (_hz' := hz')), PySem.AutoSeq1.wpAny_loadPart' hl, PySem.AutoSeq1.wpAny_loadPart' hb
  exact ⟨_, rfl, h⟩
/-- .. by a tuple -/
theorem ext_byT (l : Addr) (its : Array Value) (n : Nat) (b : Addr) (jts : Array Value) (m : Nat) (dd : Option Addr) (sl : Array (Option Value))
    (h0 : ¬(!its.isEmpty && Builtin.List.listTooLong (its.size + jts.size)) = true) (h1 : its.size ≤ sizeLine) (h2 : its.size + jts.size ≤ sizeLine + 1) :
    Meets (Builtin.«list.extend» ⟨[.ref l, .ref b], []⟩) fun _ R s => s.heap.get? l = some { cls := .type "list", dict := none, data := .seq its n, slots := #[] } ∧
      s.heap.get? b = some { cls := .type "tuple", dict := dd, data := .seq jts m, slots := sl } ∧ R (.ok (.ret Value.none)) { s with heap := s.heap.update l (Obj.mapSeq fun x => x ++ jts), toks := s.toks } := by
  refine .of_wp fun prog w A R s h => ?_
  obtain ⟨hp, g, d, tk, os⟩ := s
  obtain ⟨hl, hb, h⟩ := h
  have f1 := PySem.AutoSeq1.idx_int
  have f2 := PySem.AutoSeq1.sub_tuple_tuple
  have f3 := PySem.AutoSeq1.sub_list_list
  have f4 := PySem.AutoSeq1.sub_tuple_list
  have f5 := PySem.AutoSeq1.sub_list_tuple
  have hz' : (its ++ jts).size ≤ sizeLine + 1 := by rw [Array.size_append]; exact h2
  wp_walk using (wpAny_updateSeq hl rfl (hz := h1) (_hz' := hz')), PySem.AutoSeq1.wpAny_loadPart' hl, PySem.AutoSeq1.wpAny_loadPart' hb
  exact ⟨_, rfl, h⟩
variable {X : Cx}
def rExtQ (K : PySem.W.Frag) : V → List V → Hp → VK → Prop := fun x vs H Q => ∃ l b xs zs, x = .ref l ∧ vs = [.ref b] ∧ H l = some (.lst xs) ∧ (SqL K H b zs ∨ SqT K H b zs) ∧ xs.length + zs.length ≤ sizeLine ∧ Q .non (upd H l (.lst (xs ++ zs)))
theorem mt_extQ : MtM X "list.extend" (rExtQ X.K) := by
  intro pins s σ H x vs v us Q I rx rv ⟨l, b, xs, zs, e1, e2, hH, hB, hz, q⟩
  subst e1 e2
  cases rx
  obtain ⟨u, rfl, ru⟩ := rv.one
  cases ru
  obtain ⟨z, its, n, r, hl, e⟩ := I.lstM hH
  have fin : ∀ jts : List Value, Vals zs jts → zs.length = jts.length ∧ ¬ (!its.toArray.isEmpty && Builtin.List.listTooLong (its.toArray.size + jts.toArray.size)) = true ∧ its.toArray.size ≤ sizeLine ∧ its.toArray.size + jts.toArray.size ≤ sizeLine + 1 := fun jts rj => by
    have hlj := rj.length
    have hs : its.toArray.size + jts.toArray.size ≤ sizeLine := by simp only [List.size_toArray]; omega
    exact ⟨hlj, by rw [notLongL hs, Bool.and_false]; simp, by simp only [List.size_toArray]; omega, by omega⟩
  have out : ∀ jts : List Value, Vals zs jts → EP X pins σ Q .none { s with heap := s.heap.update l (Obj.mapSeq fun x => x ++ jts.toArray), toks := s.toks } := fun jts rj =>
    ⟨.non, _, I.lset (its' := its ++ jts) hH e (by simp) (r.append rj) (by rw [List.length_append]; exact hz), rfl, q⟩
  rcases hB with hB | hB
  · obtain ⟨jts, rj, ⟨⟨oc, od, oa, os⟩, m, h1, h2, h3, h4⟩, _⟩ := I.list hB
    simp only at h2 h3 h4
    subst h2 h3 h4
    obtain ⟨_, g0, g1, g2⟩ := fin jts rj
    exact call_meets F.slot_list_extend ⟨_, e, rfl⟩ F.entry_list_extend (F.args_list_extend_2 _ _) (ext_byL l its.toArray n b jts.toArray m none os g0 g1 g2) ⟨e, h1, out jts rj⟩
  · obtain ⟨jts, rj, ⟨⟨oc, od, oa, os⟩, h1, h2, m, h4⟩, _⟩ := I.tuple hB
    simp only at h2 h4
    subst h2 h4
    obtain ⟨_, g0, g1, g2⟩ := fin jts rj
    exact call_meets F.slot_list_extend ⟨_, e, rfl⟩ F.entry_list_extend (F.args_list_extend_2 _ _) (ext_byT l its.toArray n b jts.toArray m od os g0 g1 g2) ⟨e, h1, out jts rj⟩
end
theorem Reps.erase {K : PySem.W.Frag} {φ : Fi} {H : Hp} : ∀ {ds : List D} {vs : List V} (n : Nat), Reps K φ H ds vs → Reps K φ H (ds.eraseIdx n) (vs.eraseIdx n)
  | [], _, _, h => by cases h; exact rfl
  | d :: ds, _, 0, ⟨v, r, e, h1, h2⟩ => by subst e; exact h2
  | d :: ds, _, n + 1, ⟨v, r, e, h1, h2⟩ => by subst e; exact ⟨v, r.eraseIdx n, rfl, h1, h2.erase n⟩
theorem Reps.drop1 {K : PySem.W.Frag} {φ : Fi} {H : Hp} {ds : List D} {vs : List V} (h : Reps K φ H ds vs) : Reps K φ H ds.dropLast vs.dropLast := by
  rw [List.dropLast_eq_take, List.dropLast_eq_take, h.length]
  exact h.take _
section
variable {Γ : Tx} {cf : CF} {P : Pn} {t : Nm} {k : Nat}
theorem ext_ok2 {T : Rz} {W : WX} {φ : Fi} {H : Hp} {σ : L2.St} {st : Store} {x d : D} {l : Addr} {w : V} {Q : VK} {fr : Bool} (r : Rel T φ H st) (hx : Rep T.K φ H x (.ref l)) (hd : Rep T.K φ H d w) (o : OutG T (repD T fr) W φ H σ (extD st x d) Q) : rExtQ T.K (.ref l) [w] H Q := by
  unfold extD at o
  split at o
  · rename_i k
    split at o
    · rename_i xs hk
      split at o
      · rename_i ys hy
        split at o
        · rename_i hz
          obtain ⟨a, h1, h2⟩ := hx
          cases h2
          obtain ⟨b, h3, vs, h4, h5, h6⟩ := r.at_ _ _ hk
          rw [h1] at h3; cases h3
          obtain ⟨c, ws, rfl, g1, g2, g3⟩ := seq_at r hd hy
          have hm : l ∈ φ.ref := List.mem_of_getElem? h1
          have e : Ext φ H φ (upd H l (.lst (vs ++ ws))) := ext_set hm
          have hz' : vs.length + ws.length ≤ sizeLine := by rw [h6.length, g3.length]; exact hz
          refine ⟨l, c, vs, ws, rfl, rfl, h4, g1, hz', ?_⟩
          refine o φ _ .non (r.put h1 ⟨vs ++ ws, upd_same, ?_, ?_⟩) e ⟨rfl, fun _ z => by cases z⟩
          · rw [List.length_append]; exact hz
          · exact (r.reps e h6).append (r.reps e g3)
        · exact o.elim
      · exact o.elim
    · exact o.elim
  · exact o.elim
theorem pop_ok2 {T : Rz} {W : WX} {φ : Fi} {H : Hp} {σ : L2.St} {st : Store} {x : D} {l : Addr} {Q : VK} (r : Rel T φ H st) (hx : Rep T.K φ H x (.ref l)) (o : OutG T (repD T false) W φ H σ (popD st x) Q) : rPop (.ref l) [] H Q := by
  unfold popD at o
  split at o
  · rename_i k
    split at o
    · rename_i xs hk
      split at o
      · rename_i d hd
        obtain ⟨a, h1, h2⟩ := hx
        cases h2
        obtain ⟨b, h3, vs, h4, h5, h6⟩ := r.at_ _ _ hk
        rw [h1] at h3; cases h3
        obtain ⟨v, g1, g2⟩ := h6.get hd
        have hm : l ∈ φ.ref := List.mem_of_getElem? h1
        have e : Ext φ H φ (upd H l (.lst vs.dropLast)) := ext_set hm
        refine ⟨l, vs, v, rfl, rfl, h4, by rw [h6.length]; exact g1, ?_⟩
        refine o φ _ v (r.put h1 ⟨vs.dropLast, upd_same, ?_, ?_⟩) e ⟨r.rep e g2, fun z => by cases z⟩
        · rw [List.length_dropLast]; omega
        · exact (r.reps e h6).drop1
      · exact o.elim
    · exact o.elim
  · exact o.elim
theorem popi_ok2 {T : Rz} {W : WX} {φ : Fi} {H : Hp} {σ : L2.St} {st : Store} {x y : D} {l : Addr} {w : V} {Q : VK} (r : Rel T φ H st) (hx : Rep T.K φ H x (.ref l)) (hy : Rep T.K φ H y w) (o : OutG T (repD T false) W φ H σ (popiD st x y) Q) : rPopAt (.ref l) [w] H Q := by
  unfold popiD at o
  split at o
  · rename_i k
    split at o
    · rename_i xs hk
      split at o
      · rename_i i
        split at o
        · rename_i j hj
          split at o
          · rename_i d hd
            cases hy
            obtain ⟨a, h1, h2⟩ := hx
            cases h2
            obtain ⟨b, h3, vs, h4, h5, h6⟩ := r.at_ _ _ hk
            rw [h1] at h3; cases h3
            obtain ⟨v, g1, g2⟩ := h6.get hd
            have hm : l ∈ φ.ref := List.mem_of_getElem? h1
            have e : Ext φ H φ (upd H l (.lst (vs.eraseIdx j))) := ext_set hm
            obtain ⟨q1, q2, q3, q4⟩ := ixN_seq hj
            have hz : sizeLine = 16777216 := by decide
            have e63 : (2 : Int) ^ 63 = 9223372036854775808 := by decide
            refine ⟨l, vs, i, j, v, rfl, rfl, h4, by rw [e63]; omega, by rw [e63]; omega, by rw [h6.length]; exact q1, g1, ?_⟩
            refine o φ _ v (r.put h1 ⟨vs.eraseIdx j, upd_same, ?_, ?_⟩) e ⟨r.rep e g2, fun z => by cases z⟩
            · have := List.length_eraseIdx_le xs j
              omega
            · exact (r.reps e h6).erase j
          · exact o.elim
        · exact o.elim
      · exact o.elim
    · exact o.elim
  · exact o.elim
theorem snd_ext {a e : E} (ha : Snd Γ cf P t k a) (he : Snd Γ cf P t k e) : Snd Γ cf P t k (.ext a e) := by
  intro X W x G h
  simp only [chk, kMeth] at h
  split at h
  · rename_i x m' ap xs cp
    simp only [Bool.and_eq_true] at h
    obtain ⟨⟨⟨⟨h1, h2⟩, h3⟩, h4⟩, h5⟩ := h
    have h1 := of_decide_eq_true h1
    subst h1
    unfold kOne at h5
    split at h5
    · rename_i y
      obtain ⟨hy, hy2⟩ := he X W y G h5
      have hst : ∀ (z : Expr) (r : List Expr), headOk z = true → starEach (z :: r) X.env = (false, eval z X.env) :: starEach r X.env := fun z r hz => head_star hz
      refine ⟨pe_imp (pe_bm F.plainAttrs_list F.slot_list_extend F.type_list_extend mt_extQ (ha X W x G h4).1 (pa_cons hy pa_nil (head_star hy2)) (headA_ok h2) (by rw [hst y [] hy2]; rfl) h3 (head_star hy2) rfl) fun σ H Q ⟨φ, env, st, r, E, o⟩ => ?_, rfl⟩
      simp only [ev] at o
      refine tI_then r E shD o fun v H1 φ1 st1 d r1 e1 E1 p1 o1 => ?_
      split at o1
      · rename_i hl
        obtain ⟨xs, hxs⟩ := Option.isSome_iff_exists.mp hl
        obtain ⟨p, vs, rfl, h6, h7, h8⟩ := lst_at r1 p1.1 hxs
        refine ⟨.inl ⟨rfl, vs, .inl (.inl h6)⟩, ?_⟩
        obtain ⟨φ', env', st', r', E', o'⟩ := tI_then r1 E1 shD o1 fun w H2 φ2 st2 d2 r2 e2 E2 p2 o2 => ext_ok2 r2 (r1.rep e2 p1.1) p2.1 o2
        exact ⟨φ', env', st', r', E', o'.imp fun v H3 q => q⟩
      · exact o1.elim
    · cases h5
  · cases h
theorem snd_popi {a e : E} (ha : Snd Γ cf P t k a) (he : Snd Γ cf P t k e) : Snd Γ cf P t k (.popi a e) := by
  intro X W x G h
  simp only [chk, kMeth] at h
  split at h
  · rename_i x m' ap xs cp
    simp only [Bool.and_eq_true] at h
    obtain ⟨⟨⟨⟨h1, h2⟩, h3⟩, h4⟩, h5⟩ := h
    have h1 := of_decide_eq_true h1
    subst h1
    unfold kOne at h5
    split at h5
    · rename_i y
      obtain ⟨hy, hy2⟩ := he X W y G h5
      have hst : ∀ (z : Expr) (r : List Expr), headOk z = true → starEach (z :: r) X.env = (false, eval z X.env) :: starEach r X.env := fun z r hz => head_star hz
      refine ⟨pe_imp (pe_bm F.plainAttrs_list F.slot_list_pop F.type_list_pop mt_popAt (ha X W x G h4).1 (pa_cons hy pa_nil (head_star hy2)) (headA_ok h2) (by rw [hst y [] hy2]; rfl) h3 (head_star hy2) rfl) fun σ H Q ⟨φ, env, st, r, E, o⟩ => ?_, rfl⟩
      simp only [ev] at o
      refine tI_then r E shD o fun v H1 φ1 st1 d r1 e1 E1 p1 o1 => ?_
      split at o1
      · rename_i hl
        obtain ⟨xs, hxs⟩ := Option.isSome_iff_exists.mp hl
        obtain ⟨p, vs, rfl, h6, h7, h8⟩ := lst_at r1 p1.1 hxs
        refine ⟨.inl ⟨rfl, vs, .inl (.inl h6)⟩, ?_⟩
        obtain ⟨φ', env', st', r', E', o'⟩ := tI_then r1 E1 shD o1 fun w H2 φ2 st2 d2 r2 e2 E2 p2 o2 => popi_ok2 r2 (r1.rep e2 p1.1) p2.1 o2
        exact ⟨φ', env', st', r', E', o'.imp fun v H3 q => q⟩
      · exact o1.elim
    · cases h5
  · cases h
theorem snd_pop {a : E} (ha : Snd Γ cf P t k a) : Snd Γ cf P t k (.pop a) := by
  intro X W x G h
  simp only [chk, kMeth] at h
  split at h
  · rename_i x m' ap xs cp
    simp only [Bool.and_eq_true] at h
    obtain ⟨⟨⟨⟨h1, h2⟩, h3⟩, h4⟩, h5⟩ := h
    have h1 := of_decide_eq_true h1
    subst h1
    obtain rfl := List.isEmpty_iff.mp h5
    refine ⟨pe_imp (pe_bm0 F.plainAttrs_list F.slot_list_pop F.type_list_pop mt_pop (ha X W x G h4).1 (headA_ok h2) h3) fun σ H Q ⟨φ, env, st, r, E, o⟩ => ?_, rfl⟩
    simp only [ev] at o
    refine tI_then r E shD o fun v H1 φ1 st1 d r1 e1 E1 p1 o1 => ?_
    split at o1
    · rename_i hl
      obtain ⟨xs, hxs⟩ := Option.isSome_iff_exists.mp hl
      obtain ⟨p, vs, rfl, h6, h7, h8⟩ := lst_at r1 p1.1 hxs
      exact ⟨.inl ⟨rfl, vs, .inl (.inl h6)⟩, pop_ok2 r1 p1.1 o1⟩
    · exact o1.elim
  · cases h
/-! len(set(..)) -/
def tLens (K : PySem.W.Frag) (ta : TE) : TE := fun σ H Q => ta σ H fun x H1 => ∃ (l : Addr) (xs : List Str), x = V.ref l ∧ SqL K H1 l (xs.map V.str) ∧ xs.length < 3000 ∧ Q (.int (dist xs).2) H1
theorem vals_strs : ∀ {ys : List Str} {us : List Value}, Vals (ys.map V.str) us → StrsAre us ys
  | [], _, .nil => .nil
  | y :: ys, _, .cons r t => by
    obtain ⟨k, rfl⟩ := r
    exact .cons y k (vals_strs t)
theorem pe_lens {X : Cx} {a : Expr} {ta : TE} {p p2 q pos : Pos} (hc : X.calm = true) (hg : Gl X "len") (hm : X.mg "len" = none) (hg2 : Gl X "set") (hm2 : X.mg "set" = none) (ha : PE X a ta) (na : starEach [a] X.env = (false, eval a X.env) :: starEach [] X.env) :
    PE X (.Call (.Name "len" p) [.Call (.Name "set" p2) [a] [] q] [] pos) (tLens X.K ta) := by
  refine ⟨fun pins s σ H Q I h => Call_ (ld_blt I hg hm boot_len ?_)⟩
  refine callWith_builtin1 (args_cons (Call_ (ld_blt I hg2 hm2 boot_set ?_)) rfl) rfl rfl
  refine callWith_type1 (args_cons (thn (ha.run pins s σ H _ I h) fun v s1 ⟨x, H1, I1, r1, l, xs, ex, hq, hx, q1⟩ => args_nil ?_) na) na rfl
  subst ex
  cases r1
  obtain ⟨its, r, pl, _⟩ := I1.list hq
  refine set_of_strs (I1.ok.hd hc) pl.isList (xs := xs) (by simpa using vals_strs r) (by unfold scanBound; omega) fun h' tk hS hk => args_nil ?_
  obtain ⟨o, es, ep, t, ho, hex, hd, _, _, _, hf, hn⟩ := hS
  have I2 : Inv X pins σ H1 { s1 with heap := h', toks := tk } := I1.kept fun b o e => hk b o (Heap.lt_size e) e
  have hle := dist_le xs
  rw [List.take_length] at hn
  exact call_len_set ho hex hd hf (by rw [hn] <;> omega) ⟨.int (dist xs).2, H1, I2.tok _, ⟨_, by rw [hn]⟩, q1⟩
theorem snd_lens {a : E} (ha : Snd Γ cf P t k a) : Snd Γ cf P t k (.lens a) := by
  intro X W x G h
  simp only [chk, kLens] at h
  split at h
  · rename_i x _ y _ z _ _
    simp only [Bool.and_eq_true] at h
    obtain ⟨⟨⟨⟨h1, h2⟩, h3⟩, h4⟩, h5⟩ := h
    have h1 := of_decide_eq_true h1
    have h3 := of_decide_eq_true h3
    subst h1 h3
    obtain ⟨hz, hz2⟩ := ha X W z G h5
    refine ⟨pe_imp (pe_lens G.calm (G.glob h2) (G.top.blt _ (by decide)) (G.glob h4) (G.top.blt _ (by decide)) hz (head_star hz2)) fun σ H Q ⟨φ, env, st, r, E, o⟩ => ?_, rfl⟩
    simp only [ev] at o
    refine tI_then r E shD o fun v H1 φ1 st1 d r1 e1 E1 p1 o1 => ?_
    cases hd : lensD st1 d with
    | none => rw [hd] at o1; exact o1.elim
    | some i =>
      rw [hd] at o1
      unfold lensD at hd
      cases hl : lstD st1 d with
      | none => rw [hl] at hd; cases hd
      | some xs =>
        rw [hl] at hd
        simp only [Option.bind_some] at hd
        cases hs : strsD xs with
        | none => rw [hs] at hd; cases hd
        | some ss =>
          rw [hs] at hd
          simp only [Option.bind_some] at hd
          split at hd
          · rename_i hlt
            cases hd
            obtain ⟨l, vs, rfl, h6, _, h8⟩ := lst_at r1 p1.1 hl
            have h9 := strs_strs (T := rz X t) h8 hs
            subst h9
            exact ⟨l, ss, rfl, .inl (.inl h6), hlt, out_ok r1 o1 rfl (.inl rfl)⟩
          · cases hd
  · cases h
end
end Cip

set_option maxHeartbeats 4000000
/-! Cip14: methods that change nothing. -/
namespace Cip
open PySem PySem.Spec PyProof.Rows L2

section
variable {Γ : Tx} {cf : CF} {P : Pn} {t : Nm} {k : Nat}
/-- a method by values -/
def rBm (X : Cx) (t : Nm) (fr : Bool) (m : BM) : V → List V → Hp → VK → Prop := fun x xs H Q => ∃ φ st d ds, Rel (rz X t) φ H st ∧ Rep X.K φ H d x ∧ Reps X.K φ H ds xs ∧ OutO (rz X t) fr φ H st (bmD st m d ds) Q
theorem strs_reps {T : Rz} {φ : Fi} {H : Hp} {n : Nat} (hn : n ≤ sizeLine) : ∀ {ys : List Str}, (∀ y ∈ ys, y.length ≤ n) → Reps T.K φ H (ys.map D.str) (ys.map V.str)
  | [], _ => rfl
  | y :: ys, h => ⟨_, _, rfl, ⟨rfl, Nat.le_trans (h y (by simp)) hn⟩, strs_reps hn fun z hz => h z (List.mem_cons_of_mem _ hz)⟩
theorem bm_join {X : Cx} {fr : Bool} : MtR X "str.join" (rBm X t fr .join) := by
  intro pins s σ H x xs v us Q I rx rxs ⟨φ, st, d, ds, r, hd, hds, o⟩
  unfold bmD at o
  split at o <;> first | exact o.elim | (rename_i h; cases h) | skip
  rename_i sep e
  obtain ⟨w, hw, he⟩ := reps1 (T := rz X t) hds
  subst hw
  cases q1 : seqD st e with
  | none => rw [q1] at o; exact o.elim
  | some ys =>
    rw [q1] at o
    simp only [Option.bind_some] at o
    cases q2 : strsD ys with
    | none => rw [q2] at o; exact o.elim
    | some ss =>
      rw [q2] at o
      simp only [Option.bind_some] at o
      split at o
      · rename_i hj
        obtain ⟨p, vs, rfl, h2, h3, h4⟩ := seq_at r he q1
        have h5 := strs_strs h4 q2
        subst h5
        have hz := hd.2
        cases hd.1
        rw [Bool.and_eq_true] at hj
        have hj' := of_decide_eq_true hj.1
        exact mt_join pins s σ H _ _ v us Q I rx rxs ⟨sep, p, ss, rfl, rfl, h2, hj', o.flat r ⟨rfl, of_decide_eq_true hj.2⟩⟩
      · exact o.elim
theorem bm_upper {X : Cx} {fr : Bool} : MtR X "str.upper" (rBm X t fr .upper) := by
  intro pins s σ H x xs v us Q I rx rxs ⟨φ, st, d, ds, r, hd, hds, o⟩
  unfold bmD at o
  split at o <;> first | exact o.elim | (rename_i h; cases h) | skip
  rename_i z
  split at o
  · rename_i hz
    cases hd.1
    obtain rfl : xs = [] := hds
    exact mt_upper pins s σ H _ _ v us Q I rx rxs ⟨z, rfl, rfl, hz.1, o.flat r ⟨rfl, hz.2⟩⟩
  · exact o.elim
theorem bm_rstrip {X : Cx} {fr : Bool} : MtR X "str.rstrip" (rBm X t fr .rstrip) := by
  intro pins s σ H x xs v us Q I rx rxs ⟨φ, st, d, ds, r, hd, hds, o⟩
  unfold bmD at o
  split at o <;> first | exact o.elim | (rename_i h; cases h) | skip
  rename_i z y
  split at o
  · rename_i hz
    have hz2 := hd.2
    cases hd.1
    obtain ⟨w, hw, he⟩ := reps1 (T := rz X t) hds
    subst hw
    cases he.1
    exact mt_rstripChars pins s σ H _ _ v us Q I rx rxs ⟨z, y, rfl, rfl, hz2, o.flat r ⟨rfl, hz⟩⟩
  · exact o.elim
theorem bm_count {X : Cx} {fr : Bool} : MtR X "str.count" (rBm X t fr .count) := by
  intro pins s σ H x xs v us Q I rx rxs ⟨φ, st, d, ds, r, hd, hds, o⟩
  unfold bmD at o
  split at o <;> first | exact o.elim | (rename_i h; cases h) | skip
  rename_i z y
  cases hd.1
  obtain ⟨w, hw, he⟩ := reps1 (T := rz X t) hds
  subst hw
  cases he.1
  exact mt_count pins s σ H _ _ v us Q I rx rxs ⟨z, y, rfl, rfl, o.flat r rfl⟩
theorem bm_sindex {X : Cx} {fr : Bool} : MtR X "str.index" (rBm X t fr .sindex) := by
  intro pins s σ H x xs v us Q I rx rxs ⟨φ, st, d, ds, r, hd, hds, o⟩
  unfold bmD at o
  split at o <;> first | exact o.elim | (rename_i h; cases h) | skip
  rename_i z y
  split at o
  · rename_i i l hi
    cases hd.1
    obtain ⟨w, hw, he⟩ := reps1 (T := rz X t) hds
    subst hw
    cases he.1
    exact mt_sindex pins s σ H _ _ v us Q I rx rxs ⟨z, y, i, l, rfl, rfl, hi, o.flat r rfl⟩
  · exact o.elim
theorem bm_split {X : Cx} {fr : Bool} : MtR X "str.split" (rBm X t fr .split) := by
  intro pins s σ H x xs v us Q I rx rxs ⟨φ, st, d, ds, r, hd, hds, o⟩
  unfold bmD at o
  split at o <;> first | exact o.elim | (rename_i h; cases h) | skip
  rename_i z y
  split at o
  · rename_i hz
    cases hd.1
    obtain ⟨w, hw, he⟩ := reps1 (T := rz X t) hds
    subst hw
    cases he.1
    refine mt_split pins s σ H _ _ v us Q I rx rxs ⟨z, y, rfl, rfl, by simpa using Nat.pos_iff_ne_zero.mp hz.1, hz.2.1, fun p hp => o.lst r hp (strs_reps (Nat.le_refl _) hz.2.2.2) ?_⟩
    rw [List.length_map]
    exact hz.2.2.1
  · exact o.elim
/-- x.partition(y) -/
theorem mt_part {X : Cx} : MtR X "str.partition" (fun x xs H Q => ∃ a b, x = .str a ∧ xs = [.str b] ∧ (b.length == 0) = false ∧ a.length ≤ sizeLine ∧ ∀ p, H p = none → Q (.ref p) (upd H p (.tup [.str (Txt.partition a b).1, .str (Txt.partition a b).2.1, .str (Txt.partition a b).2.2]))) := by
  intro pins s σ H x xs v us Q I rx rs h
  obtain ⟨a, b, rfl, rfl, hb, hz, h⟩ := h
  obtain ⟨t, rfl⟩ := rx
  cases rs with
  | cons r1 rs =>
    cases rs
    obtain ⟨u, rfl⟩ := r1
    have fin : ∀ (us : List Value) (k : Nat), Vals [V.str (Txt.partition a b).1, .str (Txt.partition a b).2.1, .str (Txt.partition a b).2.2] us → EP X pins σ Q (.ref s.heap.objs.size) { s with toks := k, heap := s.heap.push { cls := .type "tuple", data := .seq us.toArray } } := fun us k r => by
      have hz3 : 3 ≤ sizeLine := by decide
      exact ⟨.ref s.heap.objs.size, upd H s.heap.objs.size (.tup [.str (Txt.partition a b).1, .str (Txt.partition a b).2.1, .str (Txt.partition a b).2.2]), I.laid (fun b u q => Heap.get?_push_of_some _ q) (Nat.le_refl _) ⟨hz3, us, r, ⟨_, Heap.get?_push_size _ rfl, rfl, _, rfl⟩⟩, rfl, h _ (I.hok.fresh (Nat.le_refl _))⟩
    refine call_meets F.slot_str_partition (typeIs_str _ _ _) F.entry_str_partition (F.args_str_partition_2 _ _) (meets_str_partition a b t u hb hz) ?_
    revert fin
    unfold Txt.partition
    cases Builtin.Str.occurrences a b 0 a.length 1 with
    | nil => exact fun fin => fin _ _ (.cons ⟨_, rfl⟩ (.cons ⟨_, rfl⟩ (.cons ⟨_, rfl⟩ .nil)))
    | cons i r => exact fun fin => fin _ _ (.cons ⟨_, rfl⟩ (.cons ⟨_, rfl⟩ (.cons ⟨_, rfl⟩ .nil)))
theorem bm_part {X : Cx} {fr : Bool} : MtR X "str.partition" (rBm X t fr .part) := by
  intro pins s σ H x xs v us Q I rx rxs ⟨φ, st, d, ds, r, hd, hds, o⟩
  unfold bmD at o
  split at o <;> first | exact o.elim | (rename_i h; cases h) | skip
  rename_i z y
  split at o
  · rename_i hz
    obtain ⟨⟨h1, h2⟩, h3, h4, h5⟩ := hz
    cases hd.1
    obtain ⟨w, hw, he⟩ := reps1 (T := rz X t) hds
    subst hw
    cases he.1
    refine mt_part pins s σ H _ _ v us Q I rx rxs ⟨z, y, rfl, rfl, by simpa using Nat.pos_iff_ne_zero.mp h1, h2, fun p hp => ?_⟩
    have hz3 : 3 ≤ sizeLine := by decide
    obtain ⟨ra, ea, pa⟩ := new_tup r hp (show Reps X.K φ H [.str (Txt.partition z y).1, .str (Txt.partition z y).2.1, .str (Txt.partition z y).2.2] _ from ⟨_, _, rfl, ⟨rfl, h3⟩, _, _, rfl, ⟨rfl, h4⟩, _, _, rfl, ⟨rfl, h5⟩, rfl⟩) hz3
    exact o _ _ ra ea ⟨pa, fun _ z => by cases z⟩
  · exact o.elim
theorem strsD_len : ∀ {xs : List D} {ss : List Str}, strsD xs = some ss → xs.length = ss.length
  | [], _, h => by cases h; rfl
  | x :: xs, ss, h => by
    cases x with
    | str z =>
      simp only [strsD] at h
      cases q : strsD xs with
      | none => rw [q] at h; cases h
      | some m => rw [q] at h; cases h; simp [strsD_len q]
    | _ => cases h
/-- tuple.index, by texts -/
theorem bm_tindex {X : Cx} {fr : Bool} : MtR X "tuple.index" (rBm X t fr .tindex) := by
  intro pins s σ H x xs v us Q I rx rxs ⟨φ, st, d, ds, r, hd, hds, o⟩
  unfold bmD at o
  split at o <;> first | exact o.elim | (rename_i h; cases h) | skip
  rename_i zs y
  cases q2 : strsD zs with
  | none => rw [q2] at o; exact o.elim
  | some ss =>
    rw [q2] at o
    simp only [Option.bind_some] at o
    split at o
    · rename_i hm
      obtain ⟨a, vs, rfl, h1, h2, h3⟩ := hd
      have h5 := strs_strs (T := rz X t) h3 q2
      subst h5
      obtain ⟨w, hw, he⟩ := reps1 (T := rz X t) hds
      subst hw
      cases he.1
      cases rx
      cases rxs with
      | cons r1 r2 =>
        cases r2
        obtain ⟨tk, rfl⟩ := r1
        obtain ⟨its, rv, ht, hz⟩ := I.tuple h1
        exact SeqAt.tuple_index_strs (show s.heap.IsTuple a its.toArray from ht) (strs_of_vals rv) hm ⟨.int (ss.idxOf y : Nat), H, I.tok _, ⟨_, rfl⟩, o.flat r rfl⟩
    · exact o.elim
/-- what is asked ahead of the call -/
def tBmG (X : Cx) (T : String) (r : V → List V → Hp → VK → Prop) (to : TE) (ta : TA) : TE := fun σ H Q => to σ H fun x H1 => (∀ pins s v, Inv X pins σ H1 s → RelV x v → s.TypeIs v T ∧ ∀ a, v = .ref a → ∃ ob, s.heap.get? a = some ob ∧ ob.dict = none) ∧ ta σ H1 fun xs H2 => r x xs H2 Q
theorem evalArgs_zero {M : Model} {A : Around} {E : Value → Shared → Prop} {s : Shared} {f : Value} {Q : Args → Shared → Prop} (h : wpAny M A (spliced []) (fun vs s' => Q ⟨vs, []⟩ s') E s) : wpAny M A (evalArgs f true [] []) Q E s := by
  unfold evalArgs
  show wpAny M A (spliced [] >>= _) Q E s
  refine wpAny_bind (wpAny_mono h (fun vs s' h' => ?_) fun _ _ x => x)
  refine wpAny_holding ?_
  exact wpAny_bind (wpAny_pure (wpAny_bind (wpAny_pure (wpAny_pure h'))))
theorem pe_bmG {X : Cx} {T id : String} {name : Str} {r : V → List V → Hp → VK → Prop} {o : Expr} {es : List Expr} {to : TE} {ta : TA} {apos cpos : Pos} (pa : PlainAttrs T) (slot : Slot T name id) (hty : typeOf (.builtin id) = pure (.type "method_descriptor")) (hm : MtR X id r)
    (ho : PE X o to) (ha : PA X es ta) (hbase : attributeBase o name X.env (eval o X.env) = eval o X.env) (hns : noStars es = true) (hl : es.length ≤ 1)
    (hline : (apos.endLine == cpos.line) = true) : PE X (.Call (.Attribute o name apos) es [] cpos) (tBmG X T r to ta) := by
  refine ⟨fun pins s σ H Q I h => ?_⟩
  match es, ha, hns, hl with
  | [], ha, _, _ =>
    refine wpAny_Call_method0_late hbase hline (thn (ho.run pins s σ H _ I h) fun v s1 ⟨x, H1, I1, r1, ty, q1⟩ => ?_)
    obtain ⟨h1, h2⟩ := ty pins s1 v I1 r1
    refine ⟨T, id, pa, slot, hty, h1, h2, Calls.callWith_builtin rfl (evalArgs_zero ?_)⟩
    have hA := ha.run cpos pins s1 σ H1 _ I1 q1
    exact thn hA fun us s2 ⟨vs, H2, I2, r2, q2⟩ => hm pins s2 σ H2 x vs v us Q I2 r1 r2 q2
  | [e], ha, hns, _ =>
    have he : headOk e = true := by
      have h' : (headOk e && noStars []) = true := hns
      exact (Bool.and_eq_true_iff.mp h').1
    have hs : starEach [e] X.env = (false, eval e X.env) :: starEach [] X.env := head_star he
    refine wpAny_Call_method_late hbase (by rw [hs]; rfl) hline rfl (thn (ho.run pins s σ H _ I h) fun v s1 ⟨x, H1, I1, r1, ty, q1⟩ => ?_)
    obtain ⟨h1, h2⟩ := ty pins s1 v I1 r1
    refine ⟨T, id, pa, slot, hty, h1, h2, ?_⟩
    have hA := ha.run cpos pins s1 σ H1 _ I1 q1
    rw [hs] at hA ⊢
    refine Calls.callWith_builtin (by rfl) (Calls.evalArgs_plain ?_)
    exact thn hA fun us s2 ⟨vs, H2, I2, r2, q2⟩ => hm pins s2 σ H2 x vs v us Q I2 r1 r2 q2
  | _ :: _ :: _, _, _, hl => exact absurd hl (by simp)
/-- the receiver's type -/
def bmTy : BM → String
  | .tindex => "tuple"
  | .lindex => "list"
  | _ => "str"
theorem bm_on {X : Cx} {pins : List (Addr × Obj)} {σ : L2.St} {s : Shared} {φ : Fi} {H : Hp} {st : Store} {m : BM} {d : D} {x : V} {v : Value} (r : Rel (rz X t) φ H st) (hd : Rep X.K φ H d x) (hk : m = .tindex → ∃ a o, x = .ref a ∧ X.K.lookup a = some o ∧ o.cls = .type "tuple" ∧ o.dict = none) (hl : m ≠ .lindex) (h : bmOn st m d = true) (I : Inv X pins σ H s) (rx : RelV x v) :
    s.TypeIs v (bmTy m) ∧ ∀ a, v = .ref a → ∃ ob, s.heap.get? a = some ob ∧ ob.dict = none := by
  have str : ∀ {z : Str}, d = .str z → s.TypeIs v "str" ∧ ∀ a, v = .ref a → ∃ ob, s.heap.get? a = some ob ∧ ob.dict = none := fun e => by
    subst e
    cases hd.1
    obtain ⟨tk, rfl⟩ := rx
    exact ⟨typeIs_str _ _ _, fun _ e => nomatch e⟩
  cases m with
  | lindex => exact absurd rfl hl
  | join => cases d <;> first | exact str rfl | (cases h; done)
  | split => cases d <;> first | exact str rfl | (cases h; done)
  | upper => cases d <;> first | exact str rfl | (cases h; done)
  | count => cases d <;> first | exact str rfl | (cases h; done)
  | rstrip => cases d <;> first | exact str rfl | (cases h; done)
  | sindex => cases d <;> first | exact str rfl | (cases h; done)
  | part => cases d <;> first | exact str rfl | (cases h; done)
  | tindex =>
    obtain ⟨a, o, rfl, h2, h3, h4⟩ := hk rfl
    cases rx
    exact ⟨⟨o, I.kIn _ _ h2, h3⟩, fun b e => by cases e; exact ⟨o, I.kIn _ _ h2, h4⟩⟩
theorem snd_bmA {m : BM} {id : String} {a : E} {es : List E} {X : Cx} {W : WX} {x : Expr} {xs : List Expr} {ap cp : Pos} (G : Good Γ cf P t k X W) (pa : PlainAttrs (bmTy m)) (slot : Slot (bmTy m) m.nm id) (hty : typeOf (.builtin id) = pure (.type "method_descriptor"))
    (hm : MtR X id (rBm X t (E.bm m a es).fresh m)) (hc : m = .tindex → ∃ i, a = .con i) (hli : m ≠ .lindex) (ha : Snd Γ cf P t k a) (hs : Snds Γ cf P t k es) (h1 : chk P X.N a X.env.scope x = true) (h2 : chks P X.N es X.env.scope xs = true) (hx : headA x = true) (hl : xs.length ≤ 1) (hline : (ap.endLine == cp.line) = true) :
    PE X (.Call (.Attribute x m.nm ap) xs [] cp) (tI Γ cf (rz X t) W (.bm m a es)) := by
  obtain ⟨hp, hns⟩ := snd_args es hs X W xs G h2
  by_cases hti : m = .tindex
  · -- the receiver is a constant
    obtain ⟨i, rfl⟩ := hc hti
    simp only [chk, kCon] at h1
    split at h1
    · rename_i y pos
      rw [Bool.and_eq_true] at h1
      have hn := of_decide_eq_true h1.1
      subst hn
      cases q : Γ.con i with
      | none =>
        refine ⟨fun pins s σ H Q I ⟨φ, env, st, r, E, o⟩ => ?_⟩
        simp only [ev, q] at o
        exact o.elim
      | some d =>
        obtain ⟨v, u, h3, h4, h5, h6, h7⟩ := G.top.con i d q
        refine pe_imp (pe_bmG pa slot hty hm (pe_glob (v := v) (G.glob h1.2) h3 h4 (nm0_d (glB_nm h1.2))) hp (headA_ok hx) hns hl hline) fun σ H Q ⟨φ, env, st, r, E, o⟩ => ?_
        simp only [ev, q] at o
        have o : OutG (rz X t) (repD (rz X t) (Cip.E.bm m (.con i) es).fresh) W φ H σ (if bmOn st m d = true then (evs Γ cf es env st).bind fun ds st => .of (bmD st m d ds) st else .stk) Q := o
        split at o
        · rename_i hon
          refine ⟨fun pins s v' I rx => bm_on r (h6 φ H) (fun _ => ?_) hli hon I rx, tIs_then r E shD o fun ws H2 φ2 st2 ds r2 e2 E2 p2 o2 => ?_⟩
          · subst hti
            cases d <;> first | (cases hon; done) | skip
            exact h7 _ rfl
          · exact ⟨φ2, st2, d, ds, r2, h6 φ2 H2, p2, o2.of⟩
        · exact o.elim
    · cases h1
  refine pe_imp (pe_bmG pa slot hty hm (ha X W x G h1).1 hp (headA_ok hx) hns hl hline) fun σ H Q ⟨φ, env, st, r, E, o⟩ => ?_
  simp only [ev] at o
  refine tI_then r E shD o fun v H1 φ1 st1 d r1 e1 E1 p1 o1 => ?_
  split at o1
  · rename_i hon
    refine ⟨fun pins s v I rx => bm_on r1 p1.1 (fun e => absurd e hti) hli hon I rx, tIs_then r1 E1 shD o1 fun ws H2 φ2 st2 ds r2 e2 E2 p2 o2 => ?_⟩
    exact ⟨φ2, st2, d, ds, r2, r1.rep e2 p1.1, p2, o2.of⟩
  · exact o1.elim
/-- the place of a thing in a display -/
def tTix (r : V → List V → Hp → VK → Prop) (tt ta : TA) : TE := fun σ H Q => tt σ H fun xs H1 => xs.length ≤ sizeLine ∧ ∀ q, H1 q = none → ta σ (upd H1 q (.tup xs)) fun ws H2 => r (.ref q) ws H2 Q
theorem pe_tix {X : Cx} {r : V → List V → Hp → VK → Prop} {ts : List Expr} {kk : Nat} {p ap cp : Pos} {e : Expr} {tt ta : TA} (hm : MtR X "tuple.index" r) (ht : PA X ts tt) (ha : PA X [e] ta) (he : headOk e = true) (hline : (ap.endLine == cp.line) = true) :
    PE X (.Call (.Attribute (.Tuple ts kk p) "index" ap) [e] [] cp) (tTix r tt ta) := by
  refine ⟨fun pins s σ H Q I h => ?_⟩
  have hs : starEach [e] X.env = (false, eval e X.env) :: starEach [] X.env := head_star he
  refine wpAny_Call_method_late rfl (by rw [hs]; rfl) hline rfl (wpAny_Tuple_spliced (thn (ht.run p pins s σ H _ I h) fun us s1 ⟨xs, H1, I1, r1, hz, q⟩ => ⟨by rw [← r1.length]; exact hz, ?_⟩))
  have hf : H1 s1.heap.objs.size = none := I1.hok.fresh (Nat.le_refl _)
  have g := Heap.get?_push_size s1.heap (o := { cls := .type "tuple", data := .seq us.toArray }) rfl
  have I2 : Inv X pins σ (upd H1 s1.heap.objs.size (.tup xs)) { s1 with heap := s1.heap.push { cls := .type "tuple", data := .seq us.toArray } } :=
    I1.laid (t' := s1.toks) (fun b u e => Heap.get?_push_of_some _ e) (Nat.le_refl _) ⟨hz, us, r1, ⟨_, g, rfl, _, rfl⟩⟩
  refine ⟨"tuple", "tuple.index", F.plainAttrs_tuple, F.slot_tuple_index, F.type_tuple_index, ⟨_, g, rfl⟩, fun a e => by cases e; exact ⟨_, g, rfl⟩, ?_⟩
  have hA := ha.run cp pins _ σ _ _ I2 (q _ hf)
  rw [hs] at hA ⊢
  refine Calls.callWith_builtin (by rfl) (Calls.evalArgs_plain ?_)
  exact thn hA fun vs s2 ⟨ws, H2, I3, r2, q2⟩ => hm pins s2 σ H2 (.ref s1.heap.objs.size) ws _ vs Q I3 rfl r2 q2
theorem snd_tix {ts es : List E} (hts : Snds Γ cf P t k ts) (hs : Snds Γ cf P t k es) {X : Cx} {W : WX} {x : Expr} {xs : List Expr} {ap cp : Pos} (G : Good Γ cf P t k X W) (h1 : chk P X.N (.tup ts) X.env.scope x = true) (h2 : chks P X.N es X.env.scope xs = true) (hl : es.length = 1)
    (hline : (ap.endLine == cp.line) = true) : PE X (.Call (.Attribute x "index" ap) xs [] cp) (tI Γ cf (rz X t) W (.bm .tindex (.tup ts) es)) := by
  simp only [chk, kTup] at h1
  split at h1
  · rename_i ys kk pos
    obtain ⟨ht, _⟩ := snd_args ts hts X W ys G h1
    obtain ⟨hp, hns⟩ := snd_args es hs X W xs G h2
    match es, hl, hp, h2 with
    | [e], _, hp, h2 =>
      obtain ⟨y, yr, rfl, _, h4⟩ := chks_cons h2
      obtain rfl := chks_nil h4
      have he : headOk y = true := by
        have h' : (headOk y && noStars []) = true := hns
        exact (Bool.and_eq_true_iff.mp h').1
      refine pe_imp (pe_tix (bm_tindex (t := t) (fr := (E.bm .tindex (.tup ts) [e]).fresh)) ht hp he hline) fun σ H Q ⟨φ, env, st, r, E, o⟩ => ?_
      simp only [ev] at o
      have o : OutG (rz X t) (repD (rz X t) (Cip.E.bm .tindex (.tup ts) [e]).fresh) W φ H σ ((evs Γ cf ts env st).bind fun ds st => if ds.length ≤ sizeLine then (evs Γ cf [e] env st).bind fun ws st => .of (bmD st .tindex (.tup ds) ws) st else .stk) Q := by
        revert o
        cases evs Γ cf ts env st with
        | stk => exact id
        | ex _ _ _ => exact id
        | ok ds st1 =>
          intro o
          simp only [R.bind] at o ⊢
          by_cases hz : ds.length ≤ sizeLine
          · rw [if_pos hz] at o ⊢; exact o
          · rw [if_neg hz] at o; exact o.elim
      refine tIs_then r E shD o fun v H1 φ1 st1 ds r1 e1 E1 p1 o1 => ?_
      split at o1
      · rename_i hz
        refine ⟨by rw [p1.length]; exact hz, fun q hq => ?_⟩
        obtain ⟨ra, ea, pa⟩ := new_tup r1 hq p1 hz
        have o2 := OutG.shift shD r1 ea ra o1
        exact tIs_then ra (E1.ext r1 ea) shD o2 fun ws H2 φ2 st2 ds2 r2 e2 E2 p2 o3 => ⟨φ2, st2, .tup ds, ds2, r2, ra.rep e2 pa, p2, o3.of⟩
      · exact o1.elim
  · cases h1
theorem chks_len : ∀ {es : List E} {N : List Str} {sc : Scope} {xs : List Expr}, chks P N es sc xs = true → xs.length = es.length
  | [], _, _, _, h => by rw [chks_nil h]; rfl
  | e :: es, _, _, _, h => by
    obtain ⟨y, ys, rfl, _, h2⟩ := chks_cons h
    simp [chks_len h2]
theorem ar_le (m : BM) : m.ar ≤ 1 := by cases m <;> decide
theorem snd_bm {m : BM} {a : E} {es : List E} (ha : Snd Γ cf P t k a) (hts : ∀ ts, a = .tup ts → Snds Γ cf P t k ts) (hs : Snds Γ cf P t k es) : Snd Γ cf P t k (.bm m a es) := by
  intro X W x G h
  simp only [chk, kMeth] at h
  rw [Bool.and_eq_true, Bool.and_eq_true] at h
  obtain ⟨⟨h, hn⟩, hok⟩ := h
  split at h
  · rename_i y m' ap xs cp
    simp only [Bool.and_eq_true] at h
    obtain ⟨⟨⟨⟨h1, h2⟩, h3⟩, h4⟩, h5⟩ := h
    have h1 := of_decide_eq_true h1
    subst h1
    have hl : xs.length ≤ 1 := by
      rw [chks_len h5, beq_iff_eq.mp hn]
      exact ar_le m
    refine ⟨?_, rfl⟩
    have no : ∀ {m' : BM}, m' ≠ .tindex → (m' = .tindex → ∃ i, a = .con i) := fun h e => absurd e h
    cases m with
    | join => exact snd_bmA G F.plainAttrs_str F.slot_str_join F.type_str_join bm_join (fun h => nomatch h) (fun h => nomatch h) ha hs h4 h5 h2 hl h3
    | split => exact snd_bmA G F.plainAttrs_str F.slot_str_split F.type_str_split bm_split (fun h => nomatch h) (fun h => nomatch h) ha hs h4 h5 h2 hl h3
    | upper => exact snd_bmA G F.plainAttrs_str F.slot_str_upper F.type_str_upper bm_upper (fun h => nomatch h) (fun h => nomatch h) ha hs h4 h5 h2 hl h3
    | count => exact snd_bmA G F.plainAttrs_str F.slot_str_count F.type_str_count bm_count (fun h => nomatch h) (fun h => nomatch h) ha hs h4 h5 h2 hl h3
    | rstrip => exact snd_bmA G F.plainAttrs_str F.slot_str_rstrip F.type_str_rstrip bm_rstrip (fun h => nomatch h) (fun h => nomatch h) ha hs h4 h5 h2 hl h3
    | part => exact snd_bmA G F.plainAttrs_str F.slot_str_partition F.type_str_partition bm_part (fun h => nomatch h) (fun h => nomatch h) ha hs h4 h5 h2 hl h3
    | sindex => exact snd_bmA G F.plainAttrs_str F.slot_str_index F.type_str_index bm_sindex (fun h => nomatch h) (fun h => nomatch h) ha hs h4 h5 h2 hl h3
    | tindex =>
      cases a with
      | con i => exact snd_bmA G F.plainAttrs_tuple F.slot_tuple_index F.type_tuple_index bm_tindex (fun _ => ⟨i, rfl⟩) (fun h => nomatch h) ha hs h4 h5 h2 hl h3
      | tup ts => exact snd_tix (hts ts rfl) hs G h4 h5 (beq_iff_eq.mp hn) h3
      | _ => cases hok
    | lindex => cases hok
  · cases h
end
end Cip

set_option maxHeartbeats 1000000
/-! Cip14z: zip of a tuple and a list. -/
namespace Cip
open PySem PySem.Spec PyProof.Rows L2
open PySem.Sem (wp)
section
variable {prog : Program} {w : World} {A : Around} {E : Value → Shared → Prop} {s : Shared}
theorem zipM_next_item {z TI TO i1 i2 l1 l2 : Addr} {k1 k2 : Nat} {xs ys : Array Value} {x y a b : Value} {Q : Value → Shared → Prop} (D : ZipApart z TI TO i1 i2 l1 l2)
    (hz : IsZip s.heap z TI TO .none) (hTI : IsPair s.heap TI (.ref i1) (.ref i2)) (hTO : IsPair s.heap TO a b)
    (h1 : s.heap.IsTupleIter i1 l1 k1) (h2 : s.heap.IsListIter i2 l2 k2) (hl1 : s.heap.IsTuple l1 xs) (hl2 : s.heap.IsList l2 ys) (hx : xs[k1]? = some x) (hy : ys[k2]? = some y)
    (hQ : ∀ h', IsZip h' z TI TO (rawInt s.heap.objs.size) → IsPair h' TO x y → h'.IsTupleIter i1 l1 (k1 + 1) → h'.IsListIter i2 l2 (k2 + 1) → IsPair h' s.heap.objs.size x y → h'.objs.size = s.heap.objs.size + 1 →
      (∀ c o, c ≠ z → c ≠ TO → c ≠ i1 → c ≠ i2 → s.heap.get? c = some o → h'.get? c = some o) → Q (.ref s.heap.objs.size) { s with heap := h' }) :
    wpAny (model prog w) A (Builtin.«zip.__next__» ⟨[.ref z], []⟩) (fun fin s' => ∃ v, fin = .done (.ret v) ∧ Q v s') E s := by
  show wpAny _ _ (field (.ref z) 2 >>= _) _ _ _
  refine wpAny_bind (wpAny_field hz rfl (x := .bool false) rfl ?_)
  show wpAny _ _ (field (.ref z) 3 >>= _) _ _ _
  refine wpAny_bind (wpAny_field hz rfl (x := .ref TI) rfl ?_)
  refine wpAny_bind (wpAny_seqItems hTI rfl ?_)
  show wpAny _ _ (Builtin.SmallTypes.ownedTupleIsFree (.ref z) >>= _) _ _ _
  refine wpAny_bind ?_
  unfold Builtin.SmallTypes.ownedTupleIsFree
  refine wpAny_bind (wpAny_field hz rfl (x := .none) rfl (wpAny_pure ?_))
  simp only [if_true]
  refine wpAny_bind (wpAny_rule ?_)
  refine wpAny_bind (wpAny_field hz rfl (x := .ref TO) rfl ?_)
  refine wpAny_bind (wpAny_setField_rec hz (by simp) fun h₁ hz₁ hs₁ => ?_)
  replace hz₁ : IsZip h₁ z TI TO .ellipsis := hz₁
  refine wpAny_bind ?_
  simp only [List.zipIdx_cons, List.zipIdx_nil, List.forIn_cons, List.forIn_nil]

  refine wpAny_bind (wpAny_bind (wpAny_onRaise ?_))
  show wpAny _ _ (Builtin.SmallTypes.nextOf (.ref i1) >>= _) _ _ _
  refine wpAny_bind (RZ.nextOf_tuple_item (h1.extBut hs₁.extBut D.i1z) (hl1.extBut hs₁.extBut D.l1z) hx fun h₂ h1₂ hs₂ => wpAny_pure ?_)
  have hTO₂ : IsPair h₂ TO a b := hs₂.extBut _ _ D.TOi1 (hs₁.extBut _ _ D.TOz hTO)
  refine wpAny_bind (wpAny_seqItems hTO₂ rfl ?_)
  refine wpAny_bind (wpAny_updateSeq_pair hTO₂ fun h₃ hTO₃ hs₃ => ?_)
  replace hTO₃ : IsPair h₃ TO x b := hTO₃
  refine wpAny_bind (wpAny_letGo (wpAny_pure ?_))

  refine wpAny_bind (wpAny_bind (wpAny_onRaise ?_))
  show wpAny _ _ (Builtin.SmallTypes.nextOf (.ref i2) >>= _) _ _ _
  refine wpAny_bind (wpAny_nextOf_list_item (((h2.extBut hs₁.extBut D.i2z).extBut hs₂.extBut D.i12.symm).extBut hs₃.extBut D.TOi2.symm)
    (((hl2.extBut hs₁.extBut D.l2z).extBut hs₂.extBut D.l2i1).extBut hs₃.extBut D.l2TO) hy fun h₄ h2₄ hs₄ => wpAny_pure ?_)
  have hTO₄ : IsPair h₄ TO x b := hs₄.extBut _ _ D.TOi2 hTO₃
  refine wpAny_bind (wpAny_seqItems hTO₄ rfl ?_)
  refine wpAny_bind (wpAny_updateSeq_pair hTO₄ fun h₅ hTO₅ hs₅ => ?_)
  replace hTO₅ : IsPair h₅ TO x y := hTO₅
  refine wpAny_bind (wpAny_letGo (wpAny_pure (wpAny_pure ?_)))

  refine wpAny_bind (wpAny_seqItems hTO₅ rfl ?_)
  refine wpAny_bind (wpAny_newTuple ?_)
  have hsz : h₅.objs.size = s.heap.objs.size := by rw [hs₅.1, hs₄.1, hs₃.1, hs₂.1, hs₁.1]
  have hz₅ : IsZip h₅ z TI TO .ellipsis := hs₅.extBut _ _ D.TOz.symm (hs₄.extBut _ _ D.i2z.symm (hs₃.extBut _ _ D.TOz.symm (hs₂.extBut _ _ D.i1z.symm hz₁)))
  have hk₅ : ∀ c o, c ≠ z → c ≠ TO → c ≠ i1 → c ≠ i2 → s.heap.get? c = some o → h₅.get? c = some o := fun c o c1 c2 c3 c4 e =>
    hs₅.extBut _ _ c2 (hs₄.extBut _ _ c4 (hs₃.extBut _ _ c2 (hs₂.extBut _ _ c3 (hs₁.extBut _ _ c1 e))))
  have h1₅ : h₅.IsTupleIter i1 l1 (k1 + 1) := ((h1₂.extBut hs₃.extBut D.TOi1.symm).extBut hs₄.extBut D.i12).extBut hs₅.extBut D.TOi1.symm
  have h2₅ : h₅.IsListIter i2 l2 (k2 + 1) := h2₄.extBut hs₅.extBut D.TOi2.symm
  have hzlt : z < h₅.objs.size := Heap.lt_size hz₅
  have hTOlt : TO < h₅.objs.size := Heap.lt_size hTO₅
  have hi1lt : i1 < h₅.objs.size := by obtain ⟨_, e, _⟩ := h1₅; exact Heap.lt_size e
  have hi2lt : i2 < h₅.objs.size := by obtain ⟨_, e, _⟩ := h2₅; exact Heap.lt_size e
  show wpAny _ _ (Builtin.SmallTypes.ownedTupleHandOut (.ref z) (.ref h₅.objs.size) >>= _) _ _ _
  refine wpAny_bind ?_
  unfold Builtin.SmallTypes.ownedTupleHandOut
  have hz₆ : IsZip (h₅.push { cls := .type "tuple", data := .seq #[x, y] }) z TI TO .ellipsis := Heap.get?_push_of_some _ hz₅
  refine wpAny_bind (wpAny_setField_rec hz₆ (by simp) fun h₇ hz₇ hs₇ => ?_)
  replace hz₇ : IsZip h₇ z TI TO (rawInt h₅.objs.size) := hz₇
  refine wpAny_setField_rec hz₇ (by simp) fun h₈ hz₈ hs₈ => ?_
  replace hz₈ : IsZip h₈ z TI TO (rawInt h₅.objs.size) := hz₈
  have up : ∀ c o, c ≠ z → h₅.get? c = some o → h₈.get? c = some o := fun c o c1 e => hs₈.extBut _ _ c1 (hs₇.extBut _ _ c1 (Heap.get?_push_of_some _ e))
  have hT₈ : IsPair h₈ h₅.objs.size x y := hs₈.extBut _ _ (Nat.ne_of_gt hzlt) (hs₇.extBut _ _ (Nat.ne_of_gt hzlt) (Heap.get?_push_size _ rfl))
  have hz8 : h₈.objs.size = h₅.objs.size + 1 := by rw [hs₈.1, hs₇.1, Heap.size_push]
  rw [hsz] at hz₈ hT₈ hz8
  refine wpAny_pure ⟨_, rfl, ?_⟩
  show Q (.ref h₅.objs.size) _
  rw [hsz]
  exact hQ h₈ hz₈ (up _ _ D.TOz hTO₅) (h1₅.at fun o e => up _ o D.i1z e) (h2₅.at fun o e => up _ o D.i2z e) hT₈ hz8 fun c o c1 c2 c3 c4 e => up c o c1 (hk₅ c o c1 c2 c3 c4 e)

theorem zipM_next_end {z TI TO i1 i2 l1 l2 : Addr} {k1 k2 : Nat} {xs ys : Array Value} {a b : Value} {Q : Fin → Shared → Prop} (hh : A.handled = none) (D : ZipApart z TI TO i1 i2 l1 l2)
    (hz : IsZip s.heap z TI TO .none) (hTI : IsPair s.heap TI (.ref i1) (.ref i2)) (hTO : IsPair s.heap TO a b)
    (h1 : s.heap.IsTupleIter i1 l1 k1) (h2 : s.heap.IsListIter i2 l2 k2) (hl1 : s.heap.IsTuple l1 xs) (hl2 : s.heap.IsList l2 ys) (hend : xs[k1]? = none ∨ ys[k2]? = none)
    (hE : ∀ h' e, (∀ c o, c ≠ z → c ≠ TO → c ≠ i1 → c ≠ i2 → s.heap.get? c = some o → h'.get? c = some o) → (∃ o, h'.get? e = some o ∧ o.cls = .type "StopIteration") → E (.ref e) { s with heap := h' }) :
    wpAny (model prog w) A (Builtin.«zip.__next__» ⟨[.ref z], []⟩) Q E s := by
  show wpAny _ _ (field (.ref z) 2 >>= _) _ _ _
  refine wpAny_bind (wpAny_field hz rfl (x := .bool false) rfl ?_)
  show wpAny _ _ (field (.ref z) 3 >>= _) _ _ _
  refine wpAny_bind (wpAny_field hz rfl (x := .ref TI) rfl ?_)
  refine wpAny_bind (wpAny_seqItems hTI rfl ?_)
  show wpAny _ _ (Builtin.SmallTypes.ownedTupleIsFree (.ref z) >>= _) _ _ _
  refine wpAny_bind ?_
  unfold Builtin.SmallTypes.ownedTupleIsFree
  refine wpAny_bind (wpAny_field hz rfl (x := .none) rfl (wpAny_pure ?_))
  simp only [if_true]
  refine wpAny_bind (wpAny_rule ?_)
  refine wpAny_bind (wpAny_field hz rfl (x := .ref TO) rfl ?_)
  refine wpAny_bind (wpAny_setField_rec hz (by simp) fun h₁ hz₁ hs₁ => ?_)
  replace hz₁ : IsZip h₁ z TI TO .ellipsis := hz₁
  refine wpAny_bind ?_
  simp only [List.zipIdx_cons, List.zipIdx_nil, List.forIn_cons, List.forIn_nil]
  refine wpAny_bind (wpAny_bind (wpAny_onRaise ?_))
  show wpAny _ _ (Builtin.SmallTypes.nextOf (.ref i1) >>= _) _ _ _
  cases hx : xs[k1]? with
  | none =>
    refine wpAny_bind (RZ.nextOf_tuple_end hh (h1.extBut hs₁.extBut D.i1z) (hl1.extBut hs₁.extBut D.l1z) hx fun h₂ e hs₂ he => ?_)
    obtain ⟨oe, hoe, hce⟩ := he
    have hz₂ : IsZip h₂ z TI TO .ellipsis := hs₂ _ _ D.i1z.symm hz₁
    have hez : e ≠ z := fun x => by subst x; rw [hz₂] at hoe; cases hoe; simp at hce
    refine wpAny_setField_rec hz₂ (by simp) fun h₃ _ hs₃ => hE h₃ e (fun c o c1 _ c3 _ x => hs₃.extBut _ _ c1 (hs₂ _ _ c3 (hs₁.extBut _ _ c1 x))) ⟨oe, hs₃.extBut _ _ hez hoe, hce⟩
  | some x =>
    have hy : ys[k2]? = none := by rcases hend with h | h; rw [hx] at h; cases h; exact h
    refine wpAny_bind (RZ.nextOf_tuple_item (h1.extBut hs₁.extBut D.i1z) (hl1.extBut hs₁.extBut D.l1z) hx fun h₂ h1₂ hs₂ => wpAny_pure ?_)
    have hTO₂ : IsPair h₂ TO a b := hs₂.extBut _ _ D.TOi1 (hs₁.extBut _ _ D.TOz hTO)
    refine wpAny_bind (wpAny_seqItems hTO₂ rfl ?_)
    refine wpAny_bind (wpAny_updateSeq_pair hTO₂ fun h₃ hTO₃ hs₃ => ?_)
    refine wpAny_bind (wpAny_letGo (wpAny_pure ?_))
    refine wpAny_bind (wpAny_bind (wpAny_onRaise ?_))
    show wpAny _ _ (Builtin.SmallTypes.nextOf (.ref i2) >>= _) _ _ _
    refine wpAny_bind (wpAny_nextOf_list_end hh (((h2.extBut hs₁.extBut D.i2z).extBut hs₂.extBut D.i12.symm).extBut hs₃.extBut D.TOi2.symm)
      (((hl2.extBut hs₁.extBut D.l2z).extBut hs₂.extBut D.l2i1).extBut hs₃.extBut D.l2TO) hy fun h₄ e hs₄ he => ?_)
    obtain ⟨oe, hoe, hce⟩ := he
    have hz₄ : IsZip h₄ z TI TO .ellipsis := hs₄ _ _ D.i2z.symm (hs₃.extBut _ _ D.TOz.symm (hs₂.extBut _ _ D.i1z.symm hz₁))
    have hez : e ≠ z := fun x => by subst x; rw [hz₄] at hoe; cases hoe; simp at hce
    refine wpAny_setField_rec hz₄ (by simp) fun h₅ _ hs₅ => hE h₅ e (fun c o c1 c2 c3 c4 x => hs₅.extBut _ _ c1 (hs₄ _ _ c4 (hs₃.extBut _ _ c2 (hs₂.extBut _ _ c3 (hs₁.extBut _ _ c1 x))))) ⟨oe, hs₅.extBut _ _ hez hoe, hce⟩

theorem pyNext_zipM_item {z TI TO i1 i2 l1 l2 : Addr} {k1 k2 : Nat} {xs ys : Array Value} {x y a b : Value} {Q : Option Value → Shared → Prop} (D : ZipApart z TI TO i1 i2 l1 l2)
    (hz : IsZip s.heap z TI TO .none) (hTI : IsPair s.heap TI (.ref i1) (.ref i2)) (hTO : IsPair s.heap TO a b)
    (h1 : s.heap.IsTupleIter i1 l1 k1) (h2 : s.heap.IsListIter i2 l2 k2) (hl1 : s.heap.IsTuple l1 xs) (hl2 : s.heap.IsList l2 ys) (hx : xs[k1]? = some x) (hy : ys[k2]? = some y)
    (hQ : ∀ h', IsZip h' z TI TO (rawInt s.heap.objs.size) → IsPair h' TO x y → h'.IsTupleIter i1 l1 (k1 + 1) → h'.IsListIter i2 l2 (k2 + 1) → IsPair h' s.heap.objs.size x y → h'.objs.size = s.heap.objs.size + 1 →
      (∀ c o, c ≠ z → c ≠ TO → c ≠ i1 → c ≠ i2 → s.heap.get? c = some o → h'.get? c = some o) → Q (some (.ref s.heap.objs.size)) { s with heap := h' }) :
    wpAny (model prog w) A (pyNext (.ref z)) Q E s := by
  have hT : s.TypeIs (.ref z) "zip" := ⟨_, hz, rfl⟩
  unfold pyNext
  exact wpAny_bind (wpAny_attempt (wpAny_callSpecial?_slot (name := Str.ofString "__next__") hT F.slot_zip_next
    (wpAny_call_entry F.slot_zip_next hT F.entry_zip_next
      (zipM_next_item D hz hTI hTO h1 h2 hl1 hl2 hx hy fun h' a1 a2 a3 a4 a5 a6 a7 => wpAny_pure (hQ h' a1 a2 a3 a4 a5 a6 a7)) (F.args_zip_next_1 _))))

theorem pyNext_zipM_end {z TI TO i1 i2 l1 l2 : Addr} {k1 k2 : Nat} {xs ys : Array Value} {a b : Value} {Q : Option Value → Shared → Prop} (hh : A.handled = none) (D : ZipApart z TI TO i1 i2 l1 l2)
    (hz : IsZip s.heap z TI TO .none) (hTI : IsPair s.heap TI (.ref i1) (.ref i2)) (hTO : IsPair s.heap TO a b)
    (h1 : s.heap.IsTupleIter i1 l1 k1) (h2 : s.heap.IsListIter i2 l2 k2) (hl1 : s.heap.IsTuple l1 xs) (hl2 : s.heap.IsList l2 ys) (hend : xs[k1]? = none ∨ ys[k2]? = none)
    (hQ : ∀ h', (∀ c o, c ≠ z → c ≠ TO → c ≠ i1 → c ≠ i2 → s.heap.get? c = some o → h'.get? c = some o) → Q none { s with heap := h' }) : wpAny (model prog w) A (pyNext (.ref z)) Q E s := by
  have hT : s.TypeIs (.ref z) "zip" := ⟨_, hz, rfl⟩
  unfold pyNext
  refine wpAny_bind (wpAny_attempt (wpAny_callSpecial?_slot (name := Str.ofString "__next__") hT F.slot_zip_next
    (wpAny_call_entry F.slot_zip_next hT F.entry_zip_next (zipM_next_end hh D hz hTI hTO h1 h2 hl1 hl2 hend fun h' e hk he => ?_) (F.args_zip_next_1 _))))
  obtain ⟨o, ho, hc⟩ := he
  refine wpAny_bind (wpAny_isInstance (T := "StopIteration") (b := true) ⟨o, ho, hc⟩ isSubtype_stop ?_)
  exact wpAny_pure (hQ _ hk)

abbrev zipMH1 (h : Heap) (l1 : Addr) : Heap := h.push { cls := .type "tuple_iterator", data := .fields #[.ref l1, .int 0 0] }
abbrev zipMH2 (h : Heap) (l1 l2 : Addr) : Heap := (zipMH1 h l1).push { cls := .type "list_iterator", data := .fields #[.ref l2, .int 0 0] }
abbrev zipMH3 (h : Heap) (l1 l2 : Addr) : Heap := (zipMH2 h l1 l2).push { cls := .type "tuple", data := .seq #[.ref h.objs.size, .ref (zipMH1 h l1).objs.size] }
abbrev zipMH4 (h : Heap) (l1 l2 : Addr) : Heap := (zipMH3 h l1 l2).push { cls := .type "tuple", data := .seq #[.none, .none] }
abbrev zipMH5 (h : Heap) (l1 l2 : Addr) : Heap := (zipMH4 h l1 l2).push { cls := .type "zip", data := .fields #[.none, .bool false, .bool false, .ref (zipMH2 h l1 l2).objs.size, .ref (zipMH3 h l1 l2).objs.size] }

theorem meets_zipM_new (l1 l2 : Addr) (xs ys : Array Value) :
    Meets (Builtin.«zip.__new__» ⟨[.type "zip", .ref l1, .ref l2], []⟩) (fun _ R s => s.heap.IsTuple l1 xs ∧ s.heap.IsList l2 ys ∧
      R (.ok (.ret (.ref (zipMH4 s.heap l1 l2).objs.size))) { s with heap := zipMH5 s.heap l1 l2 }) :=
  .of_wp fun prog w A R s h => by
    obtain ⟨hp, g, d, tk, os⟩ := s; obtain ⟨hl1, hl2, h⟩ := h
    have hsub := sub_zip
    have hL1 : Heap.IsTuple (Shared.heap ⟨hp, g, d, tk, os⟩) l1 xs := hl1
    have hL2 : Heap.IsList (Shared.heap ⟨hp.push { cls := .type "tuple_iterator", data := .fields #[.ref l1, .int 0 0] }, g, d, tk, os⟩) l2 ys := Heap.IsList.push hl2 _
    wp_walk using wpAny_pyIter_tuple hL1, wpAny_pyIter_list hL2
    exact ⟨_, rfl, h⟩


theorem call_zipM {l1 l2 : Addr} {xs ys : Array Value} {Q : Value → Shared → Prop} (hl1 : s.heap.IsTuple l1 xs) (hl2 : s.heap.IsList l2 ys)
    (h : ∀ h', IsZip h' (s.heap.objs.size + 4) (s.heap.objs.size + 2) (s.heap.objs.size + 3) .none → IsPair h' (s.heap.objs.size + 2) (.ref s.heap.objs.size) (.ref (s.heap.objs.size + 1)) →
      IsPair h' (s.heap.objs.size + 3) .none .none → h'.IsTupleIter s.heap.objs.size l1 0 → h'.IsListIter (s.heap.objs.size + 1) l2 0 → h'.objs.size = s.heap.objs.size + 5 →
      (∀ c o, s.heap.get? c = some o → h'.get? c = some o) → Q (.ref (s.heap.objs.size + 4)) { s with heap := h' }) :
    wpAny (model prog w) A (call (.type "zip") [.ref l1, .ref l2]) Q E s := by
  refine callType_new F.called_zip (by decide) (F.typeCall_zip_2 _ _) (F.newCall_zip_2 _ _) (fun obj => F.args_object_init_3 obj _ _) F.entry_zip_new
    (meets_zipM_new l1 l2 xs ys) ⟨hl1, hl2, ?_⟩
  have z1 : (zipMH1 s.heap l1).objs.size = s.heap.objs.size + 1 := Heap.size_push ..
  have z2 : (zipMH2 s.heap l1 l2).objs.size = s.heap.objs.size + 2 := by rw [Heap.size_push, z1]
  have z3 : (zipMH3 s.heap l1 l2).objs.size = s.heap.objs.size + 3 := by rw [Heap.size_push, z2]
  have z4 : (zipMH4 s.heap l1 l2).objs.size = s.heap.objs.size + 4 := by rw [Heap.size_push, z3]
  have z5 : (zipMH5 s.heap l1 l2).objs.size = s.heap.objs.size + 5 := by rw [Heap.size_push, z4]
  have g5 : (zipMH5 s.heap l1 l2).get? (zipMH4 s.heap l1 l2).objs.size = some _ := Heap.get?_push_size _ rfl
  have g4 : (zipMH5 s.heap l1 l2).get? (zipMH3 s.heap l1 l2).objs.size = some _ := Heap.get?_push_of_some _ (Heap.get?_push_size _ rfl)
  have g3 : (zipMH5 s.heap l1 l2).get? (zipMH2 s.heap l1 l2).objs.size = some _ := Heap.get?_push_of_some _ (Heap.get?_push_of_some _ (Heap.get?_push_size _ rfl))
  have g2 : (zipMH5 s.heap l1 l2).get? (zipMH1 s.heap l1).objs.size = some _ := Heap.get?_push_of_some _ (Heap.get?_push_of_some _ (Heap.get?_push_of_some _ (Heap.get?_push_size _ rfl)))
  have g1 : (zipMH5 s.heap l1 l2).get? s.heap.objs.size = some _ := Heap.get?_push_of_some _ (Heap.get?_push_of_some _ (Heap.get?_push_of_some _ (Heap.get?_push_of_some _ (Heap.get?_push_size _ rfl))))
  show _ ∧ _
  rw [z2, z3, z4] at g5
  rw [z1, z2] at g3
  rw [z3] at g4
  rw [z1] at g2
  rw [z4]
  exact ⟨⟨_, g5, rfl⟩, h _ g5 g3 g4 ⟨_, g1, rfl, rfl⟩ ⟨_, g2, rfl, rfl⟩ z5 fun c o x =>
    Heap.get?_push_of_some _ (Heap.get?_push_of_some _ (Heap.get?_push_of_some _ (Heap.get?_push_of_some _ (Heap.get?_push_of_some _ x))))⟩
end
/-- the tuple at a and the list at b, the items in new pairs -/
def ItzM (K : PySem.W.Frag) (a b : Addr) : It :=
  ⟨fun i H => ∃ (xs ys : List V) (x y : V), SqT K H a xs ∧ SqL K H b ys ∧ xs[i]? = some x ∧ ys[i]? = some y,
    fun i H v H' => ∃ T x y, v = .ref T ∧ H T = none ∧ H' = upd H T (.tup [x, y]) ∧ (∀ xs, SqT K H a xs → xs[i]? = some x) ∧ ∀ ys, SqL K H b ys → ys[i]? = some y,
    fun i H => ∃ xs ys : List V, SqT K H a xs ∧ SqL K H b ys ∧ (xs.length ≤ i ∨ ys.length ≤ i)⟩

theorem turn_zipM {P : Program} {w : World} {K : PySem.W.Frag} {elts : List Expr} {kk : Nat} {tpos : Pos} {a b z TI TO i1 i2 : Addr} (D : ZipApart z TI TO i1 i2 a b) :
    Turn P w K (.Tuple elts kk tpos) (ItzM K a b) [z, TI, TO, i1, i2] z (fun i h => IsZip h z TI TO .none ∧ IsPair h TI (.ref i1) (.ref i2) ∧ (∃ x y, IsPair h TO x y) ∧ h.IsTupleIter i1 a i ∧ h.IsListIter i2 b i) where
  mem := by simp
  obj := fun i h st c hc => by
    obtain ⟨hz, hTI, ⟨x, y, hTO⟩, ⟨o1, e1, _, d1⟩, ⟨o2, e2, _, d2⟩⟩ := st
    have e' : c = z ∨ c = TI ∨ c = TO ∨ c = i1 ∨ c = i2 := by simpa using hc
    rcases e' with q | q | q | q | q
    · rw [q]; exact ⟨_, hz, fun v q => nomatch q⟩
    · rw [q]; exact ⟨_, hTI, fun v q => nomatch q⟩
    · rw [q]; exact ⟨_, hTO, fun v q => nomatch q⟩
    · rw [q]; exact ⟨o1, e1, fun v q => by rw [d1] at q; cases q⟩
    · rw [q]; exact ⟨o2, e2, fun v q => by rw [d2] at q; cases q⟩
  keep := fun i h h' st k => by
    obtain ⟨hz, hTI, ⟨x, y, hTO⟩, h1, h2⟩ := st
    exact ⟨k z (by simp) _ hz, k TI (by simp) _ hTI, ⟨x, y, k TO (by simp) _ hTO⟩, h1.at fun o q => k i1 (by simp) o q, h2.at fun o q => k i2 (by simp) o q⟩
  item := by
    intro X hP hw hK hc i pins s σ H E I hf st hg
    subst hP hw hK
    obtain ⟨hz, hTI, ⟨x0, y0, hTO⟩, h1, h2⟩ := st
    obtain ⟨xs, ys, x, y, hqx, hqy, hx, hy⟩ := hg
    obtain ⟨its, rv, p, _⟩ := I.tuple hqx
    obtain ⟨its2, rv2, p2, _⟩ := I.list hqy
    obtain ⟨u, hu, ru⟩ := rv.get hx
    obtain ⟨u2, hu2, ru2⟩ := rv2.get hy
    have hzl : z < s.heap.objs.size := Heap.lt_size hz
    refine pyNext_zipM_item D hz hTI hTO h1 h2 p p2.isList (x := u) (y := u2) (by simpa using hu) (by simpa using hu2) fun h' z' TO' h1' h2' hT hsz hk => ?_
    refine ⟨_, rfl, wpAny_letOwnedTupleGo_zip (s := { s with heap := h' }) z' fun h'' z'' sb => ?_⟩
    have hT2 : h''.get? s.heap.objs.size = some { cls := .type "tuple", data := .seq #[u, u2] } := (sb.2 _ (Nat.ne_of_gt hzl)).trans hT
    have new : ObjOk X.prog X.w (upd H s.heap.objs.size (.tup [x, y])) h'' s.heap.objs.size (.tup [x, y]) :=
      ⟨by show 2 ≤ sizeLine; decide, [u, u2], .cons ru (.cons ru2 .nil), ⟨_, hT2, rfl, _, rfl⟩⟩
    have I1 : Inv X pins σ (upd H s.heap.objs.size (.tup [x, y])) { s with heap := h'' } :=
      I.turnedNew (t' := s.toks) (ch := [z, TI, TO, i1, i2]) (fun c o hb q => (sb.2 c (fun q' => hb (by simp [q']))).trans (hk c o (fun q' => hb (by simp [q'])) (fun q' => hb (by simp [q'])) (fun q' => hb (by simp [q'])) (fun q' => hb (by simp [q'])) q)) hf (Nat.le_refl _) new
    refine ⟨.ref s.heap.objs.size, _, I1, rfl, ⟨_, x, y, rfl, I.hok.fresh (Nat.le_refl _), rfl, fun l hl => by rw [I.tuple_inj hl hqx]; exact hx, fun l hl => by rw [I.list_inj hl hqy]; exact hy⟩, ⟨z'', ?_, ⟨u, u2, ?_⟩, ?_, ?_⟩, fun c hcm => ?_⟩
    · exact (sb.2 _ D.TIz).trans (hk _ _ D.TIz D.TITO D.TIi1 D.TIi2 hTI)
    · exact (sb.2 _ D.TOz).trans TO'
    · exact h1'.at fun o q => (sb.2 _ D.i1z).trans q
    · exact h2'.at fun o q => (sb.2 _ D.i2z).trans q
    · have hlt : c < s.heap.objs.size := by
        have e' : c = z ∨ c = TI ∨ c = TO ∨ c = i1 ∨ c = i2 := by simpa using hcm
        rcases e' with q | q | q | q | q
        · rw [q]; exact hzl
        · rw [q]; exact Heap.lt_size hTI
        · rw [q]; exact Heap.lt_size hTO
        · rw [q]; obtain ⟨_, e1, _⟩ := h1; exact Heap.lt_size e1
        · rw [q]; obtain ⟨_, e2, _⟩ := h2; exact Heap.lt_size e2
      rw [upd_ne (Nat.ne_of_lt hlt)]
      exact (hf c hcm).1
  done := by
    intro X hP hw hK hc i pins s σ H E I hf st hg
    subst hP hw hK
    obtain ⟨hz, hTI, ⟨x0, y0, hTO⟩, h1, h2⟩ := st
    obtain ⟨xs, ys, hqx, hqy, hend⟩ := hg
    obtain ⟨its, rv, p, _⟩ := I.tuple hqx
    obtain ⟨its2, rv2, p2, _⟩ := I.list hqy
    have l1 := rv.length
    have l2 := rv2.length
    have he : its.toArray[i]? = none ∨ its2.toArray[i]? = none := by
      rcases hend with q | q
      · exact .inl (by simp; omega)
      · exact .inr (by simp; omega)
    exact pyNext_zipM_end (I.ok.hd hc) D hz hTI hTO h1 h2 p p2.isList he fun h' hk => ⟨rfl, I.turnedL (t' := s.toks) (ch := [z, TI, TO, i1, i2]) (fun c o hb q =>
      hk c o (fun q' => hb (by simp [q'])) (fun q' => hb (by simp [q'])) (fun q' => hb (by simp [q'])) (fun q' => hb (by simp [q'])) q) hf⟩
  self := fun A i s Q E st h => wpAny_pyIter_zip st.1 h

def iZipB (K : PySem.W.Frag) (ta : TA) : TI := fun σ H R => ta σ H fun vs H1 => ∃ a b xs ys, vs = [.ref a, .ref b] ∧ ((SqL K H1 a xs ∧ SqL K H1 b ys ∧ R (Itz K a b) H1) ∨ (SqT K H1 a xs ∧ SqT K H1 b ys ∧ R (RZ.ItzT K a b) H1) ∨ (SqT K H1 a xs ∧ SqL K H1 b ys ∧ R (ItzM K a b) H1))
theorem pi_zipB {X : Cx} {e e2 : Expr} {ta : TA} {p pos tpos : Pos} {elts : List Expr} {kk : Nat} (hg : Gl X "zip") (hm : X.mg "zip" = none) (ha : PA X [e, e2] ta)
    (hs : starEach [e, e2] X.env = (false, eval e X.env) :: starEach [e2] X.env := by rfl) (hpl : (backTo pos (starEach [e2] X.env)).any (·.1) = false := by rfl) :
    PI X (.Tuple elts kk tpos) (.Call (.Name "zip" p) [e, e2] [] pos) (iZipB X.K ta) := by
  refine ⟨fun pins s σ H R I h => ?_⟩
  refine Call_ (ld_blt I hg hm PyProof.Rows.boot_zip (PyProof.Rows.callWith_type1 (thn (ha.run pos pins s σ H _ I h) fun us s1 ⟨vs, H1, I1, r1, q1⟩ => ?_) hs hpl))
  obtain ⟨a, b, xs, ys, ex, q1⟩ := q1
  subst ex
  cases r1 with
  | cons r rr =>
    cases rr with
    | cons r' rr =>
      cases rr
      cases r
      cases r'
      have fresh5 : ∀ c, c ∈ [s1.heap.objs.size + 4, s1.heap.objs.size + 2, s1.heap.objs.size + 3, s1.heap.objs.size, s1.heap.objs.size + 1] → FpOk X pins H1 c := fun c hcm => by
        have e' : c = s1.heap.objs.size + 4 ∨ c = s1.heap.objs.size + 2 ∨ c = s1.heap.objs.size + 3 ∨ c = s1.heap.objs.size ∨ c = s1.heap.objs.size + 1 := by simpa using hcm
        have hle : s1.heap.objs.size ≤ c := by
          rcases e' with z | z | z | z | z
          · rw [z]; exact Nat.le_add_right _ _
          · rw [z]; exact Nat.le_add_right _ _
          · rw [z]; exact Nat.le_add_right _ _
          · rw [z]; exact Nat.le_refl _
          · rw [z]; exact Nat.le_add_right _ _
        exact I1.fpOk hle (I1.hok.fresh hle)
      rcases q1 with ⟨hqx, hqy, q⟩ | ⟨hqx, hqy, q⟩ | ⟨hqx, hqy, q⟩
      · obtain ⟨its, rv, p1, _⟩ := I1.list hqx
        obtain ⟨its2, rv2, p2, _⟩ := I1.list hqy
        refine call_zip_2 p1.isList p2.isList fun h' hz hTI hTO h1 h2 hsz hk => wpAny_pyIter_zip hz ?_
        have I2 : Inv X pins σ H1 { s1 with heap := h' } := I1.kept (t' := s1.toks) hk
        exact ⟨s1.heap.objs.size + 4, [s1.heap.objs.size + 4, s1.heap.objs.size + 2, s1.heap.objs.size + 3, s1.heap.objs.size, s1.heap.objs.size + 1], _, _, H1, rfl, I2, turn_zip (PySem.W.ktu_apart s1.heap.objs.size a b p1.lt p2.lt), ⟨hz, hTI, ⟨_, _, hTO⟩, h1, h2⟩, fresh5, q⟩
      · obtain ⟨its, rv, p1, _⟩ := I1.tuple hqx
        obtain ⟨its2, rv2, p2, _⟩ := I1.tuple hqy
        obtain ⟨o1, ho1, _⟩ := id p1
        obtain ⟨o2, ho2, _⟩ := id p2
        refine RZ.call_zipT (show s1.heap.IsTuple a its.toArray from p1) (show s1.heap.IsTuple b its2.toArray from p2) fun h' hz hTI hTO h1 h2 hsz hk => wpAny_pyIter_zip hz ?_
        have I2 : Inv X pins σ H1 { s1 with heap := h' } := I1.kept (t' := s1.toks) hk
        exact ⟨s1.heap.objs.size + 4, [s1.heap.objs.size + 4, s1.heap.objs.size + 2, s1.heap.objs.size + 3, s1.heap.objs.size, s1.heap.objs.size + 1], _, _, H1, rfl, I2, RZ.turn_zipT (PySem.W.ktu_apart s1.heap.objs.size a b (Heap.lt_size ho1) (Heap.lt_size ho2)), ⟨hz, hTI, ⟨_, _, hTO⟩, h1, h2⟩, fresh5, q⟩
      · obtain ⟨its, rv, p1, _⟩ := I1.tuple hqx
        obtain ⟨its2, rv2, p2, _⟩ := I1.list hqy
        obtain ⟨o1, ho1, _⟩ := id p1
        refine call_zipM (show s1.heap.IsTuple a its.toArray from p1) p2.isList fun h' hz hTI hTO h1 h2 hsz hk => wpAny_pyIter_zip hz ?_
        have I2 : Inv X pins σ H1 { s1 with heap := h' } := I1.kept (t' := s1.toks) hk
        exact ⟨s1.heap.objs.size + 4, [s1.heap.objs.size + 4, s1.heap.objs.size + 2, s1.heap.objs.size + 3, s1.heap.objs.size, s1.heap.objs.size + 1], _, _, H1, rfl, I2, turn_zipM (PySem.W.ktu_apart s1.heap.objs.size a b (Heap.lt_size ho1) p2.lt), ⟨hz, hTI, ⟨_, _, hTO⟩, h1, h2⟩, fresh5, q⟩
end Cip

set_option maxHeartbeats 4000000
/-! Cip15: hidden places; what is walked. -/
namespace Cip
open PySem PySem.Spec PyProof.Rows L2

/-! ### hidden places -/
section
variable {K : PySem.W.Frag} {T : Rz} {φ φ' : Fi} {H H' : Hp} {st : Store} {D0 : Addr}
/-- an object that no value leads to may change -/
structure Alt (φ φ' : Fi) (H H' : Hp) (D0 : Addr) : Prop where
  inH : D0 ∈ φ.hid
  noT : NoTup H D0
  eq : ∀ a, a ≠ D0 → H' a = H a
  ref : φ'.ref = φ.ref
  sub : ∀ a ∈ φ'.hid, a ∈ φ.hid
theorem Alt.no (A : Alt φ φ' H H' D0) {a : Addr} (h : φ.no a) : φ'.no a ∧ a ≠ D0 := ⟨⟨by rw [A.ref]; exact h.1, fun m => h.2 (A.sub a m)⟩, fun e => h.2 (e ▸ A.inH)⟩
theorem Alt.sqt (A : Alt φ φ' H H' D0) {a : Addr} {vs : List V} (h : SqT K H a vs) : SqT K H' a vs := by
  rcases h with h | h
  · have n : a ≠ D0 := fun e => A.noT vs (e ▸ h)
    rcases h with h | ⟨o, h⟩
    · exact .inl (.inl (by rw [A.eq a n]; exact h))
    · exact .inl (.inr ⟨o, by rw [A.eq a n]; exact h⟩)
  · exact .inr h
theorem Alt.sqf (A : Alt φ φ' H H' D0) {a : Addr} {vs : List V} (h : SqF K φ H a vs) : SqF K φ' H' a vs := by
  rcases h with ⟨h, n⟩ | h
  · obtain ⟨n1, n2⟩ := A.no n
    rcases h with h | ⟨o, h⟩
    · exact .inl ⟨.inl (by rw [A.eq a n2]; exact h), n1⟩
    · exact .inl ⟨.inr ⟨o, by rw [A.eq a n2]; exact h⟩, n1⟩
  · exact .inr h
mutual
theorem Rep.alt (A : Alt φ φ' H H' D0) : ∀ (d : D) (v : V), Rep K φ H d v → Rep K φ' H' d v
  | .non, _, h => h
  | .bl _, _, h => h
  | .int _, _, h => h
  | .str _, _, h => h
  | .tup xs, _, ⟨a, vs, h1, h2, h3, h4⟩ => ⟨a, vs, h1, A.sqt h2, h3, Reps.alt A xs vs h4⟩
  | .lst xs, _, ⟨a, vs, h1, h2, h3, h4, h5⟩ => ⟨a, vs, h1, by rw [A.eq a (A.no h3).2]; exact h2, (A.no h3).1, h4, Reps.alt A xs vs h5⟩
  | .scr xs, _, ⟨a, vs, h1, h2, h4, h5⟩ => ⟨a, vs, h1, A.sqf h2, h4, Reps.alt A xs vs h5⟩
  | .dct ks ws, _, ⟨a, kvs, h1, h2, h3, h4, h5⟩ => ⟨a, kvs, h1, by rw [A.eq a (A.no h3).2]; exact h2, (A.no h3).1, h4, Reps.alt A ws _ h5⟩
  | .ref k, _, ⟨a, h1, h2⟩ => ⟨a, by rw [A.ref]; exact h1, h2⟩
theorem Reps.alt (A : Alt φ φ' H H' D0) : ∀ (ds : List D) (vs : List V), Reps K φ H ds vs → Reps K φ' H' ds vs
  | [], _, h => h
  | x :: xs, _, ⟨v, r, h1, h2, h3⟩ => ⟨v, r, h1, Rep.alt A x v h2, Reps.alt A xs r h3⟩
end
theorem ORel.alt (A : Alt φ φ' H H' D0) {o : MO} {a : Addr} (hn : a ≠ D0) (h : ORel T φ H o a) : ORel T φ' H' o a := by
  cases o with
  | lst _ => obtain ⟨vs, h1, h2, h3⟩ := h; exact ⟨vs, (A.eq a hn).trans h1, h2, Reps.alt A _ _ h3⟩
  | dct lk _ _ => obtain ⟨kvs, h1, h2, h3⟩ := h; exact ⟨kvs, by rw [A.eq a hn]; exact h1, h2, Reps.alt A _ _ h3⟩
  | ins _ _ => obtain ⟨dx, gs, h1, h2, h3⟩ := h; exact ⟨dx, gs, (A.eq a hn).trans h1, h2, Reps.alt A _ _ h3⟩
  | exc _ _ =>
    obtain ⟨d, h1, h2⟩ := h
    refine ⟨d, (A.eq a hn).trans h1, h2.1, fun z => ?_⟩
    obtain ⟨dd, gs, e1, e2, e3, e4, e5⟩ := h2.2 z
    exact ⟨dd, gs, e1, by rw [A.eq dd (A.no e3).2]; exact e2, (A.no e3).1, e4, Reps.alt A _ _ e5⟩
theorem Rel.alt (A : Alt φ φ' H H' D0) (r : Rel T φ H st) (hh : ∀ a ∈ φ'.hid, ∃ xs, H' a = some (.lst xs)) : Rel T φ' H' st :=
  ⟨by rw [A.ref]; exact r.len, by rw [A.ref]; exact r.nd, fun k o h => by
    obtain ⟨a, h1, h2⟩ := r.at_ k o h
    exact ⟨a, by rw [A.ref]; exact h1, h2.alt A fun e => (r.hid D0 A.inH).1 (e ▸ List.mem_of_getElem? h1)⟩, fun a ha => ⟨by rw [A.ref]; exact (r.hid a (A.sub a ha)).1, hh a ha⟩⟩
/-- more is hidden, where nothing stood -/
structure Hide (φ φ' : Fi) (H : Hp) : Prop where
  ref : φ'.ref = φ.ref
  sub : ∀ a ∈ φ'.hid, a ∈ φ.hid ∨ H a = none
theorem Hide.no (A : Hide φ φ' H) {a : Addr} {o : HO} (e : H a = some o) (h : φ.no a) : φ'.no a := ⟨by rw [A.ref]; exact h.1, fun m => by
  rcases A.sub a m with m | m
  · exact h.2 m
  · rw [e] at m; cases m⟩
mutual
theorem Rep.hide (A : Hide φ φ' H) : ∀ (d : D) (v : V), Rep K φ H d v → Rep K φ' H d v
  | .non, _, h => h
  | .bl _, _, h => h
  | .int _, _, h => h
  | .str _, _, h => h
  | .tup xs, _, ⟨a, vs, h1, h2, h3, h4⟩ => ⟨a, vs, h1, h2, h3, Reps.hide A xs vs h4⟩
  | .lst xs, _, ⟨a, vs, h1, h2, h3, h4, h5⟩ => ⟨a, vs, h1, h2, A.no h2 h3, h4, Reps.hide A xs vs h5⟩
  | .scr xs, _, ⟨a, vs, h1, h2, h4, h5⟩ => ⟨a, vs, h1, h2.elim (fun h => .inl ⟨h.1, h.1.elim (fun z => A.no z h.2) (fun ⟨_, z⟩ => A.no z h.2)⟩) .inr, h4, Reps.hide A xs vs h5⟩
  | .dct ks ws, _, ⟨a, kvs, h1, h2, h3, h4, h5⟩ => ⟨a, kvs, h1, h2, A.no h2 h3, h4, Reps.hide A ws _ h5⟩
  | .ref k, _, ⟨a, h1, h2⟩ => ⟨a, by rw [A.ref]; exact h1, h2⟩
theorem Reps.hide (A : Hide φ φ' H) : ∀ (ds : List D) (vs : List V), Reps K φ H ds vs → Reps K φ' H ds vs
  | [], _, h => h
  | x :: xs, _, ⟨v, r, h1, h2, h3⟩ => ⟨v, r, h1, Rep.hide A x v h2, Reps.hide A xs r h3⟩
end
theorem ORel.hide (A : Hide φ φ' H) {o : MO} {a : Addr} (h : ORel T φ H o a) : ORel T φ' H o a := by
  cases o with
  | lst _ => obtain ⟨vs, h1, h2, h3⟩ := h; exact ⟨vs, h1, h2, Reps.hide A _ _ h3⟩
  | dct lk _ _ => obtain ⟨kvs, h1, h2, h3⟩ := h; exact ⟨kvs, h1, h2, Reps.hide A _ _ h3⟩
  | ins _ _ => obtain ⟨dx, gs, h1, h2, h3⟩ := h; exact ⟨dx, gs, h1, h2, Reps.hide A _ _ h3⟩
  | exc _ _ =>
    obtain ⟨d, h1, h2⟩ := h
    refine ⟨d, h1, h2.1, fun z => ?_⟩
    obtain ⟨dd, gs, e1, e2, e3, e4, e5⟩ := h2.2 z
    exact ⟨dd, gs, e1, e2, A.no e2 e3, e4, Reps.hide A _ _ e5⟩
/-- a list is laid that no value leads to -/
def Fi.hide (φ : Fi) (a : Addr) : Fi := ⟨φ.ref, a :: φ.hid⟩
theorem hide_one {a : Addr} (h : H a = none) : Hide φ (φ.hide a) H := ⟨rfl, fun b hb => (List.mem_cons.mp hb).elim (fun e => .inr (e ▸ h)) .inl⟩
theorem Rel.hide {a : Addr} {xs : List V} (r : Rel T φ H st) (h : H a = none) : Rel T (φ.hide a) (upd H a (.lst xs)) st :=
  ⟨r.len, r.nd, fun k o hk => by
    obtain ⟨b, h1, h2⟩ := r.at_ k o hk
    obtain ⟨u, hu⟩ := h2.there
    exact ⟨b, h1, ORel.ext (φ := φ.hide a) (φ' := φ.hide a) (ext_new h) r.nt (upd_ne (ne_of_none hu h)) (h2.hide (hide_one h))⟩, fun b hb => by
    rcases List.mem_cons.mp hb with e | hb
    · rw [e]
      exact ⟨(r.fresh h).1, xs, upd_same⟩
    · obtain ⟨h1, ys, h2⟩ := r.hid b hb
      exact ⟨h1, ys, by rw [upd_ne (ne_of_none h2 h)]; exact h2⟩⟩
theorem rep_hide {a : Addr} {xs : List V} {d : D} {v : V} (r : Rel T φ H st) (h : H a = none) (hd : Rep T.K φ H d v) : Rep T.K (φ.hide a) (upd H a (.lst xs)) d v := Rep.ext (φ := φ.hide a) (φ' := φ.hide a) (ext_new h) r.nt d v (Rep.hide (hide_one h) d v hd)
theorem EnvR.hide {a : Addr} {xs : List V} {σ : L2.St} {env : Env} (E : EnvR T φ H σ env) (r : Rel T φ H st) (h : H a = none) : EnvR T (φ.hide a) (upd H a (.lst xs)) σ env :=
  ⟨E.len, fun i d hd => let ⟨v, h1, h2⟩ := E.get i d hd; ⟨v, h1, rep_hide r h h2⟩⟩
theorem EnvR.alt {σ : L2.St} {env : Env} (A : Alt φ φ' H H' D0) (E : EnvR T φ H σ env) : EnvR T φ' H' σ env :=
  ⟨E.len, fun i d hd => let ⟨v, h1, h2⟩ := E.get i d hd; ⟨v, h1, Rep.alt A d v h2⟩⟩
end

/-! ### what is walked -/
/-- what an iterator gives, as long as the walked objects stand -/
def WalkJ (T : Rz) (ds xs : List D) (φ0 : Fi) (H0 : Hp) (st0 : Store) (J : It) : Prop :=
  ∀ φ H st, Rel T φ H st → Ext ⟨φ0.ref, φ.hid⟩ H0 φ H → (∀ a ∈ φ.hid, a ∈ φ0.hid ∨ H0 a = none) → Still (refsOf ds) st0 st →
    J.stop xs.length H ∧ ∀ i d, xs[i]? = some d → J.go i H ∧ ∀ x H', J.yld i H x H' → Rel T φ H' st ∧ Ext φ H φ H' ∧ Rep T.K φ H' d x
section
variable {T : Rz} {φ0 φ : Fi} {H0 H : Hp} {st0 st : Store} {d : D} {v : V} {xs ds : List D}
theorem still_lsq (h : Still (refsOf ds) st0 st) (hd : d ∈ ds) (e : lsqD st0 d = some xs) : lsqD st d = some xs := by
  have key : ∀ k, d = .ref k → st[k]? = st0[k]? := fun k e => by
    subst e
    refine h k ?_
    clear h e
    induction ds with
    | nil => cases hd
    | cons y ys ih =>
      rcases List.mem_cons.mp hd with e | hd
      · subst e; exact List.mem_cons_self
      · have := ih hd
        cases y <;> first | exact this | exact List.mem_cons_of_mem _ this
  cases d with
  | ref k =>
    simp only [lsqD] at e ⊢
    rw [key k rfl]
    exact e
  | _ => exact e
theorem rep_walk (h : Rep T.K φ0 H0 d v) (r0 : Rel T φ0 H0 st0) (r : Rel T φ H st) (e : Ext ⟨φ0.ref, φ.hid⟩ H0 φ H) (hh : ∀ a ∈ φ.hid, a ∈ φ0.hid ∨ H0 a = none) : Rep T.K φ H d v :=
  Rep.ext e r0.nt d v (Rep.hide (φ := φ0) (φ' := ⟨φ0.ref, φ.hid⟩) ⟨rfl, hh⟩ d v h)
theorem walk_list {a : Addr} {d : D} (h0 : Rep T.K φ0 H0 d (.ref a)) (r0 : Rel T φ0 H0 st0) (e0 : lsqD st0 d = some xs) (hd : d ∈ ds) : WalkJ T ds xs φ0 H0 st0 (Itl T.K a) := by
  intro φ H st r e hh hs
  have e1 := still_lsq hs hd e0
  obtain ⟨p, vs, h1, h2, h3, h4⟩ := lsq_at r (rep_walk h0 r0 r e hh) e1
  cases h1
  refine ⟨⟨vs, h2, by rw [h4.length]; exact Nat.le_refl _⟩, fun i d hi => ?_⟩
  obtain ⟨x, hx, hr⟩ := h4.get hi
  refine ⟨⟨vs, x, h2, hx⟩, fun y H' ⟨e1, e2⟩ => ?_⟩
  subst e1
  have := e2 vs h2
  rw [hx] at this
  cases this
  exact ⟨r, .refl, hr⟩
theorem walk_tup {a : Addr} {xs : List D} (h0 : Rep T.K φ0 H0 (.tup xs) (.ref a)) (r0 : Rel T φ0 H0 st0) : WalkJ T ds xs φ0 H0 st0 (Itt T.K a) := by
  intro φ H st r e hh hs
  obtain ⟨p, vs, h1, h2, h3, h4⟩ := rep_walk h0 r0 r e hh
  cases h1
  refine ⟨⟨vs, h2, by rw [h4.length]; exact Nat.le_refl _⟩, fun i d hi => ?_⟩
  obtain ⟨x, hx, hr⟩ := h4.get hi
  refine ⟨⟨vs, x, h2, hx⟩, fun y H' ⟨e1, e2⟩ => ?_⟩
  subst e1
  have := e2 vs h2
  rw [hx] at this
  cases this
  exact ⟨r, .refl, hr⟩
theorem walk_str {z : Str} : WalkJ T ds (z.cps.toList.map fun c => .str ⟨#[c]⟩) φ0 H0 st0 (Its z) := by
  intro φ H st r e hh hs
  refine ⟨?_, fun i d hi => ?_⟩
  · show z.cps.size ≤ _
    rw [List.length_map, Array.length_toList]
    exact Nat.le_refl _
  · rw [List.getElem?_map] at hi
    cases q : z.cps.toList[i]? with
    | none => rw [q] at hi; cases hi
    | some c =>
      rw [q] at hi
      cases hi
      have q' : z.cps[i]? = some c := by rw [← Array.getElem?_toList]; exact q
      refine ⟨(Array.getElem?_eq_some_iff.mp q').1, fun y H' ⟨e1, c', e2, e3⟩ => ?_⟩
      rw [q'] at e2
      cases e2
      subst e1 e3
      exact ⟨r, .refl, rfl, by show 1 ≤ sizeLine; decide⟩
theorem rngL_get : ∀ (n : Nat) (lo : Int) (i : Nat) (d : D), (rngL lo n)[i]? = some d → i < n ∧ d = .int (lo + i)
  | 0, _, _, _, h => by simp [rngL] at h
  | n + 1, lo, 0, d, h => by
    simp [rngL] at h
    exact ⟨by omega, by rw [← h]; simp⟩
  | n + 1, lo, i + 1, d, h => by
    have h' : (rngL (lo + 1) n)[i]? = some d := by simpa [rngL] using h
    obtain ⟨h1, h2⟩ := rngL_get n (lo + 1) i d h'
    refine ⟨by omega, ?_⟩
    rw [h2]
    congr 1
    push_cast
    omega
theorem rngL_len : ∀ (n : Nat) (lo : Int), (rngL lo n).length = n
  | 0, _ => rfl
  | n + 1, lo => by simp [rngL, rngL_len n]
theorem walk_rng {lo : Int} {n : Nat} : WalkJ T ds (rngL lo n) φ0 H0 st0 (Itr lo n) := by
  intro φ H st r e hh hs
  refine ⟨by show n ≤ _; rw [rngL_len]; exact Nat.le_refl _, fun i d hi => ?_⟩
  obtain ⟨h1, h2⟩ := rngL_get n lo i d hi
  refine ⟨h1, fun y H' ⟨e1, e2⟩ => ?_⟩
  subst e1 e2 h2
  exact ⟨r, .refl, rfl⟩
theorem enumL_get : ∀ (xs : List D) (n i : Nat) (d : D), (enumL n xs)[i]? = some d → ∃ x, xs[i]? = some x ∧ d = .tup [.int ((n + i : Nat) : Int), x]
  | [], _, _, _, h => by simp [enumL] at h
  | x :: xs, n, 0, d, h => by
    simp [enumL] at h
    exact ⟨x, rfl, by rw [← h]; simp⟩
  | x :: xs, n, i + 1, d, h => by
    have h' : (enumL (n + 1) xs)[i]? = some d := by simpa [enumL] using h
    obtain ⟨y, h1, h2⟩ := enumL_get xs (n + 1) i d h'
    refine ⟨y, by simpa using h1, ?_⟩
    rw [h2, show n + 1 + i = n + (i + 1) by omega]
theorem enumL_len : ∀ (xs : List D) (n : Nat), (enumL n xs).length = xs.length
  | [], _ => rfl
  | x :: xs, n => by simp [enumL, enumL_len xs]
theorem walk_enum {a : Addr} {d : D} (h0 : Rep T.K φ0 H0 d (.ref a)) (r0 : Rel T φ0 H0 st0) (e0 : lsqD st0 d = some xs) (hd : d ∈ ds) : WalkJ T ds (enumL 0 xs) φ0 H0 st0 (Ite T.K a) := by
  intro φ H st r e hh hs
  have e1 := still_lsq hs hd e0
  obtain ⟨p, vs, h1, h2, h3, h4⟩ := lsq_at r (rep_walk h0 r0 r e hh) e1
  cases h1
  refine ⟨⟨vs, h2, by rw [enumL_len, h4.length]; exact Nat.le_refl _⟩, fun i d hi => ?_⟩
  obtain ⟨y, hy, rfl⟩ := enumL_get xs 0 i d hi
  obtain ⟨x, hx, hr⟩ := h4.get hy
  refine ⟨⟨vs, x, h2, hx⟩, fun z H' ⟨q, x', e1, e2, e3, e4⟩ => ?_⟩
  subst e1 e3
  have := e4 vs h2
  rw [hx] at this
  cases this
  have hz : 2 ≤ sizeLine := by decide
  exact new_tup r e2 ⟨_, _, rfl, by show V.int _ = V.int _; rw [Nat.zero_add], x, [], rfl, hr, rfl⟩ hz
theorem zipL_get : ∀ (xs ys : List D) (i : Nat) (d : D), (zipL xs ys)[i]? = some d → ∃ x y, xs[i]? = some x ∧ ys[i]? = some y ∧ d = .tup [x, y]
  | [], _, _, _, h => by simp [zipL] at h
  | _ :: _, [], _, _, h => by simp [zipL] at h
  | x :: xs, y :: ys, 0, d, h => by
    simp [zipL] at h
    exact ⟨x, y, rfl, rfl, h.symm⟩
  | x :: xs, y :: ys, i + 1, d, h => by
    have h' : (zipL xs ys)[i]? = some d := by simpa [zipL] using h
    obtain ⟨a, b, h1, h2, h3⟩ := zipL_get xs ys i d h'
    exact ⟨a, b, by simpa using h1, by simpa using h2, h3⟩
theorem zipL_len : ∀ (xs ys : List D), xs.length ≤ (zipL xs ys).length ∨ ys.length ≤ (zipL xs ys).length
  | [], _ => .inl (Nat.zero_le _)
  | _ :: _, [] => .inr (Nat.zero_le _)
  | x :: xs, y :: ys => by
    rcases zipL_len xs ys with h | h
    · exact .inl (by simpa [zipL] using h)
    · exact .inr (by simpa [zipL] using h)
theorem walk_zip {a b : Addr} {c d : D} {ys : List D} (h0 : Rep T.K φ0 H0 c (.ref a)) (h0' : Rep T.K φ0 H0 d (.ref b)) (r0 : Rel T φ0 H0 st0) (e0 : lsqD st0 c = some xs) (e0' : lsqD st0 d = some ys) (hc : c ∈ ds) (hd : d ∈ ds) :
    WalkJ T ds (zipL xs ys) φ0 H0 st0 (Itz T.K a b) := by
  intro φ H st r e hh hs
  obtain ⟨p, vs, h1, h2, h3, h4⟩ := lsq_at r (rep_walk h0 r0 r e hh) (still_lsq hs hc e0)
  obtain ⟨p', ws, h1', h2', h3', h4'⟩ := lsq_at r (rep_walk h0' r0 r e hh) (still_lsq hs hd e0')
  cases h1; cases h1'
  refine ⟨⟨vs, ws, h2, h2', by rw [h4.length, h4'.length]; exact zipL_len xs ys⟩, fun i d hi => ?_⟩
  obtain ⟨y, y', hy, hy', rfl⟩ := zipL_get xs ys i d hi
  obtain ⟨x, hx, hr⟩ := h4.get hy
  obtain ⟨x', hx', hr'⟩ := h4'.get hy'
  refine ⟨⟨vs, ws, x, x', h2, h2', hx, hx'⟩, fun z H' ⟨q, u, u', e1, e2, e3, e4, e5⟩ => ?_⟩
  subst e1 e3
  have e6 := e4 vs h2
  rw [hx] at e6
  cases e6
  have e7 := e5 ws h2'
  rw [hx'] at e7
  cases e7
  have hz : 2 ≤ sizeLine := by decide
  exact new_tup r e2 ⟨x, _, rfl, hr, x', [], rfl, hr', rfl⟩ hz
theorem walk_zipT {a b : Addr} {xs ys : List D} (h0 : Rep T.K φ0 H0 (.tup xs) (.ref a)) (h0' : Rep T.K φ0 H0 (.tup ys) (.ref b)) (r0 : Rel T φ0 H0 st0) : WalkJ T ds (zipL xs ys) φ0 H0 st0 (RZ.ItzT T.K a b) := by
  intro φ H st r e hh hs
  obtain ⟨p, vs, h1, h2, h3, h4⟩ := rep_walk h0 r0 r e hh
  obtain ⟨p', ws, h1', h2', h3', h4'⟩ := rep_walk h0' r0 r e hh
  cases h1; cases h1'
  refine ⟨⟨vs, ws, h2, h2', by rw [h4.length, h4'.length]; exact zipL_len xs ys⟩, fun i d hi => ?_⟩
  obtain ⟨y, y', hy, hy', rfl⟩ := zipL_get xs ys i d hi
  obtain ⟨x, hx, hr⟩ := h4.get hy
  obtain ⟨x', hx', hr'⟩ := h4'.get hy'
  refine ⟨⟨vs, ws, x, x', h2, h2', hx, hx'⟩, fun z H' ⟨q, u, u', e1, e2, e3, e4, e5⟩ => ?_⟩
  subst e1 e3
  have e6 := e4 vs h2
  rw [hx] at e6
  cases e6
  have e7 := e5 ws h2'
  rw [hx'] at e7
  cases e7
  have hz : 2 ≤ sizeLine := by decide
  exact new_tup r e2 ⟨x, _, rfl, hr, x', [], rfl, hr', rfl⟩ hz
theorem walk_zipM {a b : Addr} {xs ys : List D} (h0 : Rep T.K φ0 H0 (.tup xs) (.ref a)) {d : D} (h0' : Rep T.K φ0 H0 d (.ref b)) (r0 : Rel T φ0 H0 st0) (e0' : lsqD st0 d = some ys) (hd : d ∈ ds) : WalkJ T ds (zipL xs ys) φ0 H0 st0 (ItzM T.K a b) := by
  intro φ H st r e hh hs
  obtain ⟨p, vs, h1, h2, h3, h4⟩ := rep_walk h0 r0 r e hh
  obtain ⟨p', ws, h1', h2', h3', h4'⟩ := lsq_at r (rep_walk h0' r0 r e hh) (still_lsq hs hd e0')
  cases h1; cases h1'
  refine ⟨⟨vs, ws, h2, h2', by rw [h4.length, h4'.length]; exact zipL_len xs ys⟩, fun i d hi => ?_⟩
  obtain ⟨y, y', hy, hy', rfl⟩ := zipL_get xs ys i d hi
  obtain ⟨x, hx, hr⟩ := h4.get hy
  obtain ⟨x', hx', hr'⟩ := h4'.get hy'
  refine ⟨⟨vs, ws, x, x', h2, h2', hx, hx'⟩, fun z H' ⟨q, u, u', e1, e2, e3, e4, e5⟩ => ?_⟩
  subst e1 e3
  have e6 := e4 vs h2
  rw [hx] at e6
  cases e6
  have e7 := e5 ws h2'
  rw [hx'] at e7
  cases e7
  have hz : 2 ≤ sizeLine := by decide
  exact new_tup r e2 ⟨x, _, rfl, hr, x', [], rfl, hr', rfl⟩ hz
end
end Cip

set_option maxHeartbeats 4000000
/-! Cip16: targets; iterators. -/
namespace Cip
open PySem PySem.Spec PyProof.Rows L2

theorem wipe_get (σ : L2.St) : ∀ (vs : List Nat) (j : Nat), (wipe σ vs)[j]? = if j ∈ vs then (if j < σ.length then some none else none) else σ[j]?
  | [], j => by simp [wipe]
  | v :: vs, j => by
    unfold wipe
    by_cases e : v = j
    · subst e
      rw [if_pos List.mem_cons_self, List.getElem?_set]
      rw [if_pos rfl, wipe_length]
    · rw [List.getElem?_set_ne e, wipe_get σ vs j]
      have : (j ∈ v :: vs) ↔ (j ∈ vs) := by
        rw [List.mem_cons]
        exact ⟨fun h => h.elim (fun h => absurd h.symm e) id, .inr⟩
      by_cases h : j ∈ vs
      · rw [if_pos h, if_pos (this.mpr h)]
      · rw [if_neg h, if_neg (fun z => h (this.mp z))]
theorem wipe_set {σ : L2.St} {i : Nat} {x : Option V} {vs : List Nat} (h : i ∈ vs) : wipe (σ.set i x) vs = wipe σ vs := by
  apply List.ext_getElem?
  intro j
  rw [wipe_get, wipe_get, List.length_set]
  by_cases hj : j ∈ vs
  · rw [if_pos hj, if_pos hj]
  · rw [if_neg hj, if_neg hj, List.getElem?_set_ne (fun e : i = j => hj (e ▸ h))]
theorem wipeE_length (env : Env) : ∀ vs : List Nat, (wipeE env vs).length = env.length
  | [] => rfl
  | v :: vs => by unfold wipeE; rw [List.length_set, wipeE_length env vs]
theorem wipeE_get (σ : Env) : ∀ (vs : List Nat) (j : Nat), (wipeE σ vs)[j]? = if j ∈ vs then (if j < σ.length then some none else none) else σ[j]?
  | [], j => by simp [wipeE]
  | v :: vs, j => by
    unfold wipeE
    by_cases e : v = j
    · subst e
      rw [if_pos List.mem_cons_self, List.getElem?_set]
      rw [if_pos rfl, wipeE_length]
    · rw [List.getElem?_set_ne e, wipeE_get σ vs j]
      have : (j ∈ v :: vs) ↔ (j ∈ vs) := by
        rw [List.mem_cons]
        exact ⟨fun h => h.elim (fun h => absurd h.symm e) id, .inr⟩
      by_cases h : j ∈ vs
      · rw [if_pos h, if_pos (this.mpr h)]
      · rw [if_neg h, if_neg (fun z => h (this.mp z))]
section
variable {T : Rz} {φ : Fi} {H : Hp} {σ : L2.St} {env : Env}
theorem EnvR.set {i : Nat} {d : D} {v : V} (E : EnvR T φ H σ env) (h : Rep T.K φ H d v) : EnvR T φ H (σ.set i (some v)) (env.set i (some d)) := by
  refine ⟨by rw [List.length_set, List.length_set, E.len], fun j d' hj => ?_⟩
  by_cases e : i = j
  · subst e
    have hl : i < env.length := by
      have := (List.getElem?_eq_some_iff.mp hj).1
      rwa [List.length_set] at this
    rw [List.getElem?_set_self hl] at hj
    cases hj
    exact ⟨v, List.getElem?_set_self (by rw [E.len]; exact hl), h⟩
  · rw [List.getElem?_set_ne e] at hj
    obtain ⟨w, h1, h2⟩ := E.get j d' hj
    exact ⟨w, by rw [List.getElem?_set_ne e]; exact h1, h2⟩
theorem EnvR.unset {i : Nat} (E : EnvR T φ H σ env) : EnvR T φ H (σ.set i none) (env.set i none) := by
  refine ⟨by rw [List.length_set, List.length_set, E.len], fun j d' hj => ?_⟩
  by_cases e : i = j
  · subst e
    by_cases hl : i < env.length
    · rw [List.getElem?_set_self hl] at hj; cases hj
    · rw [List.getElem?_eq_none (by rw [List.length_set]; omega)] at hj; cases hj
  · rw [List.getElem?_set_ne e] at hj
    obtain ⟨w, h1, h2⟩ := E.get j d' hj
    exact ⟨w, by rw [List.getElem?_set_ne e]; exact h1, h2⟩
theorem EnvR.wipe (E : EnvR T φ H σ env) (vs : List Nat) : EnvR T φ H (L2.wipe σ vs) (wipeE env vs) := by
  refine ⟨by rw [wipe_length, wipeE_length, E.len], fun j d' hj => ?_⟩
  rw [wipeE_get] at hj
  by_cases h : j ∈ vs
  · rw [if_pos h] at hj
    by_cases h' : j < env.length
    · rw [if_pos h'] at hj; cases hj
    · rw [if_neg h'] at hj; cases hj
  · rw [if_neg h] at hj
    obtain ⟨w, h1, h2⟩ := E.get j d' hj
    exact ⟨w, by rw [wipe_get, if_neg h]; exact h1, h2⟩
end
/-- the reading of a target -/
def gT (T : Rz) (t : Tg) : TG := fun v σ H Q => ∃ φ env st d env', Rel T φ H st ∧ EnvR T φ H σ env ∧ Rep T.K φ H d v ∧ asgT st t d env = some env' ∧
  ∀ σ', EnvR T φ H σ' env' → (∀ vs, (∀ i ∈ t.vars, i ∈ vs) → wipe σ' vs = wipe σ vs) → Q σ' H
def gTs (T : Rz) (ts : List Tg) : TGs := fun vs σ H Q => ∃ φ env st ds env', Rel T φ H st ∧ EnvR T φ H σ env ∧ Reps T.K φ H ds vs ∧ ds.length = ts.length ∧ asgTs st ts ds env = some env' ∧
  ∀ σ', EnvR T φ H σ' env' → (∀ vs, (∀ i ∈ Tg.varss ts, i ∈ vs) → wipe σ' vs = wipe σ vs) → Q σ' H
theorem assignEach_head {e : Expr} {es : List Expr} {env : PySem.Env} (h : headOk e = true) : assignEach (e :: es) env = (false, assign e env) :: assignEach es env := by
  cases e <;> first | rfl | cases h
theorem assignEach_len {env : PySem.Env} : ∀ {es : List Expr}, noStars es = true → (assignEach es env).length = es.length ∧ (assignEach es env).findIdx? (·.1) = none
  | [], _ => ⟨rfl, rfl⟩
  | e :: es, h => by
    have h' : (headOk e && noStars es) = true := h
    rw [Bool.and_eq_true] at h'
    rw [assignEach_head h'.1]
    obtain ⟨h1, h2⟩ := assignEach_len (env := env) h'.2
    exact ⟨by simp [h1], by simp [List.findIdx?_cons, h2]⟩
theorem pg_imp {X : Cx} {x : Expr} {t u : TG} (h : PG X x t) (hi : ∀ v σ H Q, u v σ H Q → t v σ H Q) : PG X x u := ⟨fun pins s σ H v w Q I r q => h.run pins s σ H v w Q I r (hi v σ H Q q)⟩
theorem pgs_imp {X : Cx} {x : List Expr} {t u : TGs} (h : PGs X x t) (hi : ∀ v σ H Q, u v σ H Q → t v σ H Q) : PGs X x u := ⟨fun pins s σ H v w Q I r q => h.run pins s σ H v w Q I r (hi v σ H Q q)⟩
theorem pg_or {X : Cx} {x : Expr} {t u : TG} (h : PG X x t) (h' : PG X x u) : PG X x (fun v σ H Q => t v σ H Q ∨ u v σ H Q) := ⟨fun pins s σ H v w Q I r q => q.elim (h.run pins s σ H v w Q I r) (h'.run pins s σ H v w Q I r)⟩
theorem loc_of {X : Cx} {x : Str} (h : ((kindB X.env.scope x .local) || (kindB X.env.scope x .cell && X.fn x)) = true) : Loc X.env.scope x ∧ (X.fn x = true ∨ X.env.scope.names.lookup x = some .local) := by
  rw [Bool.or_eq_true] at h
  rcases h with h | h
  · exact ⟨.inl (kindB_ok h), .inr (kindB_ok h)⟩
  · rw [Bool.and_eq_true] at h
    exact ⟨.inr (kindB_ok h.1), .inl h.2⟩
mutual
theorem pg_tg {X : Cx} {t : Nm} (hc : X.calm = true) (hN : X.N.Nodup) : ∀ (g : Tg) (e : Expr), chkT X.N X.env.scope X.fn g e = true → PG X e (gT (rz X t) g)
  | .nm i, e, h => by
    unfold chkT at h
    split at h
    · rename_i j x pos he
      cases he
      rw [Bool.and_eq_true] at h
      obtain ⟨h1, h2⟩ := loc_of h.2
      refine pg_imp (pg_name hN (of_decide_eq_true h.1) h1 h2) fun v σ H Q ⟨φ, env, st, d, env', r, E, hd, ha, q⟩ => ?_
      cases ha
      exact q _ (E.set hd) fun vs hv => wipe_set (hv _ (by simp [Tg.vars]))
    · rename_i he; cases he
    · cases h
  | .tup ts, e, h => by
    unfold chkT at h
    split at h
    · rename_i he; cases he
    · rename_i ts' es kk pos he
      cases he
      rw [Bool.and_eq_true] at h
      obtain ⟨h1, h2⟩ := assignEach_len (env := X.env) h.1
      obtain ⟨ih, hl⟩ := pgs_tg hc hN ts es h.1 h.2
      refine pg_imp (pg_or (pg_tup hc ih h1 h2) (pg_lst hc ih h1 h2)) fun v σ H Q ⟨φ, env, st, d, env', r, E, hd, ha, q⟩ => ?_
      unfold asgT at ha
      split at ha
      · rename_i ds
        split at ha
        · rename_i hlen
          obtain ⟨a, vs, rfl, q1, q2, q3⟩ := hd
          exact .inl ⟨a, vs, rfl, q1, by rw [q3.length, hlen, hl], φ, env, st, ds, env', r, E, q3, hlen, ha, q⟩
        · cases ha
      · rename_i ds
        split at ha
        · rename_i hlen
          obtain ⟨a, vs, rfl, q1, q2, q3, q4⟩ := hd
          exact .inr ⟨a, vs, rfl, .inl (.inl q1), by rw [q4.length, hlen, hl], φ, env, st, ds, env', r, E, q4, hlen, ha, q⟩
        · cases ha
      · cases ha
    · cases h
theorem pgs_tg {X : Cx} {t : Nm} (hc : X.calm = true) (hN : X.N.Nodup) : ∀ (gs : List Tg) (es : List Expr), noStars es = true → chkTs X.N X.env.scope X.fn gs es = true → PGs X es (gTs (rz X t) gs) ∧ gs.length = es.length
  | [], es, hs, h => by
    cases es with
    | nil =>
      refine ⟨pgs_imp pgs_nil fun v σ H Q ⟨φ, env, st, ds, env', r, E, hd, hl, ha, q⟩ => ?_, rfl⟩
      have e : ds = [] := List.length_eq_zero_iff.mp hl
      subst e
      cases ha
      exact ⟨hd, q σ E fun _ _ => rfl⟩
    | cons _ _ => cases h
  | g :: gs, es, hs, h => by
    cases es with
    | nil => cases h
    | cons e es =>
      have hs' : (headOk e && noStars es) = true := hs
      rw [Bool.and_eq_true] at hs'
      unfold chkTs at h
      rw [Bool.and_eq_true] at h
      obtain ⟨ih, hl⟩ := pgs_tg hc hN gs es hs'.2 h.2
      have h1 := pg_tg (t := t) hc hN g e h.1
      refine ⟨pgs_imp (pgs_cons h1 ih (by rw [assignEach_head hs'.1]; rfl)) fun v σ H Q ⟨φ, env, st, ds, env', r, E, hd, hl, ha, q⟩ => ?_, by simp [hl]⟩
      cases ds with
      | nil => cases hl
      | cons d ds =>
        obtain ⟨x, xs, e1, e2, e3⟩ := hd
        subst e1
        unfold asgTs at ha
        split at ha
        · rename_i env1 he1
          refine ⟨x, xs, rfl, φ, env, st, d, env1, r, E, e2, he1, fun σ1 E1 w1 => ⟨φ, env1, st, ds, env', r, E1, e3, by simpa using hl, ha, fun σ2 E2 w2 => q σ2 E2 fun vs hv => ?_⟩⟩
          rw [w2 vs fun i hi => hv i (by simp [Tg.varss, hi]), w1 vs fun i hi => hv i (by simp [Tg.varss, hi])]
        · cases ha
end
end Cip

set_option maxHeartbeats 4000000
/-! Cip17: iterators. -/
namespace Cip
open PySem PySem.Spec PyProof.Rows L2

section
variable {Γ : Tx} {cf : CF} {P : Pn} {t : Nm} {k : Nat}
/-- the walked things and what walking them gives -/
noncomputable def wkR (Γ : Tx) (cf : CF) (ik : IK) (its : List E) (env : Env) (st : Store) : R (List D × List D) := (evs Γ cf its env st).bind fun ds st => match walkD st ik ds with
  | some xs => .ok (ds, xs) st
  | none => .stk
def repJ (T : Rz) : RepT (List D × List D) It := fun _ φ' H' st p J => WalkJ T p.1 p.2 φ' H' st J
theorem shJ {T : Rz} : Shift T (repJ T) := fun _ _ _ _ _ _ _ _ _ _ _ _ h => h
def tWk (Γ : Tx) (cf : CF) (T : Rz) (W : WX) (ik : IK) (its : List E) : TI := fun σ H R => ∃ φ env st, Rel T φ H st ∧ EnvR T φ H σ env ∧ OutG T (repJ T) W φ H σ (wkR Γ cf ik its env st) R
theorem pi_imp {X : Cx} {tg x : Expr} {t u : TI} (h : PI X tg x t) (hi : ∀ σ H R, u σ H R → t σ H R) : PI X tg x u := ⟨fun pins s σ H R I q => h.run pins s σ H R I (hi σ H R q)⟩
/-- a list, a tuple, a text, walked -/
def iAny (K : PySem.W.Frag) (tl : TE) : TI := fun σ H R => tl σ H fun x H1 => (∃ a xs, x = .ref a ∧ SqL K H1 a xs ∧ R (Itl K a) H1) ∨ (∃ a xs, x = .ref a ∧ SqT K H1 a xs ∧ R (Itt K a) H1) ∨ ∃ z, x = .str z ∧ R (Its z) H1
theorem pi_any {X : Cx} {tg l : Expr} {tl : TE} (hl : PE X l tl) : PI X tg l (iAny X.K tl) := by
  refine ⟨fun pins s σ H R I h => ?_⟩
  refine thn (hl.run pins s σ H _ I h) fun v s1 ⟨x, H1, I1, r1, q1⟩ => ?_
  rcases q1 with ⟨a, xs, rfl, hq, q⟩ | ⟨a, xs, rfl, hq, q⟩ | ⟨z, rfl, q⟩
  · cases r1
    obtain ⟨its, rv, p, hz⟩ := I1.list hq
    exact wpAny_pyIter_list p.isList (pi_one (tk := s1.toks) I1 _ (turn_list a _) ⟨_, Heap.get?_push_size _ rfl, rfl, rfl⟩ q)
  · cases r1
    obtain ⟨its, rv, p, hz⟩ := I1.tuple hq
    exact wpAny_pyIter_tuple (show s1.heap.IsTuple a its.toArray from p) (pi_one (tk := s1.toks) I1 _ (turn_tuple a _) ⟨_, Heap.get?_push_size _ rfl, rfl, rfl⟩ q)
  · obtain ⟨t, rfl⟩ := r1
    cases ha : z.cps.all (· < 128)
    · exact wpAny_pyIter_wide ha (pi_one (tk := s1.toks) I1 _ (turn_str _ z t "str_iterator" (.inr rfl)) ⟨_, Heap.get?_push_size _ rfl, rfl, rfl⟩ q)
    · exact wpAny_pyIter_ascii ha (pi_one (tk := s1.toks) I1 _ (turn_str _ z t "str_ascii_iterator" (.inl rfl)) ⟨_, Heap.get?_push_size _ rfl, rfl, rfl⟩ q)
theorem evs_one {α : Type} {a : E} {env : Env} {st : Store} {f : List D → Store → R α} : (evs Γ cf [a] env st).bind f = (ev Γ cf a env st).bind fun d st => f [d] st := by
  simp only [evs]
  cases ev Γ cf a env st <;> rfl
theorem kCall_ok {sc : Scope} {n : Str} {as : CkS} {x : Expr} (h : kCall sc n as x = true) : ∃ p xs pos, x = .Call (.Name n p) xs [] pos ∧ glB sc n = true ∧ as xs = true := by
  unfold kCall at h
  split at h
  · rename_i y p xs pos
    rw [Bool.and_eq_true, Bool.and_eq_true] at h
    obtain rfl := of_decide_eq_true h.1.1
    exact ⟨p, xs, pos, rfl, h.1.2, h.2⟩
  · cases h
theorem lsq_val {T : Rz} {φ : Fi} {H : Hp} {st : Store} {d : D} {v : V} {xs : List D} (r : Rel T φ H st) (h : Rep T.K φ H d v) (e : lsqD st d = some xs) : ∃ a vs, v = .ref a ∧ SqL T.K H a vs := let ⟨a, vs, h1, h2, _⟩ := lsq_at r h e; ⟨a, vs, h1, h2⟩
theorem snd_it {ik : IK} {its : List E} {tup : Bool} (hs : Snds Γ cf P t k its) {X : Cx} {W : WX} {tg x : Expr} (G : Good Γ cf P t k X W) (htg : tup = true → ∃ es kk p, tg = .Tuple es kk p)
    (h : kIt X.env.scope ik tup its.length (chks P X.N its X.env.scope) x = true) : PI X tg x (tWk Γ cf (rz X t) W ik its) ∧ headOk x = true := by
  cases ik with
  | val =>
    have h' : (chks P X.N its X.env.scope [x] && its.length == 1) = true := h
    rw [Bool.and_eq_true] at h'
    match its, h'.2, h'.1 with
    | [a], _, h1 =>
      obtain ⟨y, ys, e, h2, _⟩ := chks_cons h1
      cases e
      obtain ⟨ha, ha2⟩ := hs a (by simp) X W x G h2
      refine ⟨pi_imp (pi_any ha) fun σ H R ⟨φ, env, st, r, E0, o⟩ => ?_, ha2⟩
      unfold wkR at o
      rw [evs_one] at o
      refine tI_then r E0 shJ o fun v H1 φ1 st1 d r1 e1 E1 p1 o1 => ?_
      have hd := p1.1
      have seq : ∀ xs, lsqD st1 d = some xs → walkD st1 .val [d] = some xs → (∃ a xs, v = .ref a ∧ SqL X.K H1 a xs ∧ R (Itl X.K a) H1) := fun xs e2 e3 => by
        rw [e3] at o1
        obtain ⟨a, vs, rfl, h4⟩ := lsq_val r1 hd e2
        exact ⟨a, vs, rfl, h4, o1 φ1 H1 _ r1 .refl (walk_list hd r1 e2 (by simp))⟩
      cases d with
      | str z =>
        cases hd.1
        exact .inr (.inr ⟨z, rfl, o1 φ1 H1 _ r1 .refl walk_str⟩)
      | tup xs =>
        obtain ⟨a, vs, rfl, h4, h5⟩ := id hd
        exact .inr (.inl ⟨a, vs, rfl, h4, o1 φ1 H1 _ r1 .refl (walk_tup hd r1)⟩)
      | lst xs => exact .inl (seq xs rfl rfl)
      | scr xs => exact .inl (seq xs rfl rfl)
      | ref j =>
        cases q : st1[j]? with
        | none => simp only [walkD, seqD, q] at o1; exact o1.elim
        | some m =>
          cases m with
          | lst xs => exact .inl (seq xs (by simp only [lsqD, q]) (by simp only [walkD, seqD, q]))
          | _ => simp only [walkD, seqD, q] at o1; exact o1.elim
      | _ => exact o1.elim
  | enum =>
    have h' : (kCall X.env.scope "enumerate" (chks P X.N its X.env.scope) x && tup && its.length == 1) = true := h
    rw [Bool.and_eq_true, Bool.and_eq_true] at h'
    obtain ⟨p, xs, pos, rfl, h1, h2⟩ := kCall_ok h'.1.1
    obtain ⟨es, kk, tp, rfl⟩ := htg h'.1.2
    match its, h'.2, h2, hs with
    | [a], _, h2, hs =>
      obtain ⟨hp, hns⟩ := snd_args [a] hs X W xs G h2
      obtain ⟨y, ys, rfl, _, h4⟩ := chks_cons h2
      obtain rfl := chks_nil h4
      have hy : headOk y = true := (Bool.and_eq_true_iff.mp (show (headOk y && noStars []) = true from hns)).1
      refine ⟨pi_imp (pi_enum (G.glob h1) (G.top.blt _ (by decide)) hp (head_star hy)) fun σ H R ⟨φ, env, st, r, E0, o⟩ => ?_, rfl⟩
      unfold wkR at o
      refine tIs_then r E0 shJ o fun v H1 φ1 st1 ds r1 e1 E1 p1 o1 => ?_
      match ds, p1, o1 with
      | [d], p1, o1 =>
        obtain ⟨w, rfl, hd⟩ := reps1 (T := rz X t) p1
        cases q : lsqD st1 d with
        | none => simp only [walkD, q] at o1; exact o1.elim
        | some zs =>
          simp only [walkD, q] at o1
          obtain ⟨a, vs, rfl, h5⟩ := lsq_val r1 hd q
          exact ⟨a, vs, rfl, h5, o1 φ1 H1 _ r1 .refl (walk_enum hd r1 q (by simp))⟩
      | [], _, o1 => exact o1.elim
      | d :: _ :: _, _, o1 => cases d <;> exact o1.elim
  | zip2 =>
    have h' : (kCall X.env.scope "zip" (chks P X.N its X.env.scope) x && tup && its.length == 2) = true := h
    rw [Bool.and_eq_true, Bool.and_eq_true] at h'
    obtain ⟨p, xs, pos, rfl, h1, h2⟩ := kCall_ok h'.1.1
    obtain ⟨es, kk, tp, rfl⟩ := htg h'.1.2
    match its, h'.2, h2, hs with
    | [a, b], _, h2, hs =>
      obtain ⟨hp, hns⟩ := snd_args [a, b] hs X W xs G h2
      obtain ⟨y, ys, rfl, _, h4⟩ := chks_cons h2
      obtain ⟨z, zs, rfl, _, h4⟩ := chks_cons h4
      obtain rfl := chks_nil h4
      have hyz := Bool.and_eq_true_iff.mp (show (headOk y && noStars [z]) = true from hns)
      refine ⟨pi_imp (pi_zipB (G.glob h1) (G.top.blt _ (by decide)) hp (head_star hyz.1) (noStars_any hyz.2)) fun σ H R ⟨φ, env, st, r, E0, o⟩ => ?_, rfl⟩
      unfold wkR at o
      refine tIs_then r E0 shJ o fun v H1 φ1 st1 ds r1 e1 E1 p1 o1 => ?_
      match ds, p1, o1 with
      | [d, d'], p1, o1 =>
        obtain ⟨w, w', rfl, hd, hd'⟩ := reps2 (T := rz X t) p1
        have seq : ∀ us us', lsqD st1 d = some us → lsqD st1 d' = some us' → walkD st1 .zip2 [d, d'] = some (zipL us us') → ∃ a b xs ys, [w, w'] = [.ref a, .ref b] ∧ ((SqL X.K H1 a xs ∧ SqL X.K H1 b ys ∧ R (Itz X.K a b) H1) ∨ (SqT X.K H1 a xs ∧ SqT X.K H1 b ys ∧ R (RZ.ItzT X.K a b) H1) ∨ (SqT X.K H1 a xs ∧ SqL X.K H1 b ys ∧ R (ItzM X.K a b) H1)) := fun us us' e2 e2' e3 => by
          rw [e3] at o1
          obtain ⟨a, vs, rfl, h5⟩ := lsq_val r1 hd e2
          obtain ⟨b, ws, rfl, h5'⟩ := lsq_val r1 hd' e2'
          exact ⟨a, b, vs, ws, rfl, .inl ⟨h5, h5', o1 φ1 H1 _ r1 .refl (walk_zip hd hd' r1 e2 e2' (by simp) (by simp))⟩⟩
        have gen : (∀ us, ¬ d = .tup us) → ∃ a b xs ys, [w, w'] = [.ref a, .ref b] ∧ ((SqL X.K H1 a xs ∧ SqL X.K H1 b ys ∧ R (Itz X.K a b) H1) ∨ (SqT X.K H1 a xs ∧ SqT X.K H1 b ys ∧ R (RZ.ItzT X.K a b) H1) ∨ (SqT X.K H1 a xs ∧ SqL X.K H1 b ys ∧ R (ItzM X.K a b) H1)) := fun hn => by
          have e4 : walkD st1 .zip2 [d, d'] = (lsqD st1 d).bind fun xs => (lsqD st1 d').map fun ys => zipL xs ys := by
            cases d <;> first | rfl | exact absurd rfl (hn _)
          cases q : lsqD st1 d with
          | none => simp only [e4, q, Option.bind_none] at o1; exact o1.elim
          | some us =>
            cases q' : lsqD st1 d' with
            | none => simp only [e4, q, q', Option.bind_some, Option.map_none] at o1; exact o1.elim
            | some us' => exact seq us us' q q' (by rw [e4, q, q']; rfl)
        by_cases ht : ∃ us, d = .tup us
        · obtain ⟨us, rfl⟩ := ht
          obtain ⟨a, vs, rfl, h5, _⟩ := id hd
          by_cases ht' : ∃ us', d' = .tup us'
          · obtain ⟨us', rfl⟩ := ht'
            obtain ⟨b, ws, rfl, h5', _⟩ := id hd'
            exact ⟨a, b, vs, ws, rfl, .inr (.inl ⟨h5, h5', o1 φ1 H1 _ r1 .refl (walk_zipT hd hd' r1)⟩)⟩
          · have e4 : walkD st1 .zip2 [.tup us, d'] = (lsqD st1 d').map fun ys => zipL us ys := by
              cases d' <;> first | rfl | exact absurd ⟨_, rfl⟩ ht'
            cases q' : lsqD st1 d' with
            | none => simp only [e4, q', Option.map_none] at o1; exact o1.elim
            | some us' =>
              simp only [e4, q', Option.map_some] at o1
              obtain ⟨b, ws, rfl, h5'⟩ := lsq_val r1 hd' q'
              exact ⟨a, b, vs, ws, rfl, .inr (.inr ⟨h5, h5', o1 φ1 H1 _ r1 .refl (walk_zipM hd hd' r1 q' (by simp))⟩)⟩
        · exact gen fun us e => ht ⟨us, e⟩
      | [], _, o1 => exact o1.elim
      | [d], _, o1 => cases d <;> exact o1.elim
      | d :: d' :: _ :: _, _, o1 => cases d <;> first | exact o1.elim | (cases d' <;> exact o1.elim)
  | rng1 =>
    have h' : (kCall X.env.scope "range" (chks P X.N its X.env.scope) x && its.length == 1) = true := h
    rw [Bool.and_eq_true] at h'
    obtain ⟨p, xs, pos, rfl, h1, h2⟩ := kCall_ok h'.1
    match its, h'.2, h2, hs with
    | [a], _, h2, hs =>
      obtain ⟨hp, hns⟩ := snd_args [a] hs X W xs G h2
      obtain ⟨y, ys, rfl, _, h4⟩ := chks_cons h2
      obtain rfl := chks_nil h4
      have hy : headOk y = true := (Bool.and_eq_true_iff.mp (show (headOk y && noStars []) = true from hns)).1
      refine ⟨pi_imp (pi_range1 (G.glob h1) (G.top.blt _ (by decide)) hp (head_star hy)) fun σ H R ⟨φ, env, st, r, E0, o⟩ => ?_, rfl⟩
      unfold wkR at o
      refine tIs_then r E0 shJ o fun v H1 φ1 st1 ds r1 e1 E1 p1 o1 => ?_
      match ds, p1, o1 with
      | [d], p1, o1 =>
        obtain ⟨w, rfl, hd⟩ := reps1 (T := rz X t) p1
        cases d with
        | int n =>
          cases hd
          by_cases hz : -(2 ^ 62) ≤ n ∧ n < 2 ^ 62
          · simp only [walkD, if_pos hz] at o1
            exact ⟨n, rfl, hz.1, hz.2, o1 φ1 H1 _ r1 .refl walk_rng⟩
          · simp only [walkD, if_neg hz] at o1
            exact o1.elim
        | _ => exact o1.elim
      | [], _, o1 => exact o1.elim
      | d :: _ :: _, _, o1 => cases d <;> exact o1.elim
  | rng2 =>
    have h' : (kCall X.env.scope "range" (chks P X.N its X.env.scope) x && its.length == 2) = true := h
    rw [Bool.and_eq_true] at h'
    obtain ⟨p, xs, pos, rfl, h1, h2⟩ := kCall_ok h'.1
    match its, h'.2, h2, hs with
    | [a, b], _, h2, hs =>
      obtain ⟨hp, hns⟩ := snd_args [a, b] hs X W xs G h2
      obtain ⟨y, ys, rfl, _, h4⟩ := chks_cons h2
      obtain ⟨z, zs, rfl, _, h4⟩ := chks_cons h4
      obtain rfl := chks_nil h4
      have hyz := Bool.and_eq_true_iff.mp (show (headOk y && noStars [z]) = true from hns)
      have hz : headOk z = true := (Bool.and_eq_true_iff.mp (show (headOk z && noStars []) = true from hyz.2)).1
      refine ⟨pi_imp (pi_range2 (G.glob h1) (G.top.blt _ (by decide)) hp (by rw [head_star hyz.1, head_star hz]; rfl) (by rw [head_star hz]; rfl)) fun σ H R ⟨φ, env, st, r, E0, o⟩ => ?_, rfl⟩
      unfold wkR at o
      refine tIs_then r E0 shJ o fun v H1 φ1 st1 ds r1 e1 E1 p1 o1 => ?_
      match ds, p1, o1 with
      | [d, d'], p1, o1 =>
        obtain ⟨w, w', rfl, hd, hd'⟩ := reps2 (T := rz X t) p1
        cases d with
        | int n =>
          cases d' with
          | int m =>
            cases hd; cases hd'
            by_cases hz : -(2 ^ 62) ≤ n ∧ n < 2 ^ 62 ∧ -(2 ^ 62) ≤ m ∧ m < 2 ^ 62
            · simp only [walkD, if_pos hz] at o1
              exact ⟨n, m, rfl, hz, o1 φ1 H1 _ r1 .refl walk_rng⟩
            · simp only [walkD, if_neg hz] at o1
              exact o1.elim
          | _ => exact o1.elim
        | _ => cases d' <;> exact o1.elim
      | [], _, o1 => exact o1.elim
      | [d], _, o1 => cases d <;> exact o1.elim
      | d :: d' :: _ :: _, _, o1 => cases d <;> first | exact o1.elim | (cases d' <;> exact o1.elim)
  | zip3 => cases h
  | items => cases h
  | vals => cases h
end
end Cip

set_option maxHeartbeats 4000000
/-! Cip18: comprehensions. -/
namespace Cip
open PySem PySem.Spec PyProof.Rows L2

abbrev Wf : WX := fun _ _ _ _ => False
section
variable {Γ : Tx} {cf : CF} {P : Pn} {t : Nm} {k : Nat}
/-- a clause's tests -/
noncomputable def tstR (Γ : Tx) (cf : CF) (c : E) (env : Env) (st : Store) : R Bool := if c.nulB = true then .ok true st else testR (ev Γ cf c env st)
def tTn (Γ : Tx) (cf : CF) (T : Rz) (W : WX) (c : E) : TT := fun σ H Q => ∃ φ env st, Rel T φ H st ∧ EnvR T φ H σ env ∧ OutG T repB W φ H σ (tstR Γ cf c env st) Q
theorem pts_imp {X : Cx} {x : List Expr} {t u : TT} (h : PTs X x t) (hi : ∀ σ H Q, u σ H Q → t σ H Q) : PTs X x u := ⟨fun pins s σ H Q I q => h.run pins s σ H Q I (hi σ H Q q)⟩
theorem snd_ifs {c : E} (hc : SndT Γ cf P t k c) {X : Cx} {W : WX} {xs : List Expr} (G : Good Γ cf P t k X W) (h : kIfs c.nulB (chk P X.N c X.env.scope) xs = true) : PTs X xs (tTn Γ cf (rz X t) W c) := by
  unfold kIfs at h
  split at h
  · refine pts_imp pts_nil fun σ H Q ⟨φ, env, st, r, E, o⟩ => ?_
    unfold tstR at o
    rw [if_pos h] at o
    exact o φ H true r .refl rfl
  · rename_i y
    rw [Bool.and_eq_true] at h
    have hn : c.nulB = false := by simpa using h.1
    refine pts_imp (pts_one (hc X W y G h.2)) fun σ H Q ⟨φ, env, st, r, E, o⟩ => ⟨φ, env, st, r, E, ?_⟩
    unfold tstR at o
    rw [if_neg (by rw [hn]; simp)] at o
    exact o
  · cases h
theorem OutG.get {α β : Type} {T : Rz} {rep : RepT α β} {W : WX} {φ : Fi} {H : Hp} {σ : L2.St} {a : α} {st : Store} {r : R α} {Q : β → Hp → Prop} (e : r = .ok a st) (h : ∀ φ' H' v, Rel T φ' H' st → Ext φ H φ' H' → rep H φ' H' st a v → Q v H') : OutG T rep W φ H σ r Q := by
  subst e
  exact h
theorem R.bind_ok {α β : Type} {r : R α} {f : α → Store → R β} {b : β} {st : Store} (h : r.bind f = .ok b st) : ∃ a s, r = .ok a s ∧ f a s = .ok b st := by
  cases r with
  | ok a s => exact ⟨a, s, rfl, h⟩
  | ex _ _ _ => cases h
  | stk => cases h
theorem Ext.trans2 {T : Rz} {φ φ' φ'' : Fi} {H H' H'' : Hp} {st' : Store} (e : Ext φ H φ' H') (f : Ext φ' H' φ'' H'') (r' : Rel T φ' H' st') : Ext φ H φ'' H'' := by
  obtain ⟨ψ, hψ, nψ⟩ := e.more
  obtain ⟨χ, hχ, nχ⟩ := f.more
  refine ⟨⟨ψ ++ χ, by rw [hχ, hψ, List.append_assoc], fun a ha => ?_⟩, f.hid.trans e.hid, fun a o h n => f.keep a o (e.keep a o h n) (e.notin h n)⟩
  rcases List.mem_append.mp ha with ha | ha
  · exact nψ a ha
  · cases q : H a with
    | none => rfl
    | some o =>
      by_cases m : a ∈ φ.ref
      · obtain ⟨u, hu⟩ := r'.has (a := a) (by rw [hψ]; exact List.mem_append_left _ m)
        rw [nχ a ha] at hu; cases hu
      · have := e.keep a o q m
        rw [nχ a ha] at this; cases this
/-- the state behind i turns -/
structure LcW (T : Rz) (φ1 : Fi) (H1 : Hp) (D0 : Addr) (σ : L2.St) (env : Env) (own : List Nat) (f : D → Store → R (Option D)) (xs rs : List D) (stE : Store) (i m : Nat) (H : Hp) : Prop where
  ex : ∃ φ st acc accV rest, φ.hid = D0 :: φ1.hid ∧ Rel T φ H st ∧ Ext ⟨φ1.ref, D0 :: φ1.hid⟩ H1 φ H ∧ H D0 = some (.lst accV) ∧ Reps T.K φ H acc accV ∧ EnvR T φ H (wipe σ own) (wipeE env own) ∧
    lcL f (xs.drop i) st = .ok rest stE ∧ rs = acc ++ rest
  le : i ≤ xs.length
  ms : m = xs.length - i
theorem lc_turns {T : Rz} {W : WX} {tg : Tg} {c e : E} {own : List Nat} {φ1 : Fi} {H1 : Hp} {σ : L2.St} {env : Env} {st1 : Store} {ds xs : List D} {J : It} {Q : VK} {g : TG} {tt : TT} {te : TE}
    (hg : ∀ v σ H Q, gT T tg v σ H Q → g v σ H Q) (ht : ∀ σ H Q, tTn Γ cf T Wf c σ H Q → tt σ H Q) (he : ∀ σ H Q, tI Γ cf T Wf e σ H Q → te σ H Q) (hv : ∀ i ∈ tg.vars, i ∈ own)
    (r1 : Rel T φ1 H1 st1) (E1 : EnvR T φ1 H1 σ env) (hJ : WalkJ T ds xs φ1 H1 st1 J)
    (o : OutG T (repD T true) W φ1 H1 σ (lcEnd (refsOf ds) st1 (lcL (fun x st' => if still (refsOf ds) st1 st' = true then lcTurn (asgT st' tg x (wipeE env own)) (fun env' st' => if c.nulB = true then .ok true st' else testR (ev Γ cf c env' st')) (fun env' st' => ev Γ cf e env' st') st' else .stk) xs st1)) Q)
    {D0 : Addr} (hD : H1 D0 = none) : ∃ Wi : Nat → Nat → Hp → Prop, (∃ m, Wi 0 m (upd H1 D0 (.lst []))) ∧ ∀ i m H, Wi i m H →
      (J.stop i H ∧ Q (.ref D0) H) ∨ (J.go i H ∧ ∃ Nx : Hp → Prop, (∀ H', Nx H' → ∃ m', m' < m ∧ Wi (i + 1) m' H') ∧ ∀ x H', J.yld i H x H' → g x (wipe σ own) H' fun σ2 H2 => wipe σ2 own = wipe σ own ∧ tt σ2 H2 fun b H3 =>
        if b = true then te σ2 H3 fun y H4 => ∃ acc, H4 D0 = some (.lst acc) ∧ acc.length < sizeLine ∧ Nx (upd H4 D0 (.lst (acc ++ [y]))) else Nx H3) := by
  generalize hf : (fun x st' => if still (refsOf ds) st1 st' = true then lcTurn (asgT st' tg x (wipeE env own)) (fun env' st' => if c.nulB = true then .ok true st' else testR (ev Γ cf c env' st')) (fun env' st' => ev Γ cf e env' st') st' else .stk : D → Store → R (Option D)) = f at o
  cases q : lcL f xs st1 with
  | stk => rw [q] at o; exact o.elim
  | ex _ _ _ => rw [q] at o; exact o.elim
  | ok rs stE =>
    rw [q] at o
    unfold lcEnd at o
    simp only at o
    split at o
    · rename_i hz
      refine ⟨LcW T φ1 H1 D0 σ env own f xs rs stE, ⟨xs.length, ⟨⟨φ1.hide D0, st1, [], [], rs, rfl, r1.hide hD, ?_, upd_same, rfl, (E1.hide r1 hD).wipe own, by rw [List.drop_zero]; exact q, rfl⟩, Nat.zero_le _, by simp⟩⟩, fun i m H w => ?_⟩
      · exact ⟨⟨[], by simp [Fi.hide], by simp⟩, rfl, fun a u h _ => by rw [upd_ne (ne_of_none h hD)]; exact h⟩
      obtain ⟨⟨φ, st, acc, accV, rest, hh, r, ex, hl, hr, hE, hrun, hrs⟩, hle, hms⟩ := w
      have hin : D0 ∈ φ.hid := by rw [hh]; exact List.mem_cons_self
      have hhid : ∀ a ∈ φ.hid, a ∈ φ1.hid ∨ H1 a = none := fun a ha => by
        rw [hh] at ha
        rcases List.mem_cons.mp ha with e | ha
        · exact .inr (e ▸ hD)
        · exact .inl ha
      have ex' : Ext ⟨φ1.ref, φ.hid⟩ H1 φ H := by rw [hh]; exact ex
      by_cases hi : i = xs.length
      · -- the end
        subst hi
        rw [List.drop_length] at hrun
        have hrun' : R.ok [] st = R.ok rest stE := hrun
        cases hrun'
        rw [List.append_nil] at hrs
        subst hrs
        have hst : Still (refsOf ds) st1 stE := by
          exact still_ok.mp hz.1
        refine .inl ⟨(hJ φ H stE r ex' hhid hst).1, ?_⟩
        -- nothing is hidden any more
        have nt : NoTup H D0 := fun ys h => by
          rcases h with h | ⟨ob, h⟩ <;> rw [hl] at h <;> cases h
        have hD1 : D0 ∉ φ1.hid := fun m => by obtain ⟨_, xs, e⟩ := r1.hid D0 m; rw [hD] at e; cases e
        have A : Alt φ ⟨φ.ref, φ1.hid⟩ H H D0 := ⟨hin, nt, fun _ _ => rfl, rfl, fun a ha => by rw [hh]; exact List.mem_cons_of_mem _ ha⟩
        have rE : Rel T ⟨φ.ref, φ1.hid⟩ H stE := r.alt A fun a ha => (r.hid a (A.sub a ha)).2
        have eE : Ext φ1 H1 ⟨φ.ref, φ1.hid⟩ H := ⟨ex.more, rfl, ex.keep⟩
        have hl2 : rs.length ≤ sizeLine := hz.2
        refine o ⟨φ.ref, φ1.hid⟩ H (.ref D0) rE eE ⟨⟨D0, accV, rfl, hl, ⟨(r.hid D0 hin).1, hD1⟩, hl2, Reps.alt A _ _ hr⟩, fun _ _ => ?_⟩
        let Hb : Hp := fun b => if b = D0 then none else H b
        have hb : Hb D0 = none := if_pos rfl
        have hbn : ∀ a, a ≠ D0 → Hb a = H a := fun a ha => if_neg ha
        have eqH : H = upd Hb D0 (.lst accV) := by
          funext b
          by_cases e : b = D0
          · subst e; rw [upd_same]; exact hl
          · rw [upd_ne e, hbn b e]
        have B : Alt φ ⟨φ.ref, φ1.hid⟩ H Hb D0 := ⟨hin, nt, hbn, rfl, A.sub⟩
        refine ⟨D0, Hb, .lst accV, rfl, eqH, hb, hD, r.alt B fun a ha => ?_, accV, rfl, hl2, Reps.alt B _ _ hr⟩
        obtain ⟨_, ys, e⟩ := r.hid a (A.sub a ha)
        exact ⟨ys, by rw [hbn a (fun e => hD1 (e ▸ ha))]; exact e⟩
      · -- a turn
        have hlt : i < xs.length := Nat.lt_of_le_of_ne hle hi
        rw [List.drop_eq_getElem_cons hlt] at hrun
        obtain ⟨re, st2, q1, q2⟩ := R.bind_ok (show (f xs[i] st).bind _ = _ from hrun)
        obtain ⟨rs2, st3, q3, q4⟩ := R.bind_ok q2
        cases q4
        subst hf
        simp only at q1
        split at q1
        · rename_i hs
          have hst : Still (refsOf ds) st1 st := by
            exact still_ok.mp hs
          obtain ⟨_, hit⟩ := hJ φ H st r ex' hhid hst
          obtain ⟨hgo, hy⟩ := hit i xs[i] (List.getElem?_eq_getElem hlt)
          refine .inr ⟨hgo, LcW T φ1 H1 D0 σ env own _ xs rs stE (i + 1) (m - 1), fun H' w => ⟨m - 1, by omega, w⟩, fun x H' hx => ?_⟩
          obtain ⟨r2, e2, hx2⟩ := hy x H' hx
          unfold lcTurn at q1
          cases q5 : asgT st tg xs[i] (wipeE env own) with
          | none => rw [q5] at q1; cases q1
          | some env' =>
            rw [q5] at q1
            simp only at q1
            refine hg _ _ _ _ ⟨φ, wipeE env own, st, xs[i], env', r2, hE.ext r e2, hx2, q5, fun σ2 E2 w2 => ⟨?_, ?_⟩⟩
            · rw [w2 own hv]
              apply List.ext_getElem?
              intro j
              rw [wipe_get, wipe_get, wipe_length]
              by_cases hj : j ∈ own
              · rw [if_pos hj, if_pos hj]
              · rw [if_neg hj, if_neg hj]
            · obtain ⟨b, st4, q6, q7⟩ := R.bind_ok q1
              refine ht _ _ _ ⟨φ, env', st, r2, E2, OutG.get q6 fun φ3 H3 b3 r3 e3 hb3 => ?_⟩
              have hb3 : b = b3 := hb3
              subst hb3
              have l3 : H3 D0 = some (.lst accV) := e3.keep _ _ (e2.keep _ _ hl (r.hid D0 hin).1) (r.hid D0 hin).1
              have e13 : Ext φ H φ3 H3 := e2.trans r e3 r2
              cases b with
              | false =>
                rw [if_neg (by simp)] at q7 ⊢
                cases q7
                exact ⟨⟨φ3, st2, acc, accV, rs2, e13.hid.trans hh, r3, ex.trans2 e13 r, l3, r.reps e13 hr, hE.ext r e13, q3, hrs⟩, hlt, by omega⟩
              | true =>
                rw [if_pos rfl] at q7 ⊢
                obtain ⟨d, st5, q8, q9⟩ := R.bind_ok q7
                cases q9
                refine he _ _ _ ⟨φ3, env', st4, r3, E2.ext r2 e3, OutG.get q8 fun φ4 H4 y r4 e4 hy4 => ?_⟩
                have hin4 : D0 ∈ φ4.hid := by rw [e4.hid, e13.hid]; exact hin
                have l4 : H4 D0 = some (.lst accV) := e4.keep _ _ l3 (r3.hid D0 (by rw [e13.hid]; exact hin)).1
                have e14 : Ext φ H φ4 H4 := e13.trans r e4 r3
                have nt4 : NoTup H4 D0 := fun ys h => by
                  rcases h with h | ⟨ob, h⟩ <;> rw [l4] at h <;> cases h
                have A : Alt φ4 φ4 H4 (upd H4 D0 (.lst (accV ++ [y]))) D0 := ⟨hin4, nt4, fun a ha => upd_ne ha, rfl, fun a ha => ha⟩
                have lenr : rs.length = acc.length + (1 + rs2.length) := by
                  rw [hrs, List.length_append]
                  simp [keepL]
                  omega
                have hz2 := hz.2
                refine ⟨accV, l4, by rw [hr.length]; omega, ⟨φ4, st2, acc ++ [d], accV ++ [y], rs2, e14.hid.trans hh, r4.alt A fun a ha => ?_, ?_, upd_same, ?_, (hE.ext r e14).alt A, q3, by rw [hrs]; simp [keepL]⟩, hlt, by omega⟩
                · by_cases e : a = D0
                  · exact ⟨_, by rw [e]; exact upd_same⟩
                  · rw [upd_ne e]; exact (r4.hid a ha).2
                · have e5 := ex.trans2 e14 r
                  exact ⟨e5.more, e5.hid, fun a u h n => by rw [upd_ne (ne_of_none h hD)]; exact e5.keep a u h n⟩
                · exact (Reps.alt A _ _ (r.reps e14 hr)).append ⟨y, [], rfl, Rep.alt A _ _ hy4.1, rfl⟩
        · cases q1
    · exact o.elim
theorem Good.blk {X : Cx} {W : WX} (G : Good Γ cf P t k X W) {s : Shared} {H : Hp} {scope : Scope} {cenv : PySem.Env} {fp : List Addr} : Good Γ cf P t k (X.blk s H scope cenv fp) Wf :=
  ⟨G.calm, G.nd, G.grd, G.room, Takes.none, G.top, G.fns⟩
theorem chkT_tup {N : List Str} {sc : Scope} {fn : Str → Bool} {g : Tg} {x : Expr} (h : chkT N sc fn g x = true) (hg : g.isTup = true) : ∃ es kk p, x = .Tuple es kk p := by
  cases g with
  | nm i => cases hg
  | tup ts =>
    cases x with
    | Tuple es kk p => exact ⟨_, _, _, rfl⟩
    | _ => simp [chkT] at h
theorem own_map {N : List Str} (own : List Nat) : (own.map fun i => (N.getD i Str.empty, i)).map (·.2) = own := by
  induction own with
  | nil => rfl
  | cons i r ih => simp only [List.map_cons, ih]
theorem lc_bind {ds : List D} {ik : IK} {its : List E} {env : Env} {st : Store} (F : List D → List D → Store → R D) :
    ((evs Γ cf its env st).bind fun ds st => match walkD st ik ds with
    | some xs => F ds xs st
    | none => .stk) = (wkR Γ cf ik its env st).bind fun p st => F p.1 p.2 st := by
  unfold wkR
  cases evs Γ cf its env st with
  | stk => rfl
  | ex _ _ _ => rfl
  | ok ds st =>
    simp only [R.bind]
    cases walkD st ik ds <;> rfl
/-- a comprehension, as a value and as what a name is given on the same line -/
theorem lc_parts {own : List Nat} {g : Tg} {ik : IK} {its : List E} {c e : E} (hs : Snds Γ cf P t k its) (hc : SndT Γ cf P t k c) (he : Snd Γ cf P t k e) {X : Cx} {W : WX} {elt tgt iter : Expr} {ifs : List Expr} {scope : Scope} {pos : Pos} (G : Good Γ cf P t k X W)
    (h : chk P X.N (.lc own g ik its c e) X.env.scope (.ListComp elt [⟨tgt, iter, ifs, 0⟩] scope pos) = true) :
    ∃ te : TE, PE X (.ListComp elt [⟨tgt, iter, ifs, 0⟩] scope pos) te ∧ (∀ σ H Q, tI Γ cf (rz X t) W (.lc own g ik its c e) σ H Q → te σ H Q) ∧
      ∀ (i : Nat) (y : Str) (py spos : Pos), X.N[i]? = some y → X.env.scope.names.lookup y = some .local → swapsWith (.ListComp elt [⟨tgt, iter, ifs, 0⟩] scope pos) (some (.Name y py)) spos.line X.env = pure true →
        PS X (.Assign [.Name y py] (.ListComp elt [⟨tgt, iter, ifs, 0⟩] scope pos) spos) (tAsg te (gName i)) := by
  simp only [chk, kLc] at h
  simp only [Bool.and_eq_true] at h
  obtain ⟨⟨⟨⟨⟨h1, h2⟩, h3⟩, h4⟩, h5⟩, h6⟩ := h
  have hv : ∀ i ∈ g.vars, i ∈ own := fun i hi => by
    have := List.all_eq_true.mp h6 i hi
    simpa using this
  obtain ⟨hi, hi2⟩ := snd_it hs G (fun z => chkT_tup h3 z) h1
  have hg : ∀ (s : Shared) (H : Hp) (C : Addr) (cl : List (Str × Addr)) (fp : List Addr), PG (X.blk s H scope (compEnvC scope cl C X.env) fp) tgt (gT (rz X t) g) := fun s H C cl fp =>
    pg_tg (X := X.blk s H scope (compEnvC scope cl C X.env) fp) (t := t) G.calm G.nd g tgt h3
  have ht : ∀ (s : Shared) (H : Hp) (C : Addr) (cl : List (Str × Addr)) (fp : List Addr), PTs (X.blk s H scope (compEnvC scope cl C X.env) fp) ifs (tTn Γ cf (rz X t) Wf c) := fun s H C cl fp =>
    snd_ifs (X := X.blk s H scope (compEnvC scope cl C X.env) fp) hc G.blk h5
  have hE : ∀ (s : Shared) (H : Hp) (C : Addr) (cl : List (Str × Addr)) (fp : List Addr), PE (X.blk s H scope (compEnvC scope cl C X.env) fp) elt (tI Γ cf (rz X t) Wf e) := fun s H C cl fp =>
    (he (X.blk s H scope (compEnvC scope cl C X.env) fp) Wf elt G.blk h4).1
  refine ⟨_, pe_lc G.calm G.nd hi (blkOk_by h2) hg ht hE (fun x => head_set hi2 x), fun σ H Q ⟨φ, env, st, r, E0, o⟩ => ?_, fun i y py spos q1 q2 q3 => ps_setLc G.calm G.nd q1 q2 q3 hi (blkOk_by h2) hg ht hE (fun x => head_set hi2 x)⟩
  rw [own_map]
  simp only [ev] at o
  have o2 := (lc_bind (Γ := Γ) (cf := cf) (ds := []) (ik := ik) (its := its) (env := env) (st := st) (F := fun ds xs st => lcEnd (refsOf ds) st (lcL (fun x st' => if still (refsOf ds) st st' = true then lcTurn (asgT st' g x (wipeE env own)) (fun env' st' => if c.nulB = true then .ok true st' else testR (ev Γ cf c env' st')) (fun env' st' => ev Γ cf e env' st') st' else .stk) xs st))).symm ▸ o
  refine ⟨φ, env, st, r, E0, (OutG.bind (rep1 := repJ (rz X t)) r shD o2).imp fun J H1 ⟨φ1, st1, p, r1, e1, hJ, o1⟩ D0 hD => ?_⟩
  exact lc_turns (fun _ _ _ _ q => q) (fun _ _ _ q => q) (fun _ _ _ q => q) hv r1 (E0.ext r e1) hJ o1 hD
theorem snd_lc {own : List Nat} {g : Tg} {ik : IK} {its : List E} {c e : E} (hs : Snds Γ cf P t k its) (hc : SndT Γ cf P t k c) (he : Snd Γ cf P t k e) : Snd Γ cf P t k (.lc own g ik its c e) := by
  intro X W x G h
  have h0 := h
  simp only [chk, kLc] at h
  split at h
  · obtain ⟨te, h1, h2, _⟩ := lc_parts hs hc he G h0
    exact ⟨pe_imp h1 h2, rfl⟩
  · cases h
end
end Cip

set_option maxHeartbeats 4000000
/-! Cip18b: objects of own classes: fields, methods, new ones. -/
namespace Cip
open PySem PySem.Spec PyProof.Rows L2

/-! ### fields -/
section
variable {K : PySem.W.Frag} {φ : Fi} {H : Hp} {t : Nm}
theorem fld_at (inj : ∀ f g, t.fnm f = t.fnm g → f = g) : ∀ {fs : List (Nat × D)} {gs : List (Str × V)} {f : Nat} {d : D}, gs.map (·.1) = fs.map (fun p => t.fnm p.1) → Reps K φ H (fs.map (·.2)) (gs.map (·.2)) → fs.lookup f = some d →
    ∃ v, gs.lookup (t.fnm f) = some v ∧ Rep K φ H d v
  | [], _, _, _, _, _, h => by cases h
  | (g, x) :: fs, [], _, _, hk, _, _ => by simp at hk
  | (g, x) :: fs, (n, y) :: gs, f, d, hk, hr, h => by
    rw [List.map_cons, List.map_cons] at hk
    obtain ⟨hk1, hk2⟩ := List.cons.inj hk
    obtain ⟨v, r, e, h1, h2⟩ := hr
    rw [List.map_cons] at e
    obtain ⟨e1, e2⟩ := List.cons.inj e
    rw [List.lookup_cons] at h ⊢
    have hk1 : n = t.fnm g := hk1
    by_cases q : f = g
    · subst q
      rw [beq_self_eq_true] at h
      have h : x = d := Option.some.inj h
      subst h
      rw [hk1, beq_self_eq_true]
      exact ⟨y, rfl, by rw [show y = v from e1]; exact h1⟩
    · rw [beq_eq_false_iff_ne.mpr q] at h
      have q2 : (t.fnm f == n) = false := beq_eq_false_iff_ne.mpr fun z => q (inj _ _ (z.trans hk1))
      rw [q2]
      exact fld_at inj hk2 (by rw [e2]; exact h2) h
theorem fld_set (inj : ∀ f g, t.fnm f = t.fnm g → f = g) {f : Nat} {d : D} {v : V} (hd : Rep K φ H d v) : ∀ {fs : List (Nat × D)} {gs : List (Str × V)}, gs.map (·.1) = fs.map (fun p => t.fnm p.1) → Reps K φ H (fs.map (·.2)) (gs.map (·.2)) →
    (putF (t.fnm f) v gs).map (·.1) = (setF f d fs).map (fun p => t.fnm p.1) ∧ Reps K φ H ((setF f d fs).map (·.2)) ((putF (t.fnm f) v gs).map (·.2))
  | [], gs, hk, _ => by
    obtain rfl : gs = [] := by simpa using hk
    exact ⟨rfl, v, [], rfl, hd, rfl⟩
  | (g, x) :: fs, [], hk, _ => by simp at hk
  | (g, x) :: fs, (n, y) :: gs, hk, hr => by
    rw [List.map_cons, List.map_cons] at hk
    obtain ⟨hk1, hk2⟩ := List.cons.inj hk
    obtain ⟨w, r, e, h1, h2⟩ := hr
    rw [List.map_cons] at e
    obtain ⟨e1, e2⟩ := List.cons.inj e
    have hk1 : n = t.fnm g := hk1
    have e1 : y = w := e1
    subst e1 e2
    show (if n = t.fnm f then (n, v) :: gs else (n, y) :: putF (t.fnm f) v gs).map (·.1) = (if g = f then (g, d) :: fs else (g, x) :: setF f d fs).map _ ∧ Reps K φ H ((if g = f then (g, d) :: fs else (g, x) :: setF f d fs).map (·.2)) ((if n = t.fnm f then (n, v) :: gs else (n, y) :: putF (t.fnm f) v gs).map (·.2))
    by_cases q : g = f
    · rw [if_pos q, if_pos (by rw [hk1, q])]
      refine ⟨?_, v, _, rfl, hd, h2⟩
      rw [List.map_cons, List.map_cons, hk2]
      exact congrArg (· :: _) hk1
    · rw [if_neg q, if_neg (fun z => q (inj _ _ (hk1.symm.trans z)))]
      obtain ⟨i1, i2⟩ := fld_set inj hd hk2 h2
      refine ⟨?_, y, _, rfl, h1, i2⟩
      rw [List.map_cons, List.map_cons, i1]
      exact congrArg (· :: _) hk1
theorem fld_len {fs : List (Nat × D)} {gs : List (Str × V)} (hk : gs.map (·.1) = fs.map (fun p => t.fnm p.1)) : gs.length = fs.length := by
  have := congrArg List.length hk
  simpa using this
theorem mth_none {fs : List (Nat × D)} {gs : List (Str × V)} {m : Str} (hk : gs.map (·.1) = fs.map (fun p => t.fnm p.1)) (hm : ∀ g, t.fnm g ≠ m) : gs.lookup m = none := by
  have : ∀ p ∈ gs, p.1 ≠ m := fun p hp e => by
    have h1 : p.1 ∈ gs.map (·.1) := List.mem_map_of_mem hp
    rw [hk] at h1
    obtain ⟨q, _, h2⟩ := List.mem_map.mp h1
    exact hm q.1 (h2.trans e)
  clear hk
  induction gs with
  | nil => rfl
  | cons p gs ih =>
    obtain ⟨n, y⟩ := p
    rw [List.lookup_cons]
    have q : (m == n) = false := beq_eq_false_iff_ne.mpr fun e => this (n, y) (by simp) e.symm
    rw [q]
    exact ih fun p hp => this p (List.mem_cons_of_mem _ hp)
end

section
variable {X : Cx} {k : Nat} {f C : Addr} {fd : FuncData} {ps : List Str} {sp : Sp} {W : WX}
/-- a new object, its __init__ runs -/
theorem run_makeG {pins : List (Addr × Obj)} {σ : L2.St} {H : Hp} {s : Shared} {Q : VK} {us : List Value} {vs : List V} (M : Mk X.K C f) (F : FnG X.prog X.w X.K X.mg X.base k f fd ps sp) (hg : X.A.guards = some []) (hr : Room (k + 1) X.A) (hb : Binds X.K fd ps [])
    (tk : Takes X W) (I : Inv X pins σ H s) (r : Vals vs us)
    (h : ∀ x dx, H x = none → H dx = none → dx ≠ x → sp (.ref x :: vs) (upd (upd H dx (.own x)) x (.ins C dx [])) (fun v H2 => v = .non ∧ Q (.ref x) H2) fun cls d H' => W cls d σ H') :
    wpAny (model X.prog X.w) X.A (call (.ref C) us) (EP X pins σ Q) X.xe s := by
  have hq := h (s.heap.objs.size + 1) s.heap.objs.size (I.hok.fresh (Nat.le_succ _)) (I.hok.fresh (Nat.le_refl _)) (Nat.ne_of_lt (Nat.lt_succ_self _))
  have I2 := Inv.made (C := C) I
  have r2 : Vals (V.ref (s.heap.objs.size + 1) :: vs) (Value.ref (s.heap.objs.size + 1) :: us) := .cons rfl r
  have hl : (Value.ref (s.heap.objs.size + 1) :: us).length = ps.length := by
    have e := r2.length
    rw [F.len _ _ _ _ hq] at e
    exact e.symm
  have hbs := hb { s with heap := (s.heap.push PySem.W.emptyDict).push (PySem.W.instObj C s.heap.objs.size) } (Value.ref (s.heap.objs.size + 1) :: us) I2.kIn (by rw [List.append_nil]; exact hl)
  rw [List.append_nil] at hbs
  refine wpAny_call (make_map (f := f) I.kIn M.makes M.init (beq_iff_eq.mp M.fn) (codeAny_mono (F.run _ X.stack _ _ ⟨Value.ref (s.heap.objs.size + 1) :: us, []⟩ (Value.ref (s.heap.objs.size + 1) :: us) _ _ _ hg (hr.make C us [])
    (I2.env0.make C us []) hbs r2 hq) fun r s' hq' => ?_))
  cases r with
  | error e => exact tk e s' (XE.of_call I2 (fun _ _ _ z => z) hq')
  | ok fl =>
    cases fl with
    | ret u =>
      obtain ⟨v, H', I3, rv, ev, q3⟩ := I2.after hq'
      subst ev
      exact ⟨rv, ⟨V.ref (s.heap.objs.size + 1), H', I3, rfl, q3⟩⟩
    | next => exact False.elim hq'
    | brk => exact False.elim hq'
    | cont => exact False.elim hq'
end
/-- a method call's tree -/
theorem meth_tree {o : Expr} {m : Str} {apos pos : Pos} {es : List Expr} {env : PySem.Env} (h : headA o = true) (hs : noStars es = true) (hl : (apos.endLine == pos.line) = true) (h30 : es.length < 30) :
    eval (.Call (.Attribute o m apos) es [] pos) env = (do
      let ov ← eval o env
      standAt apos.atName
      let (f, first) ← holding [ov] (getMethod ov m (do return (← importBound o env).getD true))
      callWith pos f first (backTo pos (starEach es env)) (backToKw pos (keywordEach [] env))) := by
  have hform : methodCallForm (es.length + ([] : List Keyword).length) (backTo pos (starEach es env)) (backToKw pos (keywordEach [] env)) = true := by
    have h1 : (backTo pos (starEach es env)).all (fun x => !x.1) = true := by
      have h2 := noStars_any (env := env) (pos := pos) hs
      rw [List.all_eq_true]
      intro x hx
      have := List.any_eq_false.mp h2 x hx
      simpa using this
    have h0 : (backToKw pos (keywordEach [] env)) = [] := rfl
    unfold methodCallForm
    rw [h0, h1]
    simpa using h30
  have hpos : methodCallPos true o env apos pos = pure pos := by unfold methodCallPos; simp [hl]
  rw [arm_eval_Call, headA_ok h]
  unfold methodCall
  rw [hform]
  simp only [hpos, pure_bind]
  rfl
section
variable {Γ : Tx} {cf : CF} {P : Pn} {t : Nm} {k : Nat}
theorem snd_bad : Snd Γ cf P t k .bad ∧ SndT Γ cf P t k .bad := by
  refine ⟨fun X W x G h => ⟨⟨fun pins s σ H Q I ⟨φ, env, st, r, E, o⟩ => ?_⟩, by simpa [chk] using h⟩, fun X W x G h => ⟨fun pins s σ H Q I ⟨φ, env, st, r, E, o⟩ => ?_⟩⟩
  · simp only [ev] at o
    exact o.elim
  · simp only [ev] at o
    exact o.elim
theorem snd_fld {c : Nat} {a : E} {f : Nat} (ha : Snd Γ cf P t k a) : Snd Γ cf P t k (.fld c a f) := by
  intro X W x G h
  simp only [chk, kFld] at h
  rw [Bool.and_eq_true] at h
  obtain ⟨h, hF⟩ := h
  split at h
  · rename_i y g pos
    simp only [Bool.and_eq_true] at h
    obtain ⟨⟨h1, h2⟩, h3⟩ := h
    have h1 := of_decide_eq_true h1
    obtain ⟨hc, hn, hf⟩ := G.top.nm.fld c f hF
    refine ⟨pe_imp (pe_fld (ha X W y G h3).1 (headA_ok h2)) fun σ H Q ⟨φ, env, st, r, E, o⟩ => ?_, rfl⟩
    simp only [ev] at o
    refine tI_then r E shD o fun v H1 φ1 st1 d r1 e1 E1 p1 o1 => ?_
    split at o1
    · rename_i kk
      split at o1
      · rename_i c' fs hk
        split at o1
        · rename_i hcc
          subst hcc
          obtain ⟨a, h4, rfl⟩ := p1.1
          obtain ⟨b, h5, dx, gs, h6, h7, h8⟩ := r1.at_ _ _ hk
          rw [h4] at h5; cases h5
          cases q : fs.lookup f with
          | none => rw [q] at o1; exact o1.elim
          | some d =>
            rw [q] at o1
            obtain ⟨v, h9, h10⟩ := fld_at (K := X.K) (φ := φ1) (H := H1) G.top.nm.inj h7 h8 q
            exact ⟨a, t.cls c', dx, gs, v, rfl, h6, hc, by rw [← h1, ← hf]; exact hn, by rw [← h1, ← hf]; exact h9, o1 φ1 H1 v r1 .refl (.weak h10)⟩
        · exact o1.elim
      · exact o1.elim
    · exact o1.elim
  · cases h
theorem snd_mth {c : Nat} {a : E} {f : Nat} {es : List E} (ha : Snd Γ cf P t k a) (hs : Snds Γ cf P t k es) : Snd Γ cf P t k (.mth c a f es) := by
  intro X W x G h
  simp only [chk, kMeth] at h
  rw [Bool.and_eq_true, Bool.and_eq_true] at h
  obtain ⟨⟨h, hM⟩, h30⟩ := h
  split at h
  · rename_i y m' ap xs cp
    simp only [Bool.and_eq_true] at h
    obtain ⟨⟨⟨⟨h1, h2⟩, h3⟩, h4⟩, h5⟩ := h
    have h1 := of_decide_eq_true h1
    subst h1
    obtain ⟨g, fd, ps, ⟨hc, hm, hnm⟩, hb, hl, F⟩ := G.fns.mth c f hM
    obtain ⟨hp, hns⟩ := snd_args es hs X W xs G h5
    have h30' : xs.length < 30 := by rw [chks_len h5]; exact of_decide_eq_true h30
    refine ⟨⟨fun pins s σ H Q I ⟨φ, env, st, r, E, o⟩ => ?_⟩, rfl⟩
    simp only [ev] at o
    have hA : tI Γ cf (rz X t) W a σ H (fun x H1 => ∃ l dx gs, x = .ref l ∧ H1 l = some (.ins (t.cls c) dx gs) ∧ gs.lookup (P.mth f) = none ∧ tIs Γ cf (rz X t) W es σ H1 fun vs H2 => spOf X.K t cf f ps.length (.ref l :: vs) H2 Q fun cls d H' => W cls d σ H') := by
      refine tI_then r E shD o fun v H1 φ1 st1 d r1 e1 E1 p1 o1 => ?_
      split at o1
      · rename_i kk
        split at o1
        · rename_i c' fs hk
          split at o1
          · rename_i hcc
            subst hcc
            obtain ⟨l, h6, rfl⟩ := p1.1
            obtain ⟨b, h7, dx, gs, h8, h9, h10⟩ := r1.at_ _ _ hk
            rw [h6] at h7; cases h7
            refine ⟨l, dx, gs, rfl, h8, mth_none (t := t) h9 hnm, tIs_then r1 E1 shD o1 fun vs H2 φ2 st2 ds r2 e2 E2 p2 o2 => ?_⟩
            by_cases e : (D.ref kk :: ds).length = ps.length
            · rw [← e]
              exact sp_of r2 ⟨.ref l, vs, rfl, r1.rep e2 ⟨l, h6, rfl⟩, p2⟩ o2
            · rw [hl _ st2 e] at o2
              exact o2.elim
          · exact o1.elim
        · exact o1.elim
      · exact o1.elim
    refine PySem.W.methodCall_KW (pl := do return (← importBound y X.env).getD true) (thn ((ha X W y G h4).1.run pins s σ H _ I hA) fun u s1 ⟨x, H1, I1, rx, l, dx, gs, ex, ea, hlk, q⟩ => ?_) (meth_tree h2 hns h3 h30')
    subst ex
    obtain rfl : u = Value.ref l := rx
    refine getmeth_ok I1 ea hc hm hlk ?_
    cases xs with
    | nil =>
      refine PySem.W.callWith_K0 (first := [.ref l]) I1.kIn hm.kp ?_
      have he : es = [] := by
        cases es with
        | nil => rfl
        | cons e es => obtain ⟨_, _, e, _⟩ := chks_cons h5; cases e
      subst he
      obtain ⟨φ', env', st', r', E', o'⟩ := q
      rw [evs_nil] at o'
      exact run_fng (us := [.ref l]) (vs := [.ref l]) F G.grd (G.room.mono (Nat.le_succ k)) hb G.tk I1 (.cons rfl .nil) (o' φ' H1 [] r' .refl rfl)
    | cons z zs =>
      have hz : headOk z = true := by
        have : (headOk z && noStars zs) = true := hns
        exact (Bool.and_eq_true_iff.mp this).1
      have hzs : noStars zs = true := by
        have : (headOk z && noStars zs) = true := hns
        exact (Bool.and_eq_true_iff.mp this).2
      refine PySem.W.callWith_K (first := [.ref l]) (h₀ := X.base) I.ok.mod.kin hm.kp (thn (hp.run cp pins s1 σ H1 _ I1 q) fun us s2 ⟨vs, H2, I2, ru, q2⟩ => ⟨I2.kIn, ?_⟩) (head_star hz) (noStars_any hzs)
      exact run_fng (us := .ref l :: us) (vs := .ref l :: vs) F G.grd (G.room.mono (Nat.le_succ k)) hb G.tk I2 (.cons rfl ru) q2
  · cases h
theorem snd_new {c f : Nat} {es : List E} (hs : Snds Γ cf P t k es) : Snd Γ cf P t k (.new c f es) := by
  intro X W x G h
  simp only [chk, kCall] at h
  rw [Bool.and_eq_true] at h
  obtain ⟨h, hhas⟩ := h
  split at h
  · rename_i y _ xs pos
    simp only [Bool.and_eq_true] at h
    obtain ⟨a, fd, ps, ⟨hm, M⟩, hb, hl, F⟩ := G.fns.ini c f hhas
    obtain rfl := of_decide_eq_true h.1.1
    obtain ⟨hp, hns⟩ := snd_args es hs X W xs G h.2
    refine ⟨⟨fun pins s σ H Q I ⟨φ, env, st, r, E, o⟩ => ?_⟩, rfl⟩
    simp only [ev] at o
    -- the arguments, then the new object
    have hA : tIs Γ cf (rz X t) W es σ H (fun vs H1 => ∀ x dx, H1 x = none → H1 dx = none → dx ≠ x → spOf X.K t cf f ps.length (.ref x :: vs) (upd (upd H1 dx (.own x)) x (.ins (t.cls c) dx [])) (fun v H2 => v = .non ∧ Q (.ref x) H2) fun cls d H' => W cls d σ H') :=
      tIs_then r E shD o fun vs H1 φ1 st1 ds r1 e1 E1 p1 o1 x dx hx hdx hne => by
        have ra : Rel (rz X t) φ1 (upd H1 dx (.own x)) st1 := r1.new hdx
        have ea : Ext φ1 H1 φ1 (upd H1 dx (.own x)) := ext_new hdx
        have hx2 : upd H1 dx (.own x) x = none := by rw [upd_ne (Ne.symm hne)]; exact hx
        obtain ⟨rb, eb⟩ := rel_push (T := rz X t) (p := x) (o := .ins (t.cls c) dx []) (m := .ins c []) ra hx2 ⟨dx, [], upd_same, rfl, rfl⟩
        have eab : Ext φ1 H1 (φ1.push x) (upd (upd H1 dx (.own x)) x (.ins (t.cls c) dx [])) := ea.trans r1 eb ra
        have hx3 := push_at (p := x) ra
        by_cases e : (D.ref st1.length :: ds).length = ps.length
        · rw [← e]
          refine ⟨φ1.push x, D.ref st1.length :: ds, st1 ++ [.ins c []], rb, ⟨.ref x, vs, rfl, ⟨x, hx3, rfl⟩, ra.reps eb (r1.reps ea p1)⟩, rfl, ?_⟩
          revert o1
          cases cf f (.ref st1.length :: ds) (st1 ++ [.ins c []]) with
          | stk => exact id
          | ex c' fs s2 => exact fun o1 φ2 H2 cls dd r2 e2 x2 => o1 φ2 H2 cls dd r2 (eab.trans r1 e2 rb) x2
          | ok d s2 =>
            intro o1
            cases d with
            | non =>
              intro φ2 H2 v r2 e2 p2
              have hv : v = V.non := p2
              obtain ⟨ψ, hψ, _⟩ := e2.more
              refine ⟨hv, o1 φ2 H2 (.ref x) r2 (eab.trans r1 e2 rb) (.weak ⟨x, ?_, rfl⟩)⟩
              rw [hψ, List.getElem?_append_left (List.getElem?_eq_some_iff.mp hx3).1]
              exact hx3
            | _ => exact o1.elim
        · rw [hl _ _ e] at o1
          exact o1.elim
    refine wpAny_Call_Name_kw (ld_glob I (G.glob h.1.2) hm ?_ (nm0_d (glB_nm h.1.2)))
    cases xs with
    | nil =>
      refine PySem.W.callWith_K0 I.kIn M.kp ?_
      have he : es = [] := by
        cases es with
        | nil => rfl
        | cons e es => obtain ⟨_, _, e, _⟩ := chks_cons h.2; cases e
      subst he
      obtain ⟨φ', env', st', r', E', o'⟩ := hA
      rw [evs_nil] at o'
      exact run_makeG (us := []) M F G.grd G.room hb G.tk I .nil (o' φ' H [] r' .refl rfl)
    | cons y ys =>
      have hy : headOk y = true := by
        have : (headOk y && noStars ys) = true := hns
        exact (Bool.and_eq_true_iff.mp this).1
      have hys : noStars ys = true := by
        have : (headOk y && noStars ys) = true := hns
        exact (Bool.and_eq_true_iff.mp this).2
      refine PySem.W.callWith_K (h₀ := X.base) I.ok.mod.kin M.kp (thn (hp.run pos pins s σ H _ I hA) fun us s1 ⟨vs, H1, I1, ru, q⟩ => ⟨I1.kIn, ?_⟩) (head_star hy) (noStars_any hys)
      exact run_makeG M F G.grd G.room hb G.tk I1 ru q
  · cases h
end
end Cip

set_option maxHeartbeats 4000000
/-! Cip18c: f-strings. -/
namespace Cip
open PySem PySem.Spec PyProof.Rows L2
section
variable {Γ : Tx} {cf : CF} {P : Pn} {t : Nm} {k : Nat}
theorem chkF_cons {N : List Str} {sc : Scope} {e : E} {es : List E} {xs : List Expr} (h : chkF P N (e :: es) sc xs = true) : ∃ y ys, xs = y :: ys ∧ kPart e (chk P N e sc) y = true ∧ chkF P N es sc ys = true := by
  simp only [chkF, kCons] at h
  split at h
  · rename_i y ys
    rw [Bool.and_eq_true] at h
    exact ⟨y, ys, rfl, h.1, h.2⟩
  · cases h
theorem chkF_nil {N : List Str} {sc : Scope} {xs : List Expr} (h : chkF P N [] sc xs = true) : xs = [] := by
  simp only [chkF] at h
  exact List.isEmpty_iff.mp h
/-- a part: what it is as a text -/
theorem snd_part {e : E} (he : Snd Γ cf P t k e) (X : Cx) (W : WX) (x : Expr) (G : Good Γ cf P t k X W) (h : kPart e (chk P X.N e X.env.scope) x = true) :
    ∃ te : TE, PE X x te ∧ ∀ (φ : Fi) (H : Hp) (σ : L2.St) (env : Env) (st : Store) (Q : VK), Rel (rz X t) φ H st → EnvR (rz X t) φ H σ env →
      tI Γ cf (rz X t) W e σ H (fun v H1 => ∃ y : Str, (v = .str y ∧ y.length ≤ sizeLine ∨ ∃ i : Int, v = .int i ∧ i.natAbs.log2 < 1920 ∧ y = toString i) ∧ Q (.str y) H1) → te σ H Q := by
  have fmt : kFmt (chk P X.N e X.env.scope) x = true → ∃ te : TE, PE X x te ∧ ∀ (φ : Fi) (H : Hp) (σ : L2.St) (env : Env) (st : Store) (Q : VK), Rel (rz X t) φ H st → EnvR (rz X t) φ H σ env →
      tI Γ cf (rz X t) W e σ H (fun v H1 => ∃ y : Str, (v = .str y ∧ y.length ≤ sizeLine ∨ ∃ i : Int, v = .int i ∧ i.natAbs.log2 < 1920 ∧ y = toString i) ∧ Q (.str y) H1) → te σ H Q := fun h => by
    unfold kFmt at h
    split at h
    · rename_i y c pos _
      rw [Bool.and_eq_true] at h
      have hc := of_decide_eq_true h.1
      subst hc
      refine ⟨_, pe_fmt (he X W y G h.2).1, fun φ H σ env st Q r E q => ?_⟩
      obtain ⟨φ', env', st', r', E', o⟩ := q
      refine ⟨φ', env', st', r', E', o.imp fun v H1 q => ?_⟩
      obtain ⟨z, (⟨rfl, hz⟩ | ⟨i, rfl, hi, rfl⟩), hq⟩ := q
      · exact .inl ⟨z, rfl, hz, hq⟩
      · exact .inr ⟨i, rfl, hi, hq⟩
    · cases h
  cases e with
  | str z =>
    have h : kStr z x = true := h
    obtain ⟨h1, _⟩ := he X W x G h
    refine ⟨_, h1, fun φ H σ env st Q r E q => ?_⟩
    obtain ⟨φ', env', st', r', E', o⟩ := q
    refine ⟨φ', env', st', r', E', fun φ2 H2 v r2 e2 p2 => ?_⟩
    obtain ⟨y, hy, hq⟩ := o φ2 H2 v r2 e2 p2
    have hv : v = .str z := p2.1.1
    subst hv
    rcases hy with ⟨e1, _⟩ | ⟨i, e1, _⟩
    · cases e1; exact hq
    · cases e1
  | _ => exact fmt h
theorem strD_rep {T : Rz} {φ : Fi} {H : Hp} {d : D} {v : V} {y : Str} (h : strD d = some y) (r : Rep T.K φ H d v) : v = .str y ∧ y.length ≤ sizeLine ∨ ∃ i : Int, v = .int i ∧ i.natAbs.log2 < 1920 ∧ y = toString i := by
  cases d with
  | str x =>
    cases h
    exact .inl r
  | int i =>
    have h : showI i = some y := h
    unfold showI at h
    split at h
    · rename_i hi
      cases h
      have r : v = .int i := r
      exact .inr ⟨i, r, hi, rfl⟩
    · cases h
  | _ => cases h
theorem snd_parts : ∀ (es : List E), Snds Γ cf P t k es → ∀ (X : Cx) (W : WX) (xs : List Expr), Good Γ cf P t k X W → chkF P X.N es X.env.scope xs = true →
    ∃ ts : List TE, PJ X xs ts ∧ ∀ (acc : Str) (φ : Fi) (H : Hp) (σ : L2.St) (env : Env) (st : Store) (Q : VK), acc.length ≤ sizeLine → Rel (rz X t) φ H st → EnvR (rz X t) φ H σ env →
      OutG (rz X t) (repD (rz X t) false) W φ H σ (evF Γ cf es acc env st) Q → tJs ts acc σ H fun out H1 => Q (.str out) H1
  | [], _, X, W, xs, G, h => by
    obtain rfl := chkF_nil h
    refine ⟨[], .nil, fun acc φ H σ env st Q hl r E o => ?_⟩
    simp only [evF] at o
    exact o φ H (.str acc) r .refl (repD.weak ⟨rfl, hl⟩)
  | e :: es, hs, X, W, xs, G, h => by
    obtain ⟨y, ys, rfl, h1, h2⟩ := chkF_cons h
    obtain ⟨ts, hts, ih⟩ := snd_parts es (fun z hz => hs z (List.mem_cons_of_mem _ hz)) X W ys G h2
    obtain ⟨te, hte, he⟩ := snd_part (hs e (by simp)) X W y G h1
    refine ⟨te :: ts, .cons hte hts, fun acc φ H σ env st Q hl r E o => ?_⟩
    simp only [evF] at o
    refine he φ H σ env st _ r E (tI_then r E shD o fun v H1 φ1 st1 d r1 e1 E1 p1 o1 => ?_)
    cases hd : strD d with
    | none => rw [hd] at o1; exact o1.elim
    | some z =>
      rw [hd] at o1
      dsimp only at o1
      split at o1
      · rename_i hz
        exact ⟨z, strD_rep hd p1.1, z, rfl, hz, ih (acc ++ z) φ1 H1 σ env st1 Q hz r1 E1 o1⟩
      · exact o1.elim
theorem snd_fst {es : List E} (hs : Snds Γ cf P t k es) : Snd Γ cf P t k (.fst es) := by
  intro X W x G h
  simp only [chk, kFst] at h
  split at h
  · rename_i xs pos
    rw [Bool.and_eq_true] at h
    obtain ⟨ts, hts, ih⟩ := snd_parts es hs X W xs G h.1
    match xs, hts, h with
    | v1 :: v2 :: rest, hts, h =>
      refine ⟨pe_imp (pe_joined hts) fun σ H Q ⟨φ, env, st, r, E, o⟩ => ?_, rfl⟩
      simp only [ev] at o
      exact ih Str.empty φ H σ env st Q (Nat.zero_le _) r E o
    | [_], _, h => exact absurd (of_decide_eq_true h.2) (by simp)
    | [], _, h => exact absurd (of_decide_eq_true h.2) (by simp)
  · cases h
end
end Cip

set_option maxHeartbeats 4000000
/-! Cip18d: xs[::-1]. -/
namespace Cip
open PySem PySem.Spec PyProof.Rows L2
section
variable {X : Cx}
def tRevA (K : PySem.W.Frag) (te : TE) : TE := fun σ H Q => te σ H fun x H1 => ∃ a xs, x = .ref a ∧ ((SqL K H1 a xs ∧ ∀ p, H1 p = none → Q (.ref p) (upd H1 p (.lst xs.reverse))) ∨ (SqT K H1 a xs ∧ ∀ p, H1 p = none → Q (.ref p) (upd H1 p (.tup xs.reverse))))
theorem pe_revA {e : Expr} {te : TE} {k : Nat} {p1 p2 p3 pos : Pos} (he : PE X e te) : PE X (.Subscript e (.Slice none none (some (.UnaryOp .USub (.Constant (.int 1) k p1) p2)) p3) pos) (tRevA X.K te) := by
  refine ⟨fun pins s σ H Q I h => ?_⟩
  refine Subscript_ (thn (he.run pins s σ H _ I h) fun v s1 ⟨x, H1, I1, r1, q1⟩ => ?_)
  obtain ⟨a, xs, ex, q⟩ := q1
  subst ex
  cases r1
  have hst : PO X (some (.UnaryOp .USub (.Constant (.int 1) k p1) p2)) (tPart (tUn (rU fun i => .int (-i)) (tC (.int 1)))) := po_some (pe_un un_neg pe_int)
  refine wpAny_Slice (thn (po_none.run pins s1 σ H1 (fun o H2 => o = none ∧ H2 = H1) I1 ⟨rfl, rfl⟩) fun vl s2 ⟨l, H2, I2, pl, el, e2⟩ => ?_)
  subst el e2
  refine thn (po_none.run pins s2 σ H2 (fun o H3 => o = none ∧ H3 = H2) I2 ⟨rfl, rfl⟩) fun vu s3 ⟨u, H3, I3, pu, eu, e3⟩ => ?_
  subst eu e3
  refine thn (hst.run pins s3 σ H3 (fun o H4 => o = some (-1) ∧ H4 = H3) I3 ⟨1, rfl, -1, rfl, rfl, rfl⟩) fun vs s4 ⟨o, H4, I4, ps, eo, e4⟩ => ?_
  subst eo e4
  have I5 : Inv X pins σ H4 { s4 with heap := s4.heap.push { cls := .type "slice", data := .fields #[vl, vu, vs] } } := I4.kept (t' := s4.toks) fun b ob q => Heap.get?_push_of_some _ q
  show wpAny (model X.prog X.w) X.A (subscriptTail e (.Slice none none (some (.UnaryOp .USub (.Constant (.int 1) k p1) p2)) p3) (.ref a) (.ref s4.heap.objs.size)) (EP X pins σ Q) X.xe { s4 with heap := s4.heap.push { cls := .type "slice", data := .fields #[vl, vu, vs] } }
  rcases q with ⟨hx, q⟩ | ⟨hx, q⟩
  · obtain ⟨its, r, ht, hz⟩ := I5.list hx
    have hlen := r.length
    refine tail_any (ops := [.ref a, .ref s4.heap.objs.size]) ht.isList.typeIs (PySem.slot_list_getitem.lookup) ?_ (by with_unfolding_all rfl)
    refine wpAny_getItem_list_slice ht.isList (Heap.IsSliceOf.new _ vl vu vs) pl pu ps (by decide) ?_ (by rw [List.size_toArray]; omega)
    rw [PySem.W.krv_pick]
    refine ⟨.ref _, _, I5.laid (t' := s4.toks) (o := .lst xs.reverse) (fun b ob q => Heap.get?_push_of_some _ q) (Nat.le_refl _) ?_, rfl, q _ (I5.hok.fresh (Nat.le_refl _))⟩
    exact ⟨by rw [List.length_reverse]; exact hz, _, 0, r.reverse, Heap.get?_push_size _ rfl⟩
  · obtain ⟨its, r, ht, hz⟩ := I5.tuple hx
    have hlen := r.length
    refine tail_any (ops := [.ref a, .ref s4.heap.objs.size]) ht.typeIs (PyProof.Rows.slot_tuple_getitem.lookup) ?_ (by with_unfolding_all rfl)
    refine getItem_tuple_rev ht (Heap.IsSliceOf.new _ vl vu vs) pl pu ps ?_ (by rw [List.size_toArray]; omega)
    refine ⟨.ref _, _, I5.laid (t' := s4.toks) (o := .tup xs.reverse) (fun b ob q => Heap.get?_push_of_some _ q) (Nat.le_refl _) ?_, rfl, q _ (I5.hok.fresh (Nat.le_refl _))⟩
    exact ⟨by rw [List.length_reverse]; exact hz, _, r.reverse, ⟨_, Heap.get?_push_size _ rfl, rfl, _, rfl⟩⟩
end
section
variable {Γ : Tx} {cf : CF} {P : Pn} {t : Nm} {k : Nat}
theorem snd_rev {a : E} (ha : Snd Γ cf P t k a) : Snd Γ cf P t k (.rev a) := by
  intro X W x G h
  simp only [chk, kRev] at h
  split at h
  · rename_i y kk p1 p2 p3 pos
    refine ⟨pe_imp (pe_revA (ha X W y G h).1) fun σ H Q ⟨φ, env, st, r, E, o⟩ => ?_, rfl⟩
    simp only [ev] at o
    refine tI_then r E shD o fun v H1 φ1 st1 d r1 e1 E1 p1 o1 => ?_
    have o2 : OutO (rz X t) (Cip.E.rev a).fresh φ1 H1 st1 (revD st1 d) Q := o1.of
    by_cases ht : ∃ us, d = .tup us
    · obtain ⟨us, rfl⟩ := ht
      obtain ⟨b, vs, rfl, h1, h2, h3⟩ := p1.1
      exact ⟨b, vs, rfl, .inr ⟨h1, fun p hp => OutO.tup (ds := us.reverse) o2 r1 hp h3.rev (by rw [List.length_reverse]; exact h2)⟩⟩
    · have e4 : revD st1 d = (lsqD st1 d).map fun xs => .lst xs.reverse := by
        cases d <;> first | rfl | exact absurd ⟨_, rfl⟩ ht
      rw [e4] at o2
      cases q : lsqD st1 d with
      | none => rw [q] at o2; exact o2.elim
      | some us =>
        rw [q] at o2
        obtain ⟨b, vs, h1, h2, h3, h4⟩ := lsq_at r1 p1.1 q
        exact ⟨b, vs, h1, .inl ⟨h2, fun p hp => OutO.lst (ds := us.reverse) o2 r1 hp h4.rev (by rw [List.length_reverse]; exact h3)⟩⟩
  · cases h
end
end Cip

set_option maxHeartbeats 4000000
/-! Cip18e: errors made, as values; their fields. -/
namespace Cip
open PySem PySem.Spec PyProof.Rows L2
section
variable {X : Cx}
/-- e.f, e an error that is kept -/
def tXfv (K : PySem.W.Frag) (f : Str) (te : TE) : TE := fun σ H Q => te σ H fun x H1 => ∃ (a C dd : Addr) (gs : List (Str × V)) (v : V), x = .ref a ∧ H1 a = some (XO (.ref C) (some dd) a) ∧ H1 dd = some (.xd gs) ∧ ExcC K C ∧ NoAttr K C f ∧ gs.lookup f = some v ∧ Q v H1
theorem pe_xfv {e : Expr} {te : TE} {f : Str} {pos : Pos} (he : PE X e te) (hb : attributeBase e f X.env (eval e X.env) = eval e X.env) : PE X (.Attribute e f pos) (tXfv X.K f te) := by
  refine ⟨fun pins s σ H Q I h => ?_⟩
  refine attr_of hb (thn (he.run pins s σ H _ I h) fun u s1 hh => ?_)
  obtain ⟨x, H1, I1, rx, a, C, dd, gs, v, rfl, ha, ed, T, hno, l, q⟩ := hh
  obtain rfl : u = Value.ref a := rx
  obtain ⟨⟨oe, vs, hget, hz, hd⟩, _, _⟩ := I1.hok a _ ha
  have hx : ObjOk X.prog X.w H1 s1.heap dd (.xd gs) := I1.hok dd _ ed
  obtain ⟨mA, hns, hr⟩ := hx
  obtain ⟨od, ho, hl⟩ := lookIn_ns hns
  obtain ⟨u, hu, ru⟩ := RelO.some_of (v := v) (o := mA f) (by rw [← l]; exact hr f)
  have J : PySem.W.InstAt s1.heap a oe C (some od) := ⟨hget, hz.1, by unfold PySem.W.notCls; rw [hd] <;> rfl, by rw [hz.2]; exact ho⟩
  exact HandSPX.exc_get I1.kIn J T.hg T.hk T.hs (PySem.W.findObj_own T.hd hno rfl (by rw [hl, hu])) (handed_of ru) ⟨v, H1, I1.tok _, ru, q⟩
theorem pmk_imp {e : Expr} {t u : L2.St → Hp → XK → Prop} (h : PMk X e t) (hi : ∀ σ H Q, u σ H Q → t σ H Q) : PMk X e u := fun pins s σ H Q I q => h pins s σ H Q I (hi σ H Q q)
end
theorem raises_of {X : Cx} {x : Str} {C : Addr} (c : XcOk X.K X.mg x C) : Raises X (.ref C) := raises_own c.cc.hs c.ty

def repX (T : Rz) : RepT (List (Nat × D)) (Option Addr) := fun _ φ' H' _ fs d => XF T φ' H' fs d
theorem shX {T : Rz} : Shift T (repX T) := fun _ _ _ _ _ _ _ _ _ _ _ _ h => h
theorem fsD_len {ds : List D} : ∀ {l : List (Nat × Nat)} {acc fs : List (Nat × D)}, fsD ds l acc = some fs → fs.length = l.length + acc.length
  | [], acc, fs, h => by
    cases h
    simp
  | p :: r, acc, fs, h => by
    simp only [fsD] at h
    split at h
    · rw [fsD_len h]
      simp
      omega
    · cases h
section
variable {Γ : Tx} {cf : CF} {P : Pn} {t : Nm} {k : Nat}
/-- the reading of an error made -/
def tX (Γ : Tx) (cf : CF) (T : Rz) (W : WX) (c : Nat) (es : List E) : L2.St → Hp → XK → Prop := fun σ H Q => ∃ φ env st, Rel T φ H st ∧ EnvR T φ H σ env ∧
  OutG T (repX T) W φ H σ ((evs Γ cf es env st).bind fun ds st => R.of (Γ.exf c ds) st) fun d H' => Q (.ref (T.cls c)) d H'
theorem pmk_x {c : Nat} {es : List E} (hs : Snds Γ cf P t k es) {X : Cx} {W : WX} {x : Expr} (G : Good Γ cf P t k X W) (h : kCall X.env.scope (P.cls c) (chks P X.N es X.env.scope) x = true) (hx : P.xar c es.length = true) : PMk X x (tX Γ cf (rz X t) W c es) := by
  simp only [kCall] at h
  unfold Pn.xar at hx
  rw [Bool.and_eq_true] at hx
  obtain ⟨hx, hn⟩ := hx
  split at h
  · rename_i y p xs pos
    simp only [Bool.and_eq_true] at h
    obtain ⟨⟨h1, h2⟩, h3⟩ := h
    obtain rfl := of_decide_eq_true h1
    have xc := G.top.exc c hx
    cases q : P.xd c with
    | none =>
      rw [q] at hn
      match es, hn, h3, hs with
      | [e], _, h3, hs =>
        obtain ⟨z, zs, rfl, h4, h5⟩ := chks_cons h3
        obtain rfl := chks_nil h5
        obtain ⟨he, he2⟩ := hs e (by simp) X W z G h4
        refine pmk_imp (SkE.pmk_own1 PySem.F.excBase_ValueError (G.top.exn c hx q) xc.glo xc.kp (raises_of xc) (G.glob h2) he (head_star he2) (nm0_d (glB_nm h2))) fun σ H Q ⟨φ, env, st, r, E, o⟩ => ?_
        have o : OutG (rz X t) (repX (rz X t)) W φ H σ ((ev Γ cf e env st).bind fun d st1 => R.of (Γ.exf c [d]) st1) fun d H' => Q (.ref (t.cls c)) d H' := by
          revert o
          simp only [evs]
          cases ev Γ cf e env st <;> exact id
        refine tI_then r E shX o fun v H1 φ1 st1 d r1 e1 E1 p1 o1 => ?_
        cases q2 : Γ.exf c [d] with
        | none => rw [q2] at o1; exact o1.elim
        | some fs =>
          rw [q2] at o1
          obtain ⟨_, ⟨_, hf, _⟩ | ⟨x', hx', _⟩⟩ := G.top.exf c [d] fs q2
          · subst hf
            exact o1 φ1 H1 none r1 .refl ⟨fun _ => rfl, fun z => (z rfl).elim⟩
          · rw [q] at hx'
            cases hx'
    | some x =>
      rw [q] at hn
      rw [Bool.and_eq_true] at hn
      have hn1 : es.length = x.n := beq_iff_eq.mp hn.1
      obtain ⟨oc, ne, n1, fI, fd, ps, iC, tI, hb, F⟩ := G.fns.xin c x hx q
      obtain ⟨hp, hns⟩ := snd_args es hs X W xs G h3
      cases xs with
      | nil =>
        cases es with
        | nil => cases hn.2
        | cons e es => obtain ⟨_, _, e, _⟩ := chks_cons h3; cases e
      | cons y ys =>
        have hy : headOk y = true := by
          have : (headOk y && noStars ys) = true := hns
          exact (Bool.and_eq_true_iff.mp this).1
        have hys : noStars ys = true := by
          have : (headOk y && noStars ys) = true := hns
          exact (Bool.and_eq_true_iff.mp this).2
        refine pmk_imp (pmk_sup oc iC tI F G.grd G.room hb (G.glob h2) xc.glo hp (nm0_d (glB_nm h2)) (head_star hy) (noStars_any hys)) fun σ H Q ⟨φ, env, st, r, E, o⟩ => ?_
        refine tIs_then r E shX o fun vs H1 φ1 st1 ds r1 e1 E1 p1 o1 => ?_
        cases q2 : Γ.exf c ds with
        | none => rw [q2] at o1; exact o1.elim
        | some fs =>
          rw [q2] at o1
          obtain ⟨_, ⟨hx', _⟩ | ⟨x', hx', hf⟩⟩ := G.top.exf c ds fs q2
          · rw [q] at hx'
            cases hx'
          rw [q] at hx'
          cases hx'
          have hlen : ds.length = x.n ∧ fsD ds x.fs [] = some fs := by
            unfold exfX at hf
            split at hf
            · rename_i hc
              exact ⟨hc.1, hf⟩
            · cases hf
          have hfs : fs ≠ [] := by
            have z := fsD_len hlen.2
            intro e
            subst e
            have : 0 < x.fs.length := List.length_pos_iff.mpr ne
            simp at z
            omega
          have hvl : vs.length = x.n := by rw [p1.length, hlen.1]
          refine ⟨by rw [hvl]; exact n1, fun a ha => ?_⟩
          rw [List.append_nil]
          refine ⟨by simp [hvl], a, vs, φ1, ds, st1, fs, rfl, upd_same, (r1.fresh ha).1, r1.new ha, r1.reps (ext_new ha) p1, hf, fun φ' H' dx gs r' e' ea hdx hne hgn hgr => ?_⟩
          have alt : AltX H' (upd (del (upd (upd H' a (exo a (t.cls c) (some dx))) dx (exd dx gs)) a) dx (.xd gs)) a := ⟨fun b o hb e => by
            have hbd : b ≠ dx := fun z => by
              rw [z, hdx] at e
              cases e
            rw [upd_ne hbd, del_ne hb, upd_ne hbd, upd_ne hb]
            exact e, ⟨a, _, _, ea⟩⟩
          have na : a ∉ φ'.ref := e'.notin upd_same (r1.fresh ha).1
          have hd0 : (upd H1 a (exo a (t.cls c) none)) dx = none := e'.back r' hdx
          rw [upd_ne hne] at hd0
          refine ⟨rfl, dx, gs, by rw [upd_ne (Ne.symm hne), upd_same], upd_same, hd0, o1 φ' _ (some dx) (r'.altX alt na) ⟨?_, e'.hid, fun b o hb hn => ?_⟩ ⟨fun z => (hfs z).elim, fun _ => ⟨dx, gs, rfl, upd_same, r'.fresh hdx, hgn, Reps.altX alt _ _ hgr⟩⟩⟩
          · obtain ⟨ψ, hψ, nψ⟩ := e'.more
            refine ⟨ψ, hψ, fun b hb => ?_⟩
            have z := nψ b hb
            by_cases hba : b = a
            · rw [hba, upd_same] at z
              cases z
            · rw [upd_ne hba] at z
              exact z
          · have hba : b ≠ a := fun z => by
              rw [z, ha] at hb
              cases hb
            exact alt.keep b o hba (e'.keep b o (by rw [upd_ne hba]; exact hb) hn)
  · cases h
theorem snd_xnew {c : Nat} {es : List E} (hs : Snds Γ cf P t k es) : Snd Γ cf P t k (.xnew c es) := by
  intro X W x G h
  simp only [chk] at h
  rw [Bool.and_eq_true] at h
  have hh : headOk x = true := by
    have h1 := h.1
    simp only [kCall] at h1
    split at h1
    · rfl
    · cases h1
  refine ⟨pe_imp (pe_made (pmk_x hs G h.1 h.2)) fun σ H Q ⟨φ, env, st, r, E, o⟩ => ⟨φ, env, st, r, E, ?_⟩, hh⟩
  simp only [ev] at o
  have o : OutG (rz X t) (repD (rz X t) (Cip.E.xnew c es).fresh) W φ H σ (((evs Γ cf es env st).bind fun ds st => R.of (Γ.exf c ds) st).bind fun fs st => .ok (.ref st.length) (st ++ [.exc c fs])) Q := by
    revert o
    cases evs Γ cf es env st with
    | stk => exact id
    | ex c' fs st1 => exact id
    | ok ds st1 =>
      show OutG _ _ _ _ _ _ (match Γ.exf c ds with
        | some fs => R.ok (D.ref st1.length) (st1 ++ [MO.exc c fs])
        | none => R.stk) Q → OutG _ _ _ _ _ _ ((R.of (Γ.exf c ds) st1).bind fun fs st => R.ok (D.ref st.length) (st ++ [MO.exc c fs])) Q
      cases Γ.exf c ds <;> exact id
  refine (OutG.bind (rep1 := repX (rz X t)) r shD o).imp fun d H1 ⟨φ1, st1, fs, r1, e1, p1, o1⟩ a na => ?_
  obtain ⟨rp, ep⟩ := rel_push (o := XO (.ref (t.cls c)) d a) (m := .exc c fs) r1 na ⟨d, upd_same, XF.ext (ext_push na) r1.nt p1⟩
  exact o1 _ _ _ rp ep (.no ⟨a, push_at r1, rfl⟩ rfl)
theorem snd_xfld {a : E} {f : Nat} (ha : Snd Γ cf P t k a) : Snd Γ cf P t k (.xfld a f) := by
  intro X W x G h
  simp only [chk, kFld] at h
  split at h
  · rename_i y g pos
    simp only [Bool.and_eq_true] at h
    obtain ⟨⟨h1, h2⟩, h3⟩ := h
    have h1 := of_decide_eq_true h1
    refine ⟨pe_imp (pe_xfv (ha X W y G h3).1 (headA_ok h2)) fun σ H Q ⟨φ, env, st, r, E, o⟩ => ?_, rfl⟩
    simp only [ev] at o
    refine tI_then r E shD o fun v H1 φ1 st1 d r1 e1 E1 p1 o1 => ?_
    split at o1
    · rename_i kk
      split at o1
      · rename_i c' fs hk
        split at o1
        · rename_i hcc
          obtain ⟨l, h4, rfl⟩ := p1.1
          obtain ⟨b, h5, dd, h6, h7⟩ := r1.at_ _ _ hk
          rw [h4] at h5; cases h5
          cases q : fs.lookup f with
          | none => rw [q] at o1; exact o1.elim
          | some d =>
            rw [q] at o1
            obtain ⟨hx, hno, hf⟩ := G.top.xfl c' f hcc
            have hne : fs ≠ [] := fun z => by
              rw [z] at q
              cases q
            obtain ⟨dx, gs, rfl, h8, _, h9, h10⟩ := h7.2 hne
            obtain ⟨v, h11, h12⟩ := fld_at (K := X.K) (φ := φ1) (H := H1) G.top.nm.inj h9 h10 q
            exact ⟨l, t.cls c', dx, gs, v, rfl, h6, h8, (G.top.exc c' hx).cc, by rw [← h1, ← hf]; exact hno, by rw [← h1, ← hf]; exact h11, o1 φ1 H1 v r1 .refl (.weak h12)⟩
        · exact o1.elim
      · exact o1.elim
    · exact o1.elim
  · cases h
end
end Cip

set_option maxHeartbeats 4000000
/-! Cip19: every expression. -/
namespace Cip
open PySem PySem.Spec PyProof.Rows L2

section
variable {Γ : Tx} {cf : CF} {P : Pn} {t : Nm} {k : Nat}
theorem both_of {e : E} (h : Snd Γ cf P t k e) (hv : ∀ (N : List Str) (sc : Scope) (x : Expr), chk P N e sc x = true → headV x = true) : Snd Γ cf P t k e ∧ SndT Γ cf P t k e := ⟨h, sndT_of h hv⟩
theorem both_no {e : E} (h : ∀ (N : List Str) (sc : Scope) (x : Expr), chk P N e sc x = false) : Snd Γ cf P t k e ∧ SndT Γ cf P t k e :=
  ⟨fun X W x G hc => (Bool.noConfusion ((h _ _ _).symm.trans hc)), fun X W x G hc => (Bool.noConfusion ((h _ _ _).symm.trans hc))⟩
theorem sndT_mut {a : E} (ha : SndT Γ cf P t k a) : SndT Γ cf P t k (.mut a) := by
  intro X W x G h
  simp only [chk] at h
  rw [Bool.and_eq_true] at h
  refine pt_imp (ha X W x G h.1) fun σ H Q ⟨φ, env, st, r, E, o⟩ => ⟨φ, env, st, r, E, ?_⟩
  simp only [ev] at o
  cases q : ev Γ cf a env st with
  | stk => rw [q] at o; exact o
  | ex c fs s => rw [q] at o; exact o
  | ok d s => rw [q] at o; cases d <;> exact o.elim
mutual
theorem snd_all : ∀ e : E, Snd Γ cf P t k e ∧ SndT Γ cf P t k e
  | .nul => both_no fun _ _ _ => rfl
  | .non => both_of snd_non fun N sc x h => by simp only [chk, kNon] at h; split at h <;> first | rfl | cases h
  | .bl b => both_of snd_bl fun N sc x h => by simp only [chk, kBl] at h; split at h <;> first | rfl | cases h
  | .int i => both_of snd_int fun N sc x h => by simp only [chk, kInt] at h; split at h <;> first | rfl | cases h
  | .str z => both_of snd_str fun N sc x h => by simp only [chk, kStr] at h; split at h <;> first | rfl | cases h
  | .var i => both_of snd_var fun N sc x h => by simp only [chk, kVar] at h; split at h <;> first | rfl | cases h
  | .con i => both_of snd_con fun N sc x h => by simp only [chk, kCon] at h; split at h <;> first | rfl | cases h
  | .bin o a b => both_of (snd_bin (snd_all a).1 (snd_all b).1) fun N sc x h => by simp only [chk, kBin] at h; split at h <;> first | rfl | cases h
  | .neg a => both_of (snd_neg (snd_all a).1) fun N sc x h => by
    simp only [chk, kUn] at h
    split at h
    · rw [Bool.and_eq_true] at h
      have h1 := of_decide_eq_true h.1
      subst h1
      rfl
    · cases h
  | .cmp o a b => ⟨snd_cmp (snd_all a).1 (snd_all b).1, sndT_cmp (snd_all a).1 (snd_all b).1⟩
  | .chn o p a b c => snd_chn (snd_all a).1 (snd_all b).1 (snd_all c).1
  | .chn3 _ _ _ _ _ _ _ => both_no fun _ _ _ => rfl
  | .isn a => snd_isn (snd_all a).1
  | .notn a => snd_notn (snd_all a).1
  | .and es => snd_and (snd_alls es).1 (snd_alls es).2
  | .or es => snd_or (snd_alls es).1 (snd_alls es).2
  | .not a => snd_not (snd_all a).1 (snd_all a).2
  | .ite c a b => snd_ite (snd_all c).2 (snd_all a).1 (snd_all b).1 (snd_all a).2 (snd_all b).2
  | .tup es => both_of (snd_tup (snd_alls es).1) fun N sc x h => by simp only [chk, kTup] at h; split at h <;> first | rfl | cases h
  | .lst es => both_of (snd_lst (snd_alls es).1) fun N sc x h => by simp only [chk, kLst] at h; split at h <;> first | rfl | cases h
  | .mut a => ⟨snd_mut (snd_all a).1, sndT_mut (snd_all a).2⟩
  | .dct es => both_of snd_dct fun N sc x h => by
    simp only [chk, kDct] at h
    rw [Bool.and_eq_true] at h
    obtain ⟨h, _⟩ := h
    split at h <;> first | rfl | cases h
  | .idx a i => both_of (snd_idx (snd_all a).1 (snd_all i).1) fun N sc x h => by simp only [chk, kIdx] at h; split at h <;> first | rfl | cases h
  | .slc a lo hi => both_of (snd_slc (snd_all a).1 (snd_all lo).1 (snd_all hi).1) fun N sc x h => by simp only [chk, kSlc] at h; split at h <;> first | rfl | cases h
  | .rev a => both_of (snd_rev (snd_all a).1) fun N sc x h => by simp only [chk, kRev] at h; split at h <;> first | rfl | cases h
  | .fld _ a _ => both_of (snd_fld (snd_all a).1) fun N sc x h => by
    simp only [chk, kFld] at h
    rw [Bool.and_eq_true] at h
    obtain ⟨h, _⟩ := h
    split at h <;> first | rfl | cases h
  | .xnew _ es => both_of (snd_xnew (snd_alls es).1) fun N sc x h => by
    simp only [chk, kCall] at h
    rw [Bool.and_eq_true] at h
    obtain ⟨h, _⟩ := h
    split at h <;> first | rfl | cases h
  | .xfld a _ => both_of (snd_xfld (snd_all a).1) fun N sc x h => by simp only [chk, kFld] at h; split at h <;> first | rfl | cases h
  | .bad => snd_bad
  | .call f es => both_of (snd_call (snd_alls es).1) fun N sc x h => by
    simp only [chk, kCall] at h
    rw [Bool.and_eq_true] at h
    obtain ⟨h, _⟩ := h
    split at h <;> first | rfl | cases h
  | .mth _ a _ es => both_of (snd_mth (snd_all a).1 (snd_alls es).1) fun N sc x h => by
    simp only [chk, kMeth] at h
    rw [Bool.and_eq_true, Bool.and_eq_true] at h
    obtain ⟨⟨h, _⟩, _⟩ := h
    split at h <;> first | rfl | cases h
  | .new _ _ es => both_of (snd_new (snd_alls es).1) fun N sc x h => by
    simp only [chk, kCall] at h
    rw [Bool.and_eq_true] at h
    obtain ⟨h, _⟩ := h
    split at h <;> first | rfl | cases h
  | .bi b es => both_of (snd_bi (snd_alls es).1) fun N sc x h => by
    simp only [chk, kCall] at h
    rw [Bool.and_eq_true, Bool.and_eq_true] at h
    obtain ⟨⟨h, _⟩, _⟩ := h
    split at h <;> first | rfl | cases h
  | .bm m a es => both_of (snd_bm (snd_all a).1 (snd_rcv a) (snd_alls es).1) fun N sc x h => by
    simp only [chk, kMeth] at h
    rw [Bool.and_eq_true, Bool.and_eq_true] at h
    obtain ⟨⟨h, _⟩, _⟩ := h
    split at h <;> first | rfl | cases h
  | .isi a ty => ⟨snd_isi (snd_all a).1, snd_isiT (snd_all a).1⟩
  | .fst es => both_of (snd_fst (snd_alls es).1) fun N sc x h => by simp only [chk, kFst] at h; split at h <;> first | rfl | cases h
  | .lc own g ik its c e => both_of (snd_lc (snd_alls its).1 (snd_all c).2 (snd_all e).1) fun N sc x h => by simp only [chk, kLc] at h; split at h <;> first | rfl | cases h
  | .app a e => both_of (snd_app (snd_all a).1 (snd_all e).1) fun N sc x h => by simp only [chk, kMeth] at h; split at h <;> first | rfl | cases h
  | .ext a e => both_of (snd_ext (snd_all a).1 (snd_all e).1) fun N sc x h => by simp only [chk, kMeth] at h; split at h <;> first | rfl | cases h
  | .pop a => both_of (snd_pop (snd_all a).1) fun N sc x h => by simp only [chk, kMeth] at h; split at h <;> first | rfl | cases h
  | .lens a => both_of (snd_lens (snd_all a).1) fun N sc x h => by simp only [chk, kLens] at h; split at h <;> first | rfl | cases h
  | .popi a i => both_of (snd_popi (snd_all a).1 (snd_all i).1) fun N sc x h => by simp only [chk, kMeth] at h; split at h <;> first | rfl | cases h
theorem snd_rcv : ∀ (a : E) (ts : List E), a = .tup ts → Snds Γ cf P t k ts
  | .tup es, ts, e => by
    have h := (snd_alls es).1
    cases e
    exact h
  | .nul, _, e | .non, _, e | .bl _, _, e | .int _, _, e | .str _, _, e | .var _, _, e | .con _, _, e | .bin _ _ _, _, e | .neg _, _, e | .cmp _ _ _, _, e | .chn _ _ _ _ _, _, e | .chn3 _ _ _ _ _ _ _, _, e
  | .isn _, _, e | .notn _, _, e | .and _, _, e | .or _, _, e | .not _, _, e | .ite _ _ _, _, e | .lst _, _, e | .mut _, _, e | .dct _, _, e | .idx _ _, _, e | .slc _ _ _, _, e | .rev _, _, e | .fld _ _ _, _, e | .xnew _ _, _, e | .xfld _ _, _, e
  | .call _ _, _, e | .mth _ _ _ _, _, e | .new _ _ _, _, e | .bad, _, e | .bi _ _, _, e | .bm _ _ _, _, e | .isi _ _, _, e | .fst _, _, e | .lc _ _ _ _ _ _, _, e | .app _ _, _, e | .ext _ _, _, e | .pop _, _, e | .popi _ _, _, e | .lens _, _, e => by cases e
theorem snd_alls : ∀ es : List E, Snds Γ cf P t k es ∧ SndTs Γ cf P t k es
  | [] => ⟨fun _ h => (List.not_mem_nil h).elim, fun _ h => (List.not_mem_nil h).elim⟩
  | e :: es => by
    have h1 := snd_all e
    have h2 := snd_alls es
    refine ⟨fun x hx => ?_, fun x hx => ?_⟩
    · rcases List.mem_cons.mp hx with q | q
      · subst q; exact h1.1
      · exact h2.1 x q
    · rcases List.mem_cons.mp hx with q | q
      · subst q; exact h1.2
      · exact h2.2 x q
end
end
end Cip

set_option maxHeartbeats 4000000
/-! Cip20: statements: what is wanted; the simple ones. -/
namespace Cip
open PySem PySem.Spec PyProof.Rows L2

/-- what is wanted behind a statement that comes to r -/
def OutS (T : Rz) (W : WX) (φ : Fi) (H : Hp) (r : SR) (D : Ends) : Prop := match r with
  | .nx env st => ∀ φ' H' σ', Rel T φ' H' st → Ext φ H φ' H' → EnvR T φ' H' σ' env → D.nx σ' H'
  | .rt d st => ∀ φ' H' v, Rel T φ' H' st → Ext φ H φ' H' → Rep T.K φ' H' d v → D.rt v H'
  | .ex c fs env st => ∀ φ' H' σ' cls dd, Rel T φ' H' st → Ext φ H φ' H' → EnvR T φ' H' σ' env → XV T φ' H' c fs cls dd → W cls dd σ' H'
  | .stk => False
section
variable {T : Rz} {W : WX} {φ φ' : Fi} {H H' : Hp} {σ : L2.St} {st st' : Store} {env : Env} {D : Ends}
theorem OutS.shift {r : SR} (r0 : Rel T φ H st) (e1 : Ext φ H φ' H') (r1 : Rel T φ' H' st') (h : OutS T W φ H r D) : OutS T W φ' H' r D := by
  cases r with
  | nx env s => exact fun φ2 H2 σ2 r2 e2 E2 => h φ2 H2 σ2 r2 (e1.trans2 e2 r1) E2
  | rt d s => exact fun φ2 H2 v r2 e2 p2 => h φ2 H2 v r2 (e1.trans2 e2 r1) p2
  | ex c fs env s => exact fun φ2 H2 σ2 cls dd r2 e2 E2 x => h φ2 H2 σ2 cls dd r2 (e1.trans2 e2 r1) E2 x
  | stk => exact h
theorem OutS.bind {r : SR} {k : Env → Store → SR} (r0 : Rel T φ H st) (h : OutS T W φ H (r.bind k) D) {N : L2.St → Hp → Prop} (hn : ∀ φ1 H1 σ1 env1 st1, Rel T φ1 H1 st1 → Ext φ H φ1 H1 → EnvR T φ1 H1 σ1 env1 → OutS T W φ1 H1 (k env1 st1) D → N σ1 H1)
    {bk ct : L2.St → Hp → Prop} : OutS T W φ H r { nx := N, rt := D.rt, bk := bk, ct := ct } := by
  cases r with
  | nx env s => exact fun φ2 H2 σ2 r2 e2 E2 => hn φ2 H2 σ2 env s r2 e2 E2 (OutS.shift r0 e2 r2 h)
  | rt d s => exact h
  | ex c fs env s => exact h
  | stk => exact h
theorem OutS.s {α β : Type} {rep : RepT α β} {r : R α} {k : α → Store → SR} (r0 : Rel T φ H st) (E0 : EnvR T φ H σ env) (h : OutS T W φ H (r.s env k) D) :
    OutG T rep W φ H σ r (fun v H1 => ∃ φ1 st1 a, Rel T φ1 H1 st1 ∧ Ext φ H φ1 H1 ∧ rep H φ1 H1 st1 a v ∧ EnvR T φ1 H1 σ env ∧ OutS T W φ1 H1 (k a st1) D) := by
  cases r with
  | stk => exact h
  | ex c fs s => exact fun φ1 H1 cls dd r1 e1 x => h φ1 H1 σ cls dd r1 e1 (E0.ext r0 e1) x
  | ok a s => exact fun φ1 H1 v r1 e1 p1 => ⟨φ1, s, a, r1, e1, p1, E0.ext r0 e1, OutS.shift r0 e1 r1 h⟩
end
structure GoodS (Γ : Tx) (cf : CF) (P : Pn) (t : Nm) (k : Nat) (X : Cx) (W : WX) : Prop extends Good Γ cf P t k X W where
  own : PassesOwn (model X.prog X.w) X.A X.env X.xe
  stk : X.stack = X.env :: X.outer
  frm : X.env.frame = some X.env.locals
  nex : X.ex = []

section
variable {Γ : Tx} {cf : CF} {P : Pn} {t : Nm} {k : Nat}
def tS (Γ : Tx) (cf : CF) (T : Rz) (W : WX) (s : S) : TS := fun D σ H => ∃ φ env st, Rel T φ H st ∧ EnvR T φ H σ env ∧ OutS T W φ H (run Γ cf s env st) D
def tSs (Γ : Tx) (cf : CF) (T : Rz) (W : WX) (ss : List S) : TS := fun D σ H => ∃ φ env st, Rel T φ H st ∧ EnvR T φ H σ env ∧ OutS T W φ H (runs Γ cf ss env st) D
theorem ps_imp {X : Cx} {x : Stmt} {t u : TS} (h : PS X x t) (hi : ∀ D σ H, u D σ H → t D σ H) : PS X x u := ⟨fun pins s σ H D I q => h.run pins s σ H D I (hi D σ H q)⟩
theorem pss_imp {X : Cx} {x : List Stmt} {t u : TS} (h : PSs X x t) (hi : ∀ D σ H, u D σ H → t D σ H) : PSs X x u := ⟨fun pins s σ H D I q => h.run pins s σ H D I (hi D σ H q)⟩
/-- behind an expression, in a statement -/
theorem tI_s {X : Cx} {W : WX} {a : E} {φ : Fi} {H : Hp} {σ : L2.St} {env : Env} {st : Store} {kk : D → Store → SR} {D : Ends} (r : Rel (rz X t) φ H st) (E0 : EnvR (rz X t) φ H σ env) (o : OutS (rz X t) W φ H ((ev Γ cf a env st).s env kk) D) {Q' : V → Hp → Prop}
    (hq : ∀ v H1 φ1 st1 d, Rel (rz X t) φ1 H1 st1 → Ext φ H φ1 H1 → EnvR (rz X t) φ1 H1 σ env → repD (rz X t) a.fresh H φ1 H1 st1 d v → OutS (rz X t) W φ1 H1 (kk d st1) D → Q' v H1) : tI Γ cf (rz X t) W a σ H Q' :=
  ⟨φ, env, st, r, E0, (OutS.s (rep := repD (rz X t) a.fresh) r E0 o).imp fun v H1 ⟨φ1, st1, d, r1, e1, p1, E1, o1⟩ => hq v H1 φ1 st1 d r1 e1 E1 p1 o1⟩
theorem tT_s {X : Cx} {W : WX} {a : E} {φ : Fi} {H : Hp} {σ : L2.St} {env : Env} {st : Store} {kk : Bool → Store → SR} {D : Ends} (r : Rel (rz X t) φ H st) (E0 : EnvR (rz X t) φ H σ env) (o : OutS (rz X t) W φ H ((testR (ev Γ cf a env st)).s env kk) D) {Q' : Bool → Hp → Prop}
    (hq : ∀ b H1 φ1 st1, Rel (rz X t) φ1 H1 st1 → Ext φ H φ1 H1 → EnvR (rz X t) φ1 H1 σ env → OutS (rz X t) W φ1 H1 (kk b st1) D → Q' b H1) : tT Γ cf (rz X t) W a σ H Q' :=
  ⟨φ, env, st, r, E0, (OutS.s (rep := repB) r E0 o).imp fun v H1 ⟨φ1, st1, d, r1, e1, p1, E1, o1⟩ => by
    have : d = v := p1
    subst this
    exact hq d H1 φ1 st1 r1 e1 E1 o1⟩
def SndP (Γ : Tx) (cf : CF) (P : Pn) (t : Nm) (k : Nat) (ck : List Str → Scope → (Str → Bool) → Stmt → Bool) (s : S) : Prop := ∀ (X : Cx) (W : WX) (x : Stmt), GoodS Γ cf P t k X W → ck X.N X.env.scope X.fn x = true → PS X x (tS Γ cf (rz X t) W s)
end

/-! ### statements held against texts -/
def isCmp : Expr → Bool
  | .ListComp _ _ _ _ => true
  | .SetComp _ _ _ _ => true
  | .DictComp _ _ _ _ _ => true
  | _ => false
def isTupX : Expr → Bool
  | .Tuple _ _ _ => true
  | .List _ _ => true
  | _ => false
theorem sw_plain {e : Expr} {tg : Option Expr} {l : Nat} {env : PySem.Env} (h : isCmp e = false) : swapsWith e tg l env = pure false := by
  cases e <;> first | rfl | cases h
theorem sws_plain {e tg : Expr} {l : Nat} {env : PySem.Env} (h : isCmp e = false) : swapsWithSole [tg] e l env = pure false := sw_plain h
theorem sps_plain {e tg : Expr} {env : PySem.Env} (h : (isTupX tg && isTupX e) = false) : swappedStores [tg] e env = pure none := by
  cases tg <;> first | rfl | (cases e <;> first | rfl | cases h)
theorem as_one {tg : Expr} {env : PySem.Env} (h : headOk tg = true) : (assignEach [tg] env).map (·.2) = [assign tg env] := by
  rw [assignEach_head h] <;> rfl
def nmsOf (sc : Scope) (ts : List Expr) : List Str := ts.filterMap fun x => match x with
  | .Name id pos => if sc.names.lookup id == some .local && pos.line == (ts.head?.map (·.pos.line)).getD 0 then some id else none
  | _ => none
theorem sps_none {ts vs : List Expr} {k k2 : Nat} {p p2 : Pos} {env : PySem.Env} (h : (!(ts.length == 2 || ts.length == 3) || vs.length != ts.length || (nmsOf env.scope ts).length != ts.length || vs.all (foldedForSure 8)) = true) :
    swappedStores [.Tuple ts k p] (.Tuple vs k2 p2) env = pure none := by
  unfold swappedStores
  simp only
  have e : (List.filterMap (fun x => match x with
    | Expr.Name id pos => if (env.kindOf id == some NameKind.local && pos.line == (Option.map (fun x => x.pos.line) ts.head?).getD 0) = true then some id else none
    | x => none) ts) = nmsOf env.scope ts := rfl
  by_cases h1 : (!(ts.length == 2 || ts.length == 3) || vs.length != ts.length || env.blockKind != ScopeKind.function) = true
  · rw [if_pos h1]
  · rw [if_neg h1]
    split
    · rfl
    · split
      · rfl
      · rename_i h3
        rw [if_pos]
        simp only [Bool.or_eq_true] at h h1 h3
        rcases h with ((h | h) | h) | h
        · exact absurd (.inl (.inl h)) h1
        · exact absurd (.inl (.inr h)) h1
        · exact absurd (.inl h) h3
        · exact h
theorem bk_fun {env : PySem.Env} (hk : env.scope.kind = .function) : env.blockKind = .function := by unfold Env.blockKind; rw [hk]; rfl
theorem star_no {e : Expr} (h : headOk e = true) : (match e with | .Starred _ _ => true | _ => false) = false := by
  cases e <;> first | rfl | cases h
theorem sps_two {x y : Str} {px py p p2 : Pos} {a b : Expr} {k k2 : Nat} {env : PySem.Env} (hk : env.scope.kind = .function) (hx : env.scope.names.lookup x = some .local) (hy : env.scope.names.lookup y = some .local) (hl : (py.line == px.line) = true) (hxy : (x == y) = false)
    (ha : headOk a = true) (hb : headOk b = true) (hf : ([a, b].all (foldedForSure 8)) = false) (hc : ([a, b].all (constantsAlone 8)) = false) : swappedStores [.Tuple [.Name x px, .Name y py] k p] (.Tuple [a, b] k2 p2) env = pure (some [x, y]) := by
  have kx : env.kindOf x = some .local := hx
  have ky : env.kindOf y = some .local := hy
  have hl' : py.line = px.line := by simpa using hl
  have hyx : (y == x) = false := by rw [BEq.comm]; exact hxy
  unfold swappedStores
  simp only [List.all_cons, List.all_nil, Bool.and_true] at hf hc
  simp [bk_fun hk, kx, ky, hl', Expr.pos, hxy, hyx, hf, hc, List.eraseDups_cons]
  intro h
  exfalso
  rcases h with h | h
  · cases a <;> first | (cases h; done) | (cases ha; done)
  · cases b <;> first | (cases h; done) | (cases hb; done)
theorem sps_three {x y z : Str} {px py pz p p2 : Pos} {a b c : Expr} {k k2 : Nat} {env : PySem.Env} (hk : env.scope.kind = .function) (hx : env.scope.names.lookup x = some .local) (hy : env.scope.names.lookup y = some .local) (hz : env.scope.names.lookup z = some .local)
    (hl : (py.line == px.line) = true) (hl2 : (pz.line == px.line) = true) (hxy : (x == y) = false) (hxz : (x == z) = false) (hyz : (y == z) = false)
    (ha : headOk a = true) (hb : headOk b = true) (hc' : headOk c = true) (hf : ([a, b, c].all (foldedForSure 8)) = false) (hc : ([a, b, c].all (constantsAlone 8)) = false) : swappedStores [.Tuple [.Name x px, .Name y py, .Name z pz] k p] (.Tuple [a, b, c] k2 p2) env = pure (some [x, y, z]) := by
  have kx : env.kindOf x = some .local := hx
  have ky : env.kindOf y = some .local := hy
  have kz : env.kindOf z = some .local := hz
  have hl' : py.line = px.line := by simpa using hl
  have hl2' : pz.line = px.line := by simpa using hl2
  have hyx : (y == x) = false := by rw [BEq.comm]; exact hxy
  have hzx : (z == x) = false := by rw [BEq.comm]; exact hxz
  have hzy : (z == y) = false := by rw [BEq.comm]; exact hyz
  unfold swappedStores
  simp only [List.all_cons, List.all_nil, Bool.and_true] at hf hc
  simp [bk_fun hk, kx, ky, kz, hl', hl2', Expr.pos, hxy, hyx, hxz, hzx, hyz, hzy, hf, hc, List.eraseDups_cons]
  intro h
  exfalso
  rcases h with h | h | h
  · cases a <;> first | (cases h; done) | (cases ha; done)
  · cases b <;> first | (cases h; done) | (cases hb; done)
  · cases c <;> first | (cases h; done) | (cases hc'; done)
theorem sw_false {elt : Expr} {gs : List Comprehension} {scope : Scope} {pos py : Pos} {y : Str} {l : Nat} {env : PySem.Env} (hk : env.scope.kind = .function)
    (h : ((env.scope.names.lookup y == some .local) && (py.line == pos.line) && !(scope.names.any fun (n, k) => n == y && (k == .local || k == .cell))) = false) : swapsWith (.ListComp elt gs scope pos) (some (.Name y py)) l env = pure false := by
  have e : env.kindOf y = env.scope.names.lookup y := rfl
  unfold swapsWith
  simp only [bk_fun hk, e, Expr.pos]
  have : ((ScopeKind.function == ScopeKind.function) && (env.scope.names.lookup y == some NameKind.local) && (py.line == pos.line) && !(scope.names.any fun (n, k) => n == y && (k == .local || k == .cell))) = false := by
    rw [show (ScopeKind.function == ScopeKind.function) = true from rfl, Bool.true_and]
    exact h
  exact congrArg pure this

/-! ### matchers -/
def swB (sc s : Scope) (n : Str) (q p : Pos) : Bool := (sc.names.lookup n == some .local) && (q.line == p.line) && !(s.names.any fun (m, k) => m == n && (k == .local || k == .cell))
def E.lcB : E → Bool
  | .lc _ _ _ _ _ _ => true
  | .mut (.lc _ _ _ _ _ _) => true
  | _ => false
def kPlain (N : List Str) (sc : Scope) (fn : Str → Bool) (t : Tg) (tg y : Expr) : Bool := !isCmp y && !(isTupX tg && isTupX y) && headOk tg && chkT N sc fn t tg
def kLcSw (N : List Str) (sc : Scope) (t : Tg) (e : E) (tg y : Expr) : Bool := match tg, y, t with
  | .Name n q, .ListComp _ [⟨_, _, _, 0⟩] s p, .nm i => swB sc s n q p && decide (N[i]? = some n) && e.lcB
  | _, _, _ => false
def kLcPl (N : List Str) (sc : Scope) (fn : Str → Bool) (t : Tg) (tg y : Expr) : Bool := match tg, y with
  | .Name n q, .ListComp _ _ s p => !swB sc s n q p && chkT N sc fn t (.Name n q)
  | .Tuple ts k r, .ListComp _ _ _ _ => chkT N sc fn t (.Tuple ts k r)
  | _, _ => false
def kTupPl (N : List Str) (sc : Scope) (fn : Str → Bool) (t : Tg) (tg y : Expr) : Bool := match tg, y with
  | .Tuple ts k r, .Tuple vs _ _ => (!(ts.length == 2 || ts.length == 3) || vs.length != ts.length || (nmsOf sc ts).length != ts.length || vs.all (foldedForSure 8)) && chkT N sc fn t (.Tuple ts k r)
  | _, _ => false
def kPar2 (N : List Str) (sc : Scope) (t : Tg) (e : E) (tg y : Expr) : Bool := match t, tg, e, y with
  | .tup [.nm i, .nm j], .Tuple [.Name x px, .Name z pz] _ _, .tup [_, _], .Tuple [u, v] _ _ =>
    decide (N[i]? = some x) && decide (N[j]? = some z) && i != j && kindB sc x .local && kindB sc z .local && (pz.line == px.line) && !(x == z) && !([u, v].all (foldedForSure 8)) && !([u, v].all (constantsAlone 8))
  | _, _, _, _ => false
def kPar3 (N : List Str) (sc : Scope) (t : Tg) (e : E) (tg y : Expr) : Bool := match t, tg, e, y with
  | .tup [.nm i, .nm j, .nm l], .Tuple [.Name x px, .Name z pz, .Name w pw] _ _, .tup [_, _, _], .Tuple [u, v, r] _ _ =>
    decide (N[i]? = some x) && decide (N[j]? = some z) && decide (N[l]? = some w) && i != j && i != l && j != l && kindB sc x .local && kindB sc z .local && kindB sc w .local && (pz.line == px.line) && (pw.line == px.line) && !(x == z) && !(x == w) && !(z == w) && !([u, v, r].all (foldedForSure 8)) && !([u, v, r].all (constantsAlone 8))
  | _, _, _, _ => false
def kAsg (N : List Str) (sc : Scope) (fn : Str → Bool) (t : Tg) (e : E) (ck : CkE) : Stmt → Bool := fun x => match x with
  | .Assign [tg] y _ => ck y && (kPlain N sc fn t tg y || kLcSw N sc t e tg y || kLcPl N sc fn t tg y || kTupPl N sc fn t tg y || kPar2 N sc t e tg y || kPar3 N sc t e tg y)
  | _ => false
def kSub (ca ci ce : CkE) : Stmt → Bool := fun x => match x with
  | .Assign [.Subscript a i _] y _ => !isCmp y && ca a && ci i && ce y
  | _ => false
def kIfS (c : CkE) (a b : List Stmt → Bool) : Stmt → Bool := fun x => match x with
  | .If y u v _ => c y && a u && b v
  | _ => false
def kForS (tg it : CkE) (b : List Stmt → Bool) : Stmt → Bool := fun x => match x with
  | .For g i u [] _ => tg g && it i && b u
  | _ => false
def kWhl (c : CkE) (b : List Stmt → Bool) : Stmt → Bool := fun x => match x with
  | .While y u [] _ => c y && b u
  | _ => false
def kRet (nul : Bool) (c : CkE) : Stmt → Bool := fun x => match x with
  | .Return (some y) _ => c y
  | .Return none _ => nul
  | _ => false
def kExp (c : CkE) : Stmt → Bool := fun x => match x with
  | .Expr y _ => !isCmp y && c y
  | _ => false
def kPass : Stmt → Bool := fun x => match x with
  | .Pass _ => true
  | _ => false
def kConsS (a : Stmt → Bool) (b : List Stmt → Bool) : List Stmt → Bool := fun xs => match xs with
  | x :: xs => a x && b xs
  | [] => false
def E.nonB : E → Bool
  | .non => true
  | _ => false
def BOp.augB : BOp → Bool
  | .add => true
  | .sub => true
  | _ => false
def kSfld (f : Str) (ca ce : CkE) : Stmt → Bool := fun x => match x with
  | .Assign [.Attribute a g _] y _ => decide (f = g) && !isCmp y && ca a && ce y
  | _ => false
def kAug (N : List Str) (sc : Scope) (fn : Str → Bool) (i : Nat) (o : BOp) (ce : CkE) : Stmt → Bool := fun x => match x with
  | .AugAssign (.Name n _) op y _ => decide (o.py = op) && decide (N[i]? = some n) && kindB sc n .local && ce y
  | _ => false
def kAugf (f : Str) (o : BOp) (ca ce : CkE) : Stmt → Bool := fun x => match x with
  | .AugAssign (.Attribute a g _) op y _ => decide (f = g) && decide (o.py = op) && ca a && ce y
  | _ => false
/-- raise C(e, ..) -/
def kRaise (as : CkE) : Stmt → Bool := fun x => match x with
  | .Raise (some y) none _ => as y
  | _ => false
/-- try: .. except C as e: x = e -/
def kTri (N : List Str) (sc : Scope) (n : Str) (i j : Nat) (b : List Stmt → Bool) : Stmt → Bool := fun x => match x with
  | .Try u [.ExceptHandler (some (.Name c _)) (some e) [.Assign [.Name m _] (.Name e' _) _] _] [] [] _ =>
    b u && decide (n = c) && glB sc c && decide (N[i]? = some e) && decide (N[j]? = some m) && kindB sc e .local && kindB sc m .local && decide (e = e') && nm0 e
  | _ => false
mutual
def chkS (P : Pn) (N : List Str) : S → Scope → (Str → Bool) → Stmt → Bool
  | .asg t e, sc, fn, x => kAsg N sc fn t e (chk P N e sc) x
  | .ssub a i e, sc, _, x => kSub (chk P N a sc) (chk P N i sc) (chk P N e sc) x
  | .ite c a b, sc, fn, x => kIfS (chk P N c sc) (chkSs P N a sc fn) (chkSs P N b sc fn) x
  | .for t k its body, sc, fn, x => kForS (chkT N sc fn t) (kIt sc k t.isTup its.length (chks P N its sc)) (chkSs P N body sc fn) x
  | .whl c body, sc, fn, x => kWhl (chk P N c sc) (chkSs P N body sc fn) x
  | .ret e, sc, _, x => kRet e.nonB (chk P N e sc) x
  | .exp e, sc, _, x => kExp (chk P N e sc) x
  | .pass, _, _, x => kPass x
  | .sfld c a f e, sc, _, x => kSfld (P.fld f) (chk P N a sc) (chk P N e sc) x && P.hasF c f
  | .aug i o e, sc, fn, x => kAug N sc fn i o (chk P N e sc) x && o.augB
  | .augf c a f o e, sc, _, x => kAugf (P.fld f) o (chk P N a sc) (chk P N e sc) x && P.hasF c f && o.augB
  | .bad, _, _, _ => true
  | .raise c es, sc, _, x => kRaise (kCall sc (P.cls c) (chks P N es sc)) x && P.xar c es.length
  | .tri body c i j, sc, fn, x => kTri N sc (P.cls c) i j (chkSs P N body sc fn) x && P.hasX c
def chkSs (P : Pn) (N : List Str) : List S → Scope → (Str → Bool) → List Stmt → Bool
  | [], _, _, xs => xs.isEmpty
  | s :: ss, sc, fn, xs => kConsS (chkS P N s sc fn) (chkSs P N ss sc fn) xs
end
end Cip

set_option maxHeartbeats 4000000
/-! Cip21: statements. -/
namespace Cip
open PySem PySem.Spec PyProof.Rows L2

section
variable {Γ : Tx} {cf : CF} {P : Pn} {t : Nm} {k : Nat}
theorem not_tt {b : Bool} (h : (!b) = true) : b = false := by
  cases b with
  | false => rfl
  | true => cases h
theorem ps_kind {X : Cx} {x : Stmt} {u : TS} (h : X.env.scope.kind = .function → PS X x u) : PS X x u := ⟨fun pins s σ H D I q => (h I.ok.kind).run pins s σ H D I q⟩
theorem asg_pl {g : Tg} {e : E} (he : Snd Γ cf P t k e) {X : Cx} {W : WX} {tg y : Expr} {pos : Pos} (G : GoodS Γ cf P t k X W) (hc : chk P X.N e X.env.scope y = true) (hsw : swapsWithSole [tg] y pos.line X.env = pure false) (hw : swappedStores [tg] y X.env = pure none) (hh : headOk tg = true)
    (hT : chkT X.N X.env.scope X.fn g tg = true) : PS X (.Assign [tg] y pos) (tS Γ cf (rz X t) W (.asg g e)) := by
  refine ps_imp (ps_asg (he X W y G.toGood hc).1 (pg_tg (t := t) G.calm G.nd g tg hT) hsw hw (as_one hh)) fun D σ H ⟨φ, env, st, r, E, o⟩ => ?_
  simp only [run] at o
  refine tI_s r E o fun v H1 φ1 st1 d r1 e1 E1 p1 o1 => ?_
  cases q : asgT st1 g d env with
  | none => rw [q] at o1; exact o1.elim
  | some env' =>
    rw [q] at o1
    exact ⟨φ1, env, st1, d, env', r1, E1, p1.1, q, fun σ' E' _ => o1 φ1 H1 σ' r1 .refl E'⟩
theorem tI_mut {a : E} (hf : a.fresh = true) {X : Cx} {W : WX} {σ : L2.St} {H : Hp} {Q : VK} (h : tI Γ cf (rz X t) W (.mut a) σ H Q) : tI Γ cf (rz X t) W a σ H Q := by
  obtain ⟨φ, env, st, r, E, o⟩ := h
  refine ⟨φ, env, st, r, E, ?_⟩
  simp only [ev] at o
  cases q : ev Γ cf a env st with
  | stk => rw [q] at o; exact o
  | ex c fs s => rw [q] at o; exact o
  | ok d st1 =>
    rw [q] at o
    intro φ1 H1 v r1 e1 p1
    cases d with
    | lst ds =>
      obtain ⟨p, Hb, ob, rfl, rfl, hb, h0, rb, vs, rfl, hz, hr⟩ := p1.2 hf rfl
      have hx : Ext φ1 Hb (φ1.push p) (upd Hb p (.lst vs)) := ext_push hb
      obtain ⟨rp, _⟩ := rel_push (m := .lst ds) rb hb ⟨vs, upd_same, hz, rb.reps hx hr⟩
      exact o (φ1.push p) _ (.ref p) rp (ext_join r e1 h0 rb hb) (.no ⟨p, push_at rb, rfl⟩ rfl)
    | dct ks ws =>
      obtain ⟨p, Hb, ob, rfl, rfl, hb, h0, rb, kvs, rfl, hz, hr⟩ := p1.2 hf rfl
      have hx : Ext φ1 Hb (φ1.push p) (upd Hb p (.dK kvs)) := ext_push hb
      obtain ⟨rp, _⟩ := rel_push (m := .dct false ks ws) rb hb ⟨kvs, by simp only [Bool.false_eq_true, if_false]; exact upd_same, hz, rb.reps hx hr⟩
      exact o (φ1.push p) _ (.ref p) rp (ext_join r e1 h0 rb hb) (.no ⟨p, push_at rb, rfl⟩ rfl)
    | _ => exact o.elim
theorem asg_lc {own : List Nat} {g : Tg} {ik : IK} {its : List E} {c e : E} {i : Nat} {X : Cx} {W : WX} {elt tgt iter : Expr} {ifs : List Expr} {scope : Scope} {p q pos : Pos} {n : Str} {e0 : E} (h0 : e0 = .lc own g ik its c e ∨ e0 = .mut (.lc own g ik its c e)) (G : GoodS Γ cf P t k X W)
    (h : chk P X.N e0 X.env.scope (.ListComp elt [⟨tgt, iter, ifs, 0⟩] scope p) = true) (hi : X.N[i]? = some n) (hs : swB X.env.scope scope n q p = true) :
    PS X (.Assign [.Name n q] (.ListComp elt [⟨tgt, iter, ifs, 0⟩] scope p) pos) (tS Γ cf (rz X t) W (.asg (.nm i) e0)) := by
  refine ps_kind fun hk => ?_
  unfold swB at hs
  rw [Bool.and_eq_true, Bool.and_eq_true] at hs
  obtain ⟨⟨h1, h2⟩, h3⟩ := hs
  have h1 : X.env.scope.names.lookup n = some .local := by simpa using h1
  have hsw := sw_true (elt := elt) (gs := [⟨tgt, iter, ifs, 0⟩]) (l := pos.line) hk h1 h2 (by simpa using h3)
  have hlc : chk P X.N (.lc own g ik its c e) X.env.scope (.ListComp elt [⟨tgt, iter, ifs, 0⟩] scope p) = true := by
    rcases h0 with h0 | h0
    · subst h0; exact h
    · subst h0
      simp only [chk] at h ⊢
      exact (Bool.and_eq_true_iff.mp h).1
  obtain ⟨te, _, hte, hps⟩ := lc_parts (snd_alls its).1 (snd_all c).2 (snd_all e).1 G.toGood hlc
  refine ps_imp (hps i n q pos hi h1 hsw) fun D σ H ⟨φ, env, st, r, E, o⟩ => hte _ _ _ ?_
  simp only [run] at o
  have key : tI Γ cf (rz X t) W e0 σ H fun x H1 => gName i x σ H1 D.nx := tI_s r E o fun v H1 φ1 st1 d r1 e1 E1 p1 o1 => o1 φ1 H1 _ r1 .refl (E1.set p1.1)
  rcases h0 with h0 | h0
  · subst h0; exact key
  · subst h0; exact tI_mut rfl key
theorem snd_asg {g : Tg} {e : E} : SndP Γ cf P t k (fun N sc fn x => kAsg N sc fn g e (chk P N e sc) x) (.asg g e) := by
  intro X W x G h
  have he := (snd_all (Γ := Γ) (cf := cf) (P := P) (t := t) (k := k) e).1
  simp only [kAsg] at h
  split at h
  · rename_i tg y pos
    rw [Bool.and_eq_true] at h
    obtain ⟨hc, h⟩ := h
    simp only [Bool.or_eq_true] at h
    rcases h with ((((h | h) | h) | h) | h) | h
    · unfold kPlain at h
      simp only [Bool.and_eq_true] at h
      obtain ⟨⟨⟨h1, h2⟩, h3⟩, h4⟩ := h
      exact asg_pl he G hc (sws_plain (by simpa using h1)) (sps_plain (not_tt h2)) h3 h4
    · unfold kLcSw at h
      split at h
      · rename_i n q elt tgt iter ifs s p i
        simp only [Bool.and_eq_true] at h
        obtain ⟨⟨h1, h2⟩, h3⟩ := h
        unfold E.lcB at h3
        split at h3
        · exact asg_lc (.inl rfl) G hc (of_decide_eq_true h2) h1
        · exact asg_lc (.inr rfl) G hc (of_decide_eq_true h2) h1
        · cases h3
      · cases h
    · unfold kLcPl at h
      split at h
      · rename_i n q elt gs s p
        rw [Bool.and_eq_true] at h
        exact ps_kind fun hk => asg_pl he G hc (sw_false (l := pos.line) hk (not_tt h.1)) rfl rfl h.2
      · exact asg_pl he G hc rfl rfl rfl h
      · cases h
    · unfold kTupPl at h
      split at h
      · rw [Bool.and_eq_true] at h
        exact asg_pl he G hc rfl (sps_none h.1) rfl h.2
      · cases h
    · unfold kPar2 at h
      split at h
      · rename_i i j x px z pz k1 p1 a b u v k2 p2
        simp only [Bool.and_eq_true] at h
        obtain ⟨⟨⟨⟨⟨⟨⟨⟨h1, h2⟩, h3⟩, h4⟩, h5⟩, h6⟩, h7⟩, h8⟩, h9⟩ := h
        simp only [chk, kTup] at hc
        obtain ⟨hp, hns⟩ := snd_args [a, b] (snd_alls [a, b]).1 X W [u, v] G.toGood hc
        have hu := Bool.and_eq_true_iff.mp (show (headOk u && noStars [v]) = true from hns)
        have hv : headOk v = true := (Bool.and_eq_true_iff.mp (show (headOk v && noStars []) = true from hu.2)).1
        refine ps_kind fun hk => ?_
        have hsp := sps_two (p := p1) (p2 := p2) (k := k1) (k2 := k2) hk (kindB_ok h4) (kindB_ok h5) h6 (by simpa using h7) hu.1 hv (not_tt h8) (not_tt h9)
        refine ps_imp (ps_par G.calm G.nd (of_decide_eq_true h1) (of_decide_eq_true h2) (by simpa using h3) (kindB_ok h4) (kindB_ok h5) hp hsp) fun D σ H ⟨φ, env, st, r, E, o⟩ => ?_
        simp only [run, ev] at o
        have o2 : OutS (rz X t) W φ H ((evs Γ cf [a, b] env st).s env fun ds st => match asgT st (.tup [.nm i, .nm j]) (.tup ds) env with
          | some env => .nx env st
          | none => .stk) D := by
          revert o
          cases evs Γ cf [a, b] env st with
          | stk => exact id
          | ex _ _ _ => exact id
          | ok ds st1 =>
            intro o
            simp only [R.bind, R.s] at o ⊢
            by_cases hz : ds.length ≤ sizeLine
            · rw [if_pos hz] at o; exact o
            · rw [if_neg hz] at o; exact o.elim
        refine ⟨φ, env, st, r, E, (OutS.s (rep := repS (rz X t)) r E o2).imp fun vs H1 ⟨φ1, st1, ds, r1, e1, p1, E1, o1⟩ => ?_⟩
        match ds, p1, o1 with
        | [d, d'], p1, o1 =>
          obtain ⟨w, w', rfl, hd, hd'⟩ := reps2 (T := rz X t) p1
          exact ⟨w, w', rfl, o1 φ1 H1 _ r1 .refl ((E1.set hd).set hd')⟩
        | [], _, o1 => exact o1.elim
        | [_], _, o1 => exact o1.elim
        | _ :: _ :: _ :: _, _, o1 => exact absurd o1 (by simp [asgT, OutS])
      · cases h
    · unfold kPar3 at h
      split at h
      · rename_i i j l x px z pz w pw k1 p1 a b c u v r k2 p2
        simp only [Bool.and_eq_true] at h
        obtain ⟨⟨⟨⟨⟨⟨⟨⟨⟨⟨⟨⟨⟨⟨⟨h1, h2⟩, h2'⟩, h3⟩, h3'⟩, h3''⟩, h4⟩, h5⟩, h5'⟩, h6⟩, h6'⟩, h7⟩, h7'⟩, h7''⟩, h8⟩, h9⟩ := h
        simp only [chk, kTup] at hc
        obtain ⟨hp, hns⟩ := snd_args [a, b, c] (snd_alls [a, b, c]).1 X W [u, v, r] G.toGood hc
        have hu := Bool.and_eq_true_iff.mp (show (headOk u && noStars [v, r]) = true from hns)
        have hv := Bool.and_eq_true_iff.mp (show (headOk v && noStars [r]) = true from hu.2)
        have hr : headOk r = true := (Bool.and_eq_true_iff.mp (show (headOk r && noStars []) = true from hv.2)).1
        refine ps_kind fun hk => ?_
        have hsp := sps_three (p := p1) (p2 := p2) (k := k1) (k2 := k2) hk (kindB_ok h4) (kindB_ok h5) (kindB_ok h5') h6 h6' (by simpa using h7) (by simpa using h7') (by simpa using h7'') hu.1 hv.1 hr (not_tt h8) (not_tt h9)
        refine ps_imp (ps_par3 G.calm G.nd (of_decide_eq_true h1) (of_decide_eq_true h2) (of_decide_eq_true h2') (by simpa using h3) (by simpa using h3') (by simpa using h3'') (kindB_ok h4) (kindB_ok h5) (kindB_ok h5') hp hsp) fun D σ H ⟨φ, env, st, r, E, o⟩ => ?_
        simp only [run, ev] at o
        have o2 : OutS (rz X t) W φ H ((evs Γ cf [a, b, c] env st).s env fun ds st => match asgT st (.tup [.nm i, .nm j, .nm l]) (.tup ds) env with
          | some env => .nx env st
          | none => .stk) D := by
          revert o
          cases evs Γ cf [a, b, c] env st with
          | stk => exact id
          | ex _ _ _ => exact id
          | ok ds st1 =>
            intro o
            simp only [R.bind, R.s] at o ⊢
            by_cases hz : ds.length ≤ sizeLine
            · rw [if_pos hz] at o; exact o
            · rw [if_neg hz] at o; exact o.elim
        refine ⟨φ, env, st, r, E, (OutS.s (rep := repS (rz X t)) r E o2).imp fun vs H1 ⟨φ1, st1, ds, r1, e1, p1, E1, o1⟩ => ?_⟩
        match ds, p1, o1 with
        | [d, d', d''], p1, o1 =>
          obtain ⟨w, ws, rfl, hd, p2⟩ := p1
          obtain ⟨w', w'', rfl, hd', hd''⟩ := reps2 (T := rz X t) p2
          exact ⟨w, w', w'', rfl, o1 φ1 H1 _ r1 .refl (((E1.set hd).set hd').set hd'')⟩
        | [], _, o1 => exact o1.elim
        | [_], _, o1 => exact o1.elim
        | [_, _], _, o1 => exact o1.elim
        | _ :: _ :: _ :: _ :: _, _, o1 => exact absurd o1 (by simp [asgT, OutS])
      · cases h
  · cases h
end
end Cip

set_option maxHeartbeats 4000000
/-! Cip21b: fields that are written, op=, what is never reached. -/
namespace Cip
open PySem PySem.Spec PyProof.Rows L2

section
variable {Γ : Tx} {cf : CF} {P : Pn} {t : Nm} {k : Nat}
theorem snd_badS : SndP Γ cf P t k (fun _ _ _ _ => true) .bad := by
  intro X W x G h
  refine ⟨fun pins s σ H D I ⟨φ, env, st, r, E, o⟩ => ?_⟩
  simp only [run] at o
  exact o.elim
/-- op=, by values -/
def rAg (o : BOp) : V → V → Hp → VK → Prop := fun x y H Q => ∃ d e r, (∀ φ H, ∀ K, Rep K φ H d x → True) ∧ (x = (match d with | .int i => V.int i | .str z => V.str z | _ => V.non)) ∧ (y = (match e with | .int i => V.int i | .str z => V.str z | _ => V.non)) ∧ augD o d e = some r ∧ Q (match r with | .int i => V.int i | .str z => V.str z | _ => V.non) H
theorem in_aug {X : Cx} {o : BOp} : InOp X o.py (rAg o) := by
  intro pins s σ H x y u v Q I rx ry ⟨d, e, r, _, hx, hy, ha, q⟩
  unfold augD at ha
  split at ha
  · cases ha
    subst hx hy
    exact in_add pins s σ H _ _ u v Q I rx ry ⟨_, _, rfl, rfl, q⟩
  · cases ha
    subst hx hy
    exact in_sub pins s σ H _ _ u v Q I rx ry ⟨_, _, rfl, rfl, q⟩
  · split at ha
    · rename_i hz
      cases ha
      subst hx hy
      exact in_addS pins s σ H _ _ u v Q I rx ry ⟨_, _, rfl, rfl, hz, q⟩
    · cases ha
  · cases ha
theorem aug_ok {o : BOp} {K : PySem.W.Frag} {φ φ' : Fi} {H H' : Hp} {d e r : D} {v w : V} (hd : Rep K φ H d v) (he : Rep K φ' H' e w) (ha : augD o d e = some r) {Q : VK} (q : ∀ u, (∀ K φ H, Rep K φ H r u) → Q u H') : rAg o v w H' Q := by
  refine ⟨d, e, r, fun _ _ _ _ => trivial, ?_, ?_, ha, q _ ?_⟩
  · unfold augD at ha
    split at ha
    · exact hd
    · exact hd
    · exact hd.1
    · cases ha
  · unfold augD at ha
    split at ha
    · exact he
    · exact he
    · exact he.1
    · cases ha
  · intro K φ H
    unfold augD at ha
    split at ha
    · cases ha; rfl
    · cases ha; rfl
    · split at ha
      · rename_i hz
        cases ha
        exact ⟨rfl, by rw [show ∀ (a b : Str), (a ++ b).length = a.length + b.length from fun a b => Str.length_append a b]; exact hz⟩
      · cases ha
    · cases ha
theorem snd_aug {i : Nat} {o : BOp} {e : E} : SndP Γ cf P t k (fun N sc fn x => kAug N sc fn i o (chk P N e sc) x && o.augB) (.aug i o e) := by
  intro X W x G h
  rw [Bool.and_eq_true] at h
  obtain ⟨h, hB⟩ := h
  unfold kAug at h
  split at h
  · rename_i n pn op y pos
    simp only [Bool.and_eq_true] at h
    obtain ⟨⟨⟨h1, h2⟩, h3⟩, h4⟩ := h
    have h1 := of_decide_eq_true h1
    subst h1
    have hn := of_decide_eq_true h2
    refine ps_imp (ps_aug (ti := rAg o) G.nd hn (.inl (kindB_ok h3)) ((snd_all (Γ := Γ) (cf := cf) (P := P) (t := t) (k := k) e).1 X W y G.toGood h4).1 in_aug (.inr (kindB_ok h3))) fun D σ H ⟨φ, env, st, r, E, ou⟩ => ?_
    simp only [run] at ou
    split at ou
    · rename_i x0 hx0
      obtain ⟨v, hv, hrep⟩ := E.get i x0 hx0
      refine ⟨v, hv, tI_s r E ou fun w H1 φ1 st1 d r1 e1 E1 p1 o1 => ?_⟩
      cases q : augD o x0 d with
      | none => rw [q] at o1; exact o1.elim
      | some rr =>
        rw [q] at o1
        exact aug_ok (r.rep e1 hrep) p1.1 q fun u hu => o1 φ1 H1 _ r1 .refl (E1.set (hu _ _ _))
    · exact ou.elim
  · cases h
theorem snd_sfld {c : Nat} {a : E} {f : Nat} {e : E} : SndP Γ cf P t k (fun N sc _ x => kSfld (P.fld f) (chk P N a sc) (chk P N e sc) x && P.hasF c f) (.sfld c a f e) := by
  intro X W x G h
  rw [Bool.and_eq_true] at h
  obtain ⟨h, hF⟩ := h
  unfold kSfld at h
  split at h
  · rename_i y g ap z pos
    simp only [Bool.and_eq_true] at h
    obtain ⟨⟨⟨h1, h2⟩, h3⟩, h4⟩ := h
    have h1 := of_decide_eq_true h1
    subst h1
    obtain ⟨hc, hn, hf⟩ := G.top.nm.fld c f hF
    have ha := ((snd_all (Γ := Γ) (cf := cf) (P := P) (t := t) (k := k) a).1 X W y G.toGood h3).1
    have he := ((snd_all (Γ := Γ) (cf := cf) (P := P) (t := t) (k := k) e).1 X W z G.toGood h4).1
    refine ps_imp (ps_fld ha he (sw_plain (not_tt h2))) fun D σ H ⟨φ, env, st, r, E, o⟩ => ?_
    simp only [run] at o
    refine tI_s r E o fun v H1 φ1 st1 d r1 e1 E1 p1 o1 => tI_s r1 E1 o1 fun w H2 φ2 st2 x r2 e2 E2 p2 o2 => ?_
    split at o2
    · rename_i kk
      split at o2
      · rename_i c' fs hk
        split at o2
        · rename_i hcc
          obtain ⟨rfl, hz⟩ := hcc
          obtain ⟨l, h5, rfl⟩ := p2.1
          obtain ⟨b, h6, dx, gs, h7, h8, h9⟩ := r2.at_ _ _ hk
          rw [h5] at h6; cases h6
          have hm : l ∈ φ2.ref := List.mem_of_getElem? h5
          have ex : Ext φ2 H2 φ2 (upd H2 l (.ins (t.cls c') dx (putF (t.fnm f) v gs))) := ext_set hm
          obtain ⟨q1, q2⟩ := fld_set (K := X.K) (φ := φ2) (H := upd H2 l (.ins (t.cls c') dx (putF (t.fnm f) v gs))) (f := f) (d := d) (v := v) G.top.nm.inj (r2.rep ex (r1.rep e2 p1.1)) h8 (r2.reps ex h9)
          refine ⟨l, t.cls c', dx, gs, rfl, h7, hc, by rw [← hf]; exact hn, by rw [fld_len (t := t) h8]; omega, ?_⟩
          rw [← hf]
          exact o2 φ2 _ σ (r2.put h5 ⟨dx, _, upd_same, q1, q2⟩) ex (E2.ext r2 ex)
        · exact o2.elim
      · exact o2.elim
    · exact o2.elim
  · cases h
theorem snd_augf {c : Nat} {a : E} {f : Nat} {o : BOp} {e : E} : SndP Γ cf P t k (fun N sc _ x => kAugf (P.fld f) o (chk P N a sc) (chk P N e sc) x && P.hasF c f && o.augB) (.augf c a f o e) := by
  intro X W x G h
  rw [Bool.and_eq_true, Bool.and_eq_true] at h
  obtain ⟨⟨h, hF⟩, hB⟩ := h
  unfold kAugf at h
  split at h
  · rename_i y g ap op z pos
    simp only [Bool.and_eq_true] at h
    obtain ⟨⟨⟨h1, h2⟩, h3⟩, h4⟩ := h
    have h1 := of_decide_eq_true h1
    subst h1
    have h2 := of_decide_eq_true h2
    subst h2
    obtain ⟨hc, hn, hf⟩ := G.top.nm.fld c f hF
    have ha := ((snd_all (Γ := Γ) (cf := cf) (P := P) (t := t) (k := k) a).1 X W y G.toGood h3).1
    have he := ((snd_all (Γ := Γ) (cf := cf) (P := P) (t := t) (k := k) e).1 X W z G.toGood h4).1
    refine ps_imp (ps_fldaug (rd := rAg o) ha he in_aug) fun D σ H ⟨φ, env, st, r, E, ou⟩ => ?_
    simp only [run] at ou
    refine tI_s r E ou fun v H1 φ1 st1 d r1 e1 E1 p1 o1 => ?_
    split at o1
    · rename_i kk
      split at o1
      · rename_i c' fs hk
        split at o1
        · rename_i hcc
          subst hcc
          obtain ⟨l, h5, rfl⟩ := p1.1
          obtain ⟨b, h6, dx, gs, h7, h8, h9⟩ := r1.at_ _ _ hk
          rw [h5] at h6; cases h6
          cases q : fs.lookup f with
          | none => rw [q] at o1; exact o1.elim
          | some x0 =>
            rw [q] at o1
            obtain ⟨w0, h10, h11⟩ := fld_at (K := X.K) (φ := φ1) (H := H1) G.top.nm.inj h8 h9 q
            refine ⟨l, t.cls c', dx, gs, w0, rfl, h7, hc, by rw [← hf]; exact hn, by rw [← hf]; exact h10, tI_s r1 E1 o1 fun w H2 φ2 st2 d2 r2 e2 E2 p2 o2 => ?_⟩
            cases q2 : augD o x0 d2 with
            | none => rw [q2] at o2; exact o2.elim
            | some rr =>
              rw [q2] at o2
              refine aug_ok (r1.rep e2 h11) p2.1 q2 fun u hu => ?_
              cases hk' : st2[kk]? with
              | none => rw [hk'] at o2; exact o2.elim
              | some mo =>
              rw [hk'] at o2
              cases mo with
              | lst _ => exact o2.elim
              | dct _ _ _ => exact o2.elim
              | exc _ _ => exact o2.elim
              | ins c'' fs' =>
                simp only at o2
                by_cases hcc : c'' = c' ∧ fs'.length < 900
                · rw [if_pos hcc] at o2
                  obtain ⟨rfl, hz⟩ := hcc
                  obtain ⟨b, h12, dx', gs', h13, h14, h15⟩ := r2.at_ _ _ hk'
                  obtain ⟨l', h16, h17⟩ := r1.rep e2 (show Rep X.K φ1 H1 (.ref kk) (.ref l) from ⟨l, h5, rfl⟩)
                  cases h17
                  rw [h16] at h12; cases h12
                  have hm : l ∈ φ2.ref := List.mem_of_getElem? h16
                  have ex : Ext φ2 H2 φ2 (upd H2 l (.ins (t.cls c'') dx' (putF (t.fnm f) u gs'))) := ext_set hm
                  obtain ⟨q3, q4⟩ := fld_set (K := X.K) (φ := φ2) (H := upd H2 l (.ins (t.cls c'') dx' (putF (t.fnm f) u gs'))) (f := f) (d := rr) (v := u) G.top.nm.inj (hu _ _ _) h14 (r2.reps ex h15)
                  refine ⟨dx', gs', h13, by rw [fld_len (t := t) h14]; omega, ?_⟩
                  rw [← hf]
                  exact o2 φ2 _ σ (r2.put h16 ⟨dx', _, upd_same, q3, q4⟩) ex (E2.ext r2 ex)
                · rw [if_neg hcc] at o2
                  exact o2.elim
        · exact o1.elim
      · exact o1.elim
    · exact o1.elim
  · cases h
end
end Cip

set_option maxHeartbeats 4000000
/-! Cip21c: errors that are raised, caught and kept. -/
namespace Cip
open PySem PySem.Spec PyProof.Rows L2

section
variable {X : Cx} {pins : List (Addr × Obj)} {σ : L2.St} {H : Hp} {s : Shared} {a : Addr} {oe : Obj} {vs : Array Value} {cls : Value} {d : Option Addr}
theorem xo_ok {P : Program} {w : World} {h : Heap} (he : h.get? a = some oe) (hz : Zc cls d oe) (hd : oe.data = .fields vs) : ObjOk P w H h a (XO cls d a) :=
  ⟨⟨oe, vs, he, hz, hd⟩, ⟨_, he⟩, fun _ _ ⟨oe, vs, e, z, f⟩ k => ⟨oe, vs, k _ e, z, f⟩⟩
/-- an error that no one tracked is tracked -/
theorem inv_adopt (I : Inv X pins σ H s) (na : H a = none) (s0 : X.s_0.heap.get? a = none) (he : s.heap.get? a = some oe) (hz : Zc cls d oe) (hd : oe.data = .fields vs) (nL : X.env.locals ≠ a) (nC : ∀ x c, X.env.cells.lookup x = some c → c ≠ a)
    (nP : ∀ p ∈ X.pn ++ pins, p.1 ≠ a) : Inv X pins σ (upd H a (XO cls d a)) s := by
  have ne : ∀ {b : Addr} {u : HO}, H b = some u → b ≠ a := fun {b u} q e => by rw [e, na] at q; cases q
  have ne0 : ∀ {b : Addr} {o : Obj}, X.s_0.heap.get? b = some o → b ≠ a := fun {b o} q e => by rw [e, s0] at q; cases q
  refine ⟨I.ok, I.os, I.bare, ⟨I.base.keep, I.base.slot, fun b o q n hx => ?_, I.base.there, fun b xs q => ?_, fun b o u q => ?_, fun b ps q => ?_⟩, I.loc, I.cell, ?_, fun x c hc => ?_, fun p hp => ?_, fun b o q => ?_, I.len⟩
  · rw [upd_ne (ne0 q)]
    exact I.base.free b o q n hx
  · have z := I.base.tups b xs q
    rw [upd_ne (ne z)]
    exact z
  · have z := I.base.frzs b o u q
    rw [upd_ne (ne z)]
    exact z
  · obtain ⟨m, z⟩ := I.base.tbls b ps q
    exact ⟨m, by rw [upd_ne (ne z)]; exact z⟩
  · rw [upd_ne nL]
    exact I.free
  · rw [upd_ne (nC x c hc)]
    exact I.freeC x c hc
  · obtain ⟨p1, p2, p3, p4, p5⟩ := I.pin p hp
    exact ⟨p1, by rw [upd_ne (nP p hp)]; exact p2, p3, p4, p5⟩
  · by_cases hb : b = a
    · subst hb
      rw [upd_same] at q
      cases q
      exact xo_ok he hz hd
    · rw [upd_ne hb] at q
      exact (I.hok b o q).stay (fun c v hc r => r) (fun c hc => by rw [upd_ne (ne hc)]; exact hc) (fun c xs hc => by rw [upd_ne (ne hc)]; exact hc)
end
section
variable {X : Cx} {Wout : WX} {i j : Nat} {n m x : Str} {c : Value} {np pm pn2 pos' p2 pos : Pos} {body : List Stmt} {tb : WX → TS}
/-- an error of c is kept, any other flies on -/
def wKeep (K : PySem.W.Frag) (c : Value) (i j : Nat) (Wout : WX) (D : Ends) : WX := fun cls d σ H =>
  ∃ b, PySem.W.exmOne K cls c = some b ∧ (b = true → ∀ a, H a = none → D.nx (((σ.set i (some (.ref a))).set j (some (.ref a))).set i none) (upd H a (XO cls d a))) ∧ (b = false → Wout cls d σ H)
theorem ps_try_keep (hex : X.ex = []) (hs : X.stack = X.env :: X.outer) (hf : X.env.frame = some X.env.locals) (hN : X.N.Nodup) (hi : X.N[i]? = some n) (hj : X.N[j]? = some m) (hln : X.env.kindOf n = some .local) (hlm : X.env.kindOf m = some .local)
    (hd1 : (n == ("__debug__" : Str)) = false) (hd2 : (n == ("__classdict__" : Str)) = false) (hc : Names X x c) (tk : Takes X Wout)
    (hb : ∀ (W : WX) (pn : List (Addr × Obj)) (xe : Value → Shared → Prop), Takes (X.tr pn xe) W → PassesOwn (model X.prog X.w) X.A X.env xe → PSs (X.tr pn xe) body (tb W)) :
    PS X (.Try body [.ExceptHandler (some (.Name x np)) (some n) [.Assign [.Name m pm] (.Name n pn2) p2] pos'] [] [] pos) (fun D σ H => tb (wKeep X.K c i j Wout D) D σ H) := by
  refine ⟨fun pins s σ H D I h => ?_⟩
  have ok := I.ok
  have hfr : X.A.frames = some (X.env :: X.outer) := by rw [ok.frames, hs]
  have hloc : Loc X.env.scope n := .inl hln
  refine wpAny_Try_except ?_
  refine wpAny_mono ((hb (wKeep X.K c i j Wout D) (X.pn ++ pins) (fun e s₁ => wpAny (model X.prog X.w) X.A (noteFrame e X.env) (fun _ s₂ => wpAny (model X.prog X.w) X.A (setFlight e none) (fun _ s₃ =>
    wpAny (model X.prog X.w) X.A (handleBy e X.env [.ExceptHandler (some (.Name x np)) (some n) [.Assign [.Name m pm] (.Name n pn2) p2] pos']) (SP X pins D) X.xe s₃) X.xe s₂) X.xe s₁) (fun u s' xx => ?_) PassesOwn.looking).run [] s σ H D (I.toTry _) h) (fun f s1 hsp => ?_) (fun e s1 he => he)
  · -- the catch
    obtain ⟨a, B, sI, pins', σ', H', cls, d, rfl, J', nb, up, sky, na, os, ag, b, hb1, hyes, hno⟩ := xx
    have J : Inv X pins σ' H' sI := J'.ofTry ok
    have sky' : Sky B (X.env :: X.outer) a (Zc cls d) X.env.locals s'.heap := by rw [← hs]; exact sky
    show wpAny (model X.prog X.w) X.A (noteFrame (.ref a) X.env) _ _ _
    refine Sky.land Zc.steady hfr hf sky' fun h3 fl3 up3 => ?_
    have J3 : Inv X pins σ' H' { s' with heap := h3 } := J.landed nb fl3.1 (up.trans up3) os ag
    obtain ⟨oe3, vs3, he3, hz3, hd3⟩ := fl3.there
    have notFr : ∀ {h : Heap} {o : Obj} {vs : Array Value}, h.FunFrames B (X.env :: X.outer) → h.get? a = some o → o.data = .fields vs → a ∉ frs (X.env :: X.outer) := fun {h o vs} ff e dd hm => by
      obtain ⟨_, o', e', hnf⟩ := ff.mem hm
      rw [e] at e'; cases e'
      exact hnf _ dd
    have nfr := notFr fl3.2.2.1 he3 hd3
    have nL : a ≠ X.env.locals := fun z => nfr (List.mem_filterMap.mpr ⟨X.env, List.mem_cons_self, by rw [hf, z]⟩)
    have nF : a ∉ X.fs := fun hm => by
      obtain ⟨e, he, q⟩ := List.mem_filterMap.mp hm
      exact nfr (List.mem_filterMap.mpr ⟨e, List.mem_cons_of_mem _ he, q⟩)
    have S3 := J3.suite he3 hd3 na nL nF
    refine wpAny_handleBy_cons (codeAny_handlers_test ?_) (by intro q; cases q)
    have LT : PySem.W.Looks (model X.prog X.w) h3 (typeOf (.ref a)) cls := fun A Q E s k q => wpAny_typeOf_ref (k _ _ he3) (by rw [hz3.1]; exact q)
    have LM := PySem.W.exm_one (M := model X.prog X.w) (J3.kIn) LT hb1
    have test : ∀ {Q : Value → Shared → Prop} {E : Value → Shared → Prop}, Q c { s' with heap := h3 } → wpAny (model X.prog X.w) (X.A.mark (some (.ref a))) (eval (.Name x np) X.env) Q E { s' with heap := h3 } := fun {Q E} q => by
      obtain ⟨hg, hdbg, hm | ⟨hm, hv, hnn⟩⟩ := hc
      · exact ld_glob (X := X.suite a ((a, oe3) :: (X.pn ++ pins))) S3 hg hm q hdbg
      · exact ld_blt (X := X.suite a ((a, oe3) :: (X.pn ++ pins))) S3 hg hm hv q hnn hdbg
    refine test (LM.here ?_)
    cases b with
    | true =>
      refine codeAny_handlers_suite_as ?_
      refine HandSPX.lands_againZ fl3 fun h4 fl4 up4 => ?_
      have J4 : Inv X pins σ' H' { s' with heap := h4 } := J.landed nb fl4.1 ((up.trans up3).trans up4) os ag
      obtain ⟨oe4, vs4, he4, hz4, hd4⟩ := fl4.there
      have S4 := J4.suite he4 hd4 na nL nF
      refine store_ok (X := X.suite a ((a, oe4) :: (X.pn ++ pins))) (v := .ref a) S4 hN hi hloc rfl (fun s5 S5 => ?_) (.inr hln)
      have nxt : (σ'.set i (some (.ref a)))[i]? = some (some (.ref a)) := by
        rw [List.getElem?_set_self]
        rw [J.len]
        exact (List.getElem?_eq_some_iff.mp hi).1
      have suite : PS (X.suite a ((a, oe4) :: (X.pn ++ pins))) (.Assign [.Name m pm] (.Name n pn2) p2) (tAsg (tVar i) (gName j)) :=
        ps_asg (pe_var (X := X.suite a ((a, oe4) :: (X.pn ++ pins))) hi (.inl hln) hd1 hd2) (pg_name (X := X.suite a ((a, oe4) :: (X.pn ++ pins))) hN hj (.inl hlm) (.inr hlm))
      have hB : sI.heap.get? a = none := by
        cases q : sI.heap.get? a with
        | none => rfl
        | some o =>
          have z := nb a o q (by rw [hs]; exact nfr)
          rw [fl4.2.1] at z
          cases z
      have h0 : X.s_0.heap.get? a = none := by
        cases q : X.s_0.heap.get? a with
        | none => rfl
        | some o =>
          obtain ⟨o', z⟩ := J.base.there a o q (by rw [hex]; exact List.not_mem_nil)
          rw [hB] at z
          cases z
      refine wpAny_mono ((pss_cons suite pss_nil).run [] s5 _ H' { nx := fun σ6 H6 => σ6 = (σ'.set i (some (.ref a))).set j (some (.ref a)) ∧ H6 = H', rt := fun _ _ => False, bk := fun _ _ => False, ct := fun _ _ => False } S5 ⟨_, nxt, rfl, rfl⟩) (fun f s6 hsp => ?_) (fun _ _ z => False.elim z)
      cases f with
      | next =>
        obtain ⟨σ6, H6, S6, q6, q7⟩ := hsp
        subst q6 q7
        obtain ⟨p1, p2, p3, p4, p5⟩ := S6.pin (a, oe4) (List.mem_append_left _ List.mem_cons_self)
        have J6 := inv_adopt (S6.unsuite ok) na h0 p1 hz4 hd4 (Ne.symm nL) (fun x c hc e => by
          obtain ⟨v, ov, z1, z2⟩ := (S6.unsuite ok).cell x c hc
          rw [e] at z1
          have z3 := p1.symm.trans z1
          cases z3
          exact p5 _ z2) (fun p hp e => by
          have z := (J.pin p hp).1
          rw [e, hB] at z
          cases z)
        exact gone_ok J6 hN hi hln fun s7 J7 => ⟨_, _, J7, hyes rfl a na⟩
      | brk =>
        obtain ⟨_, _, _, q6⟩ := hsp
        exact q6.elim
      | cont =>
        obtain ⟨_, _, _, q6⟩ := hsp
        exact q6.elim
      | ret u =>
        obtain ⟨_, _, _, _, _, q6⟩ := hsp
        exact q6.elim
    | false =>
      show wpAny _ X.A (handleBy (.ref a) X.env []) _ _ _
      refine wpAny_handleBy_nil ?_
      obtain ⟨k1, k2, k3, oe, vs, T, oT, ts', he, hz, hd, h1, hr⟩ := id fl3
      unfold PySem.passOn
      refine wpAny_bind (wpAny_field he hd h1 ?_)
      rw [if_neg (show ¬ ((Value.ref T == Value.none) = true) from by simp)]
      have fin : wpAny (model X.prog X.w) X.A (setFlight (.ref a) X.env.frame) (fun _ s4 => wpAny (model X.prog X.w) X.A (throw (.ref a) : Sem Flow) (SP X pins D) X.xe s4) X.xe { s' with heap := h3 } := by
        rw [hf]
        refine HandSPX.setFlight_upZ fl3 fun h4 hh4 up4 => wpAny_throw (tk _ _ ?_)
        exact ⟨a, B, sI, pins, σ', H', cls, d, rfl, J, nb, (up.trans up3).trans up4, .inr (.inr (by rw [hs]; exact hh4)), na, os, ag, hno rfl⟩
      first
        | exact wpAny_bind (wpAny_pure (wpAny_bind fin))
        | exact wpAny_bind fin
  · cases f with
    | next =>
      obtain ⟨σ', H', J', q⟩ := hsp
      exact wpAny_execs_nil ⟨σ', H', J'.ofTry ok, q⟩
    | brk =>
      obtain ⟨σ', H', J', q⟩ := hsp
      exact ⟨σ', H', J'.ofTry ok, q⟩
    | cont =>
      obtain ⟨σ', H', J', q⟩ := hsp
      exact ⟨σ', H', J'.ofTry ok, q⟩
    | ret u =>
      obtain ⟨v, σ', H', J', r, q⟩ := hsp
      exact ⟨v, σ', H', J'.ofTry ok, r, q⟩
end
end Cip

set_option maxHeartbeats 4000000
/-! Cip22: places that are written, ways, loops; every statement. -/
namespace Cip
open PySem PySem.Spec PyProof.Rows L2

section
variable {Γ : Tx} {cf : CF} {P : Pn} {t : Nm} {k : Nat}
def SndPs (Γ : Tx) (cf : CF) (P : Pn) (t : Nm) (k : Nat) (ss : List S) : Prop := ∀ (X : Cx) (W : WX) (xs : List Stmt), GoodS Γ cf P t k X W → chkSs P X.N ss X.env.scope X.fn xs = true → PSs X xs (tSs Γ cf (rz X t) W ss)
theorem sub_form {o i : Expr} {pos : Pos} {env : PySem.Env} (h : headOk i = true) (v : Value) : assign (.Subscript o i pos) env v = (do
      let ov ← holding [v] (eval o env)
      let iv ← holding [v, ov] (eval i env)
      standAt pos
      holding [v, ov, iv] (setItem ov iv v)
      release [v, ov, iv] []) := by
  cases i <;> first | rfl | cases h
theorem snd_ssub {a i e : E} : SndP Γ cf P t k (fun N sc _ x => kSub (chk P N a sc) (chk P N i sc) (chk P N e sc) x) (.ssub a i e) := by
  intro X W x G h
  simp only [kSub] at h
  split at h
  · rename_i y j p z pos
    simp only [Bool.and_eq_true] at h
    obtain ⟨⟨⟨h1, h2⟩, h3⟩, h4⟩ := h
    have ha := ((snd_all (Γ := Γ) (cf := cf) (P := P) (t := t) (k := k) a).1 X W y G.toGood h2).1
    obtain ⟨hi, hi2⟩ := (snd_all (Γ := Γ) (cf := cf) (P := P) (t := t) (k := k) i).1 X W j G.toGood h3
    have he := ((snd_all (Γ := Γ) (cf := cf) (P := P) (t := t) (k := k) e).1 X W z G.toGood h4).1
    refine ps_imp (ps_asg he (pg_sub ha hi set_list (sub_form hi2)) (sws_plain (not_tt h1)) rfl rfl) fun D σ H ⟨φ, env, st, r, E, o⟩ => ?_
    simp only [run] at o
    refine tI_s r E o fun v H1 φ1 st1 d r1 e1 E1 p1 o1 => tI_s r1 E1 o1 fun w H2 φ2 st2 x r2 e2 E2 p2 o2 => tI_s r2 E2 o2 fun u H3 φ3 st3 y r3 e3 E3 p3 o3 => ?_
    split at o3
    · rename_i kk zz
      split at o3
      · rename_i xs hk
        split at o3
        · rename_i jj hj
          obtain ⟨l, h5, rfl⟩ := r2.rep e3 p2.1
          obtain rfl : u = .int zz := p3.1
          obtain ⟨b, h6, vs, h7, h8, h9⟩ := r3.at_ _ _ hk
          rw [h5] at h6; cases h6
          refine ⟨l, vs, zz, jj, rfl, rfl, h7, by rw [h9.length]; exact hj, ?_⟩
          have hm : l ∈ φ3.ref := List.mem_of_getElem? h5
          have ex : Ext φ3 H3 φ3 (upd H3 l (.lst (vs.set jj v))) := ext_set hm
          have hd := r1.rep e2 p1.1
          refine o3 φ3 _ σ (r3.put h5 ⟨_, upd_same, ?_, ?_⟩) ex (E3.ext r3 ex)
          · rw [List.length_set]; exact h8
          · exact (r3.reps ex h9).set jj (r3.rep ex (r2.rep e3 hd))
        · exact o3.elim
      · exact o3.elim
    · exact o3.elim
  · cases h
theorem snd_ret {e : E} : SndP Γ cf P t k (fun N sc _ x => kRet e.nonB (chk P N e sc) x) (.ret e) := by
  intro X W x G h
  simp only [kRet] at h
  split at h
  · rename_i y pos
    refine ps_imp (ps_ret ((snd_all (Γ := Γ) (cf := cf) (P := P) (t := t) (k := k) e).1 X W y G.toGood h).1) fun D σ H ⟨φ, env, st, r, E, o⟩ => ?_
    simp only [run] at o
    exact tI_s r E o fun v H1 φ1 st1 d r1 e1 E1 p1 o1 => o1 φ1 H1 v r1 .refl p1.1
  · refine ps_imp ps_retN fun D σ H ⟨φ, env, st, r, E, o⟩ => ?_
    unfold Cip.E.nonB at h
    split at h
    · simp only [run, ev, R.s] at o
      exact o φ H .non r .refl rfl
    · cases h
  · cases h
theorem snd_exp {e : E} : SndP Γ cf P t k (fun N sc _ x => kExp (chk P N e sc) x) (.exp e) := by
  intro X W x G h
  simp only [kExp] at h
  split at h
  · rename_i y pos
    rw [Bool.and_eq_true] at h
    refine ps_imp (ps_expr ((snd_all (Γ := Γ) (cf := cf) (P := P) (t := t) (k := k) e).1 X W y G.toGood h.2).1 (sw_plain (not_tt h.1))) fun D σ H ⟨φ, env, st, r, E, o⟩ => ?_
    simp only [run] at o
    exact tI_s r E o fun v H1 φ1 st1 d r1 e1 E1 p1 o1 => o1 φ1 H1 σ r1 .refl E1
  · cases h
theorem snd_pass : SndP Γ cf P t k (fun _ _ _ x => kPass x) .pass := by
  intro X W x G h
  simp only [kPass] at h
  split at h
  · refine ps_imp ps_pass fun D σ H ⟨φ, env, st, r, E, o⟩ => ?_
    simp only [run] at o
    exact o φ H σ r .refl E
  · cases h
theorem snd_ifS {c : E} {a b : List S} (ha : SndPs Γ cf P t k a) (hb : SndPs Γ cf P t k b) : SndP Γ cf P t k (fun N sc fn x => kIfS (chk P N c sc) (chkSs P N a sc fn) (chkSs P N b sc fn) x) (.ite c a b) := by
  intro X W x G h
  simp only [kIfS] at h
  split at h
  · rename_i y u v pos
    rw [Bool.and_eq_true, Bool.and_eq_true] at h
    refine ps_imp (ps_if ((snd_all (Γ := Γ) (cf := cf) (P := P) (t := t) (k := k) c).2 X W y G.toGood h.1.1) (ha X W u G h.1.2) (hb X W v G h.2)) fun D σ H ⟨φ, env, st, r, E, o⟩ => ?_
    simp only [run] at o
    refine tT_s r E o fun b H1 φ1 st1 r1 e1 E1 o1 => ?_
    cases b with
    | true =>
      rw [if_pos rfl] at o1 ⊢
      exact ⟨φ1, env, st1, r1, E1, o1⟩
    | false =>
      rw [if_neg (by simp)] at o1 ⊢
      exact ⟨φ1, env, st1, r1, E1, o1⟩
  · cases h
/-! ### loops -/
structure ForW (T : Rz) (W : WX) (φ1 : Fi) (H1 : Hp) (f : D → Env → Store → SR) (ok : Store → Bool) (xs : List D) (D0 : Ends) (i m : Nat) (σ : L2.St) (H : Hp) : Prop where
  ex : ∃ φ env st, Rel T φ H st ∧ Ext φ1 H1 φ H ∧ EnvR T φ H σ env ∧ OutS T W φ H (loopL f ok (xs.drop i) env st) D0
  le : i ≤ xs.length
  ms : m = xs.length - i
theorem snd_for {g : Tg} {ik : IK} {its : List E} {body : List S} (hb : SndPs Γ cf P t k body) : SndP Γ cf P t k (fun N sc fn x => kForS (chkT N sc fn g) (kIt sc ik g.isTup its.length (chks P N its sc)) (chkSs P N body sc fn) x) (.for g ik its body) := by
  intro X W x G h
  simp only [kForS] at h
  split at h
  · rename_i tg it u pos
    rw [Bool.and_eq_true, Bool.and_eq_true] at h
    obtain ⟨⟨h1, h2⟩, h3⟩ := h
    obtain ⟨hi, hi2⟩ := snd_it (snd_alls (Γ := Γ) (cf := cf) (P := P) (t := t) (k := k) its).1 G.toGood (fun z => chkT_tup h1 z) h2
    refine ps_imp (ps_for G.own G.calm hi (pg_tg (t := t) G.calm G.nd g tg h1) (hb X W u G h3) (fun x => head_set hi2 x)) fun D σ H ⟨φ, env, st, r, E, o⟩ => ?_
    simp only [run] at o
    have o2 : OutS (rz X t) W φ H ((wkR Γ cf ik its env st).s env fun p st => loopL (fun x env st => match asgT st g x env with
        | some env => runs Γ cf body env st
        | none => .stk) (fun st' => still (refsOf p.1) st st') p.2 env st) D := by
      revert o
      unfold wkR
      cases evs Γ cf its env st with
      | stk => exact id
      | ex _ _ _ => exact id
      | ok ds st1 =>
        intro o
        simp only [R.bind, R.s] at o ⊢
        cases q : walkD st1 ik ds with
        | none => rw [q] at o; exact o.elim
        | some xs => rw [q] at o; exact o
    refine ⟨φ, env, st, r, E, (OutS.s (rep := repJ (rz X t)) r E o2).imp fun J H1 ⟨φ1, st1, p, r1, e1, hJ, E1, o1⟩ => ?_⟩
    obtain ⟨ds, xs⟩ := p
    have hJ : WalkJ (rz X t) ds xs φ1 H1 st1 J := hJ
    refine ⟨ForW (rz X t) W φ1 H1 _ _ xs D, ⟨xs.length, ⟨⟨φ1, env, st1, r1, .refl, E1, by rw [List.drop_zero]; exact o1⟩, Nat.zero_le _, by simp⟩⟩, fun i m σ H w => ?_⟩
    obtain ⟨⟨φ2, env2, st2, r2, e2, E2, o3⟩, hle, hms⟩ := w
    have hhid : ∀ a ∈ φ2.hid, a ∈ φ1.hid ∨ H1 a = none := fun a ha => .inl (e2.hid ▸ ha)
    have ex' : Ext ⟨φ1.ref, φ2.hid⟩ H1 φ2 H := ⟨e2.more, rfl, e2.keep⟩
    by_cases hil : i = xs.length
    · subst hil
      rw [List.drop_length] at o3
      unfold loopL at o3
      split at o3
      · rename_i hs
        exact .inl ⟨(hJ φ2 H st2 r2 ex' hhid (still_ok.mp hs)).1, o3 φ2 H σ r2 .refl E2⟩
      · exact o3.elim
    · have hlt : i < xs.length := Nat.lt_of_le_of_ne hle hil
      rw [List.drop_eq_getElem_cons hlt] at o3
      unfold loopL at o3
      split at o3
      · rename_i hs
        obtain ⟨hgo, hy⟩ := (hJ φ2 H st2 r2 ex' hhid (still_ok.mp hs)).2 i xs[i] (List.getElem?_eq_getElem hlt)
        refine .inr ⟨hgo, ForW (rz X t) W φ1 H1 _ _ xs D (i + 1) (m - 1), fun σ' H' w => ⟨m - 1, by omega, w⟩, fun x H' hx => ?_⟩
        obtain ⟨r3, e3, p3⟩ := hy x H' hx
        cases q : asgT st2 g xs[i] env2 with
        | none => rw [q] at o3; exact o3.elim
        | some env3 =>
          rw [q] at o3
          refine ⟨φ2, env2, st2, xs[i], env3, r3, E2.ext r2 e3, p3, q, fun σ' E' _ => ⟨φ2, env3, st2, r3, E', ?_⟩⟩
          exact OutS.bind r3 (OutS.shift r2 e3 r3 o3) fun φ4 H4 σ4 env4 st4 r4 e4 E4 o4 => ⟨⟨φ4, env4, st4, r4, (e2.trans2 e3 r2).trans2 e4 r3, E4, o4⟩, hlt, by omega⟩
      · exact o3.elim
  · cases h
structure WhlW (T : Rz) (W : WX) (c : Env → Store → R Bool) (b : Env → Store → SR) (D0 : Ends) (n : Nat) (σ : L2.St) (H : Hp) : Prop where
  ex : ∃ φ env st, Rel T φ H st ∧ EnvR T φ H σ env ∧ OutS T W φ H (loopW c b n env st) D0
theorem snd_whl {c : E} {body : List S} (hb : SndPs Γ cf P t k body) : SndP Γ cf P t k (fun N sc fn x => kWhl (chk P N c sc) (chkSs P N body sc fn) x) (.whl c body) := by
  intro X W x G h
  simp only [kWhl] at h
  split at h
  · rename_i y u pos
    rw [Bool.and_eq_true] at h
    refine ps_imp (ps_while G.own ((snd_all (Γ := Γ) (cf := cf) (P := P) (t := t) (k := k) c).2 X W y G.toGood h.1) (hb X W u G h.2)) fun D σ H ⟨φ, env, st, r, E, o⟩ => ?_
    simp only [run] at o
    refine ⟨WhlW (rz X t) W (fun env st => testR (ev Γ cf c env st)) (fun env st => runs Γ cf body env st) D, ⟨_, ⟨φ, env, st, r, E, o⟩⟩, fun m σ H ⟨⟨φ1, env1, st1, r1, E1, o1⟩⟩ => ?_⟩
    cases m with
    | zero => exact o1.elim
    | succ n =>
      unfold loopW at o1
      refine tT_s r1 E1 o1 fun b H2 φ2 st2 r2 e2 E2 o2 => ?_
      cases b with
      | true =>
        rw [if_pos rfl] at o2 ⊢
        refine ⟨WhlW (rz X t) W (fun env st => testR (ev Γ cf c env st)) (fun env st => runs Γ cf body env st) D n, fun σ' H' w => ⟨n, Nat.lt_succ_self n, w⟩, φ2, env1, st2, r2, E2, ?_⟩
        exact OutS.bind r2 o2 fun φ4 H4 σ4 env4 st4 r4 e4 E4 o4 => ⟨φ4, env4, st4, r4, E4, o4⟩
      | false =>
        rw [if_neg (by simp)] at o2 ⊢
        exact o2 φ2 H2 σ r2 .refl E2
  · cases h
/-! ### errors -/
theorem snd_raise {c : Nat} {es : List E} : SndP Γ cf P t k (fun N sc _ x => kRaise (kCall sc (P.cls c) (chks P N es sc)) x && P.xar c es.length) (.raise c es) := by
  intro X W x G h
  rw [Bool.and_eq_true] at h
  obtain ⟨h, hx⟩ := h
  simp only [kRaise] at h
  split at h
  · rename_i y pos2
    refine ps_imp (ps_raise G.calm G.tk (pmk_x (snd_alls es).1 G.toGood h hx)) fun D σ H ⟨φ, env, st, r, E, o⟩ => ⟨φ, env, st, r, E, ?_⟩
    simp only [run] at o
    revert o
    cases evs Γ cf es env st with
    | stk => exact id
    | ex c' fs st1 => exact fun o φ' H' cls d r' e' x' => o φ' H' σ cls d r' e' (E.ext r e') x'
    | ok ds st1 =>
      show OutS _ _ _ _ (match Γ.exf c ds with
        | some fs => SR.ex c fs env st1
        | none => SR.stk) D → OutG _ _ _ _ _ _ (R.of (Γ.exf c ds) st1) _
      cases Γ.exf c ds with
      | none => exact id
      | some fs => exact fun o φ' H' d r' e' x' => o φ' H' σ (.ref (t.cls c)) d r' e' (E.ext r e') ⟨rfl, x'⟩
  · cases h
theorem good_tr {X : Cx} {W W' : WX} (G : GoodS Γ cf P t k X W) (pn : List (Addr × Obj)) (xe : Value → Shared → Prop) (tk : Takes (X.tr pn xe) W') (own : PassesOwn (model X.prog X.w) X.A X.env xe) : GoodS Γ cf P t k (X.tr pn xe) W' :=
  ⟨⟨G.calm, G.nd, G.grd, G.room, tk, G.top, G.fns⟩, own, G.stk, G.frm, G.nex⟩
theorem snd_tri {body : List S} {c i j : Nat} (hb : SndPs Γ cf P t k body) : SndP Γ cf P t k (fun N sc fn x => kTri N sc (P.cls c) i j (chkSs P N body sc fn) x && P.hasX c) (.tri body c i j) := by
  intro X W x G h
  rw [Bool.and_eq_true] at h
  obtain ⟨h, hx⟩ := h
  simp only [kTri] at h
  split at h
  · rename_i u cn p1 en m p2 en' p3 p4 p5 pos
    simp only [Bool.and_eq_true] at h
    obtain ⟨⟨⟨⟨⟨⟨⟨⟨h1, h2⟩, h3⟩, h4⟩, h5⟩, h6⟩, h7⟩, h8⟩, h9⟩ := h
    have h2 := of_decide_eq_true h2
    have h8 := of_decide_eq_true h8
    subst h2 h8
    have h4 := of_decide_eq_true h4
    have h5 := of_decide_eq_true h5
    have xc := G.top.exc c hx
    refine ps_imp (ps_try_keep (tb := fun W' => tSs Γ cf (rz X t) W' body) G.nex G.stk G.frm G.nd h4 h5 (kindB_ok h6) (kindB_ok h7) (nm0_d h9) (nm0_c h9) ⟨G.glob h3, nm0_d (glB_nm h3), .inl xc.glo⟩ G.tk fun W' pn xe tk own => hb (X.tr pn xe) W' u (good_tr G pn xe tk own) h1) fun D σ H ⟨φ, env, st, r, E, o⟩ => ?_
    simp only [run] at o
    refine ⟨φ, env, st, r, E, ?_⟩
    cases q : runs Γ cf body env st with
    | stk => rw [q] at o; exact o.elim
    | nx env1 st1 => rw [q] at o; exact o
    | rt d st1 => rw [q] at o; exact o
    | ex c' fs env1 st1 =>
      rw [q] at o
      intro φ1 H1 σ1 cls dd r1 e1 E1 x1
      cases q2 : Γ.sub c' c with
      | none => simp only [q2] at o; exact o.elim
      | some b =>
        simp only [q2] at o
        obtain ⟨s1, s2, s3, s4⟩ := G.top.sub c' c b q2
        refine ⟨b, by rw [x1.1]; exact s3, fun hb a na => ?_, fun hb => ?_⟩
        · subst hb
          have o : OutS (rz X t) W φ H (.nx (((env1.set i (some (.ref st1.length))).set j (some (.ref st1.length))).set i none) (st1 ++ [.exc c' fs])) D := o
          obtain ⟨rp, ep⟩ := rel_push (o := XO cls dd a) (m := .exc c' fs) r1 na ⟨dd, upd_same.trans (congrArg some (by rw [x1.1])), x1.2.ext (ext_push na) r1.nt⟩
          have hr : Rep X.K (φ1.push a) (upd H1 a (XO cls dd a)) (.ref st1.length) (.ref a) := ⟨a, by
            show (φ1.ref ++ [a])[st1.length]? = some a
            rw [← r1.len, List.getElem?_append_right (Nat.le_refl _), Nat.sub_self]
            rfl, rfl⟩
          exact o _ _ _ rp (e1.trans r ep r1) (((E1.ext r1 ep).set hr).set hr).unset
        · subst hb
          exact o φ1 H1 σ1 cls dd r1 e1 E1 x1
  · cases h
/-! ### all -/
mutual
theorem snd_stm : ∀ s : S, SndP Γ cf P t k (fun N sc fn x => chkS P N s sc fn x) s
  | .asg _ _ => snd_asg
  | .ssub _ _ _ => snd_ssub
  | .ite _ a b => snd_ifS (snd_stms a) (snd_stms b)
  | .for _ _ _ body => snd_for (snd_stms body)
  | .whl _ body => snd_whl (snd_stms body)
  | .ret _ => snd_ret
  | .exp _ => snd_exp
  | .pass => snd_pass
  | .sfld _ _ _ _ => snd_sfld
  | .aug _ _ _ => snd_aug
  | .augf _ _ _ _ _ => snd_augf
  | .bad => snd_badS
  | .raise _ _ => snd_raise
  | .tri body _ _ _ => snd_tri (snd_stms body)
theorem snd_stms : ∀ ss : List S, SndPs Γ cf P t k ss
  | [] => fun X W xs G h => by
    have e : xs = [] := List.isEmpty_iff.mp h
    subst e
    refine pss_imp pss_nil fun D σ H ⟨φ, env, st, r, E, o⟩ => ?_
    simp only [runs] at o
    exact o φ H σ r .refl E
  | s :: ss => fun X W xs G h => by
    simp only [chkSs, kConsS] at h
    split at h
    · rename_i y ys
      rw [Bool.and_eq_true] at h
      refine pss_imp (pss_cons (snd_stm s X W y G h.1) (snd_stms ss X W ys G h.2)) fun D σ H ⟨φ, env, st, r, E, o⟩ => ?_
      simp only [runs] at o
      exact ⟨φ, env, st, r, E, OutS.bind r o fun φ1 H1 σ1 env1 st1 r1 e1 E1 o1 => ⟨φ1, env1, st1, r1, E1, o1⟩⟩
    · cases h
end
end
end Cip

set_option maxHeartbeats 4000000
/-! Cip23: what a call leaves behind; defs. -/
namespace Cip
open PySem PySem.Spec PyProof.Rows L2

/-! ### what a call has made may go -/
section
variable {K : PySem.W.Frag} {T : Rz} {φ φ' : Fi} {H H' : Hp} {st st0 : Store}
mutual
theorem Rep.mx : ∀ (d : D) (v : V), Rep K φ H d v → D.mx d ≤ φ.ref.length
  | .non, _, _ => Nat.zero_le _
  | .bl _, _, _ => Nat.zero_le _
  | .int _, _, _ => Nat.zero_le _
  | .str _, _, _ => Nat.zero_le _
  | .tup xs, _, ⟨a, vs, h1, h2, h3, h4⟩ => Reps.mx xs vs h4
  | .lst xs, _, ⟨a, vs, h1, h2, h3, h4, h5⟩ => Reps.mx xs vs h5
  | .scr xs, _, ⟨a, vs, h1, h2, h4, h5⟩ => Reps.mx xs vs h5
  | .dct ks ws, _, ⟨a, kvs, h1, h2, h3, h4, h5⟩ => Reps.mx ws _ h5
  | .ref k, _, ⟨a, h1, h2⟩ => (List.getElem?_eq_some_iff.mp h1).1
theorem Reps.mx : ∀ (ds : List D) (vs : List V), Reps K φ H ds vs → D.mxs ds ≤ φ.ref.length
  | [], _, _ => Nat.zero_le _
  | x :: xs, _, ⟨v, r, h1, h2, h3⟩ => Nat.max_le.mpr ⟨Rep.mx x v h2, Reps.mx xs r h3⟩
end
theorem ORel.mx {o : MO} {a : Addr} (h : ORel T φ H o a) : o.mx ≤ φ.ref.length := by
  cases o with
  | lst _ => obtain ⟨vs, h1, h2, h3⟩ := h; exact Reps.mx _ _ h3
  | dct lk _ _ => obtain ⟨kvs, h1, h2, h3⟩ := h; exact Reps.mx _ _ h3
  | ins _ _ => obtain ⟨dx, gs, h1, h2, h3⟩ := h; exact Reps.mx _ _ h3
  | exc _ fs =>
    obtain ⟨d, h1, h2⟩ := h
    cases fs with
    | nil => exact Nat.zero_le _
    | cons p fs =>
      obtain ⟨dd, gs, e1, e2, e3, e4, e5⟩ := h2.2 (by simp)
      exact Reps.mx _ _ e5
/-- the first objects alone -/
structure Cut (φ φ' : Fi) : Prop where
  ref : ∃ ψ, φ'.ref = φ.ref ++ ψ
  hid : φ'.hid = φ.hid
theorem Cut.no (c : Cut φ φ') {a : Addr} (h : φ'.no a) : φ.no a := by
  obtain ⟨ψ, e⟩ := c.ref
  exact ⟨fun m => h.1 (by rw [e]; exact List.mem_append_left _ m), by rw [← c.hid]; exact h.2⟩
mutual
theorem Rep.cut (c : Cut φ φ') : ∀ (d : D) (v : V), D.mx d ≤ φ.ref.length → Rep K φ' H d v → Rep K φ H d v
  | .non, _, _, h => h
  | .bl _, _, _, h => h
  | .int _, _, _, h => h
  | .str _, _, _, h => h
  | .tup xs, _, hm, ⟨a, vs, h1, h2, h3, h4⟩ => ⟨a, vs, h1, h2, h3, Reps.cut c xs vs hm h4⟩
  | .lst xs, _, hm, ⟨a, vs, h1, h2, h3, h4, h5⟩ => ⟨a, vs, h1, h2, c.no h3, h4, Reps.cut c xs vs hm h5⟩
  | .scr xs, _, hm, ⟨a, vs, h1, h2, h4, h5⟩ => ⟨a, vs, h1, h2.elim (fun h => .inl ⟨h.1, c.no h.2⟩) .inr, h4, Reps.cut c xs vs hm h5⟩
  | .dct ks ws, _, hm, ⟨a, kvs, h1, h2, h3, h4, h5⟩ => ⟨a, kvs, h1, h2, c.no h3, h4, Reps.cut c ws _ hm h5⟩
  | .ref k, _, hm, ⟨a, h1, h2⟩ => ⟨a, by
      obtain ⟨ψ, e⟩ := c.ref
      rw [e, List.getElem?_append_left (show k < φ.ref.length from hm)] at h1
      exact h1, h2⟩
theorem Reps.cut (c : Cut φ φ') : ∀ (ds : List D) (vs : List V), D.mxs ds ≤ φ.ref.length → Reps K φ' H ds vs → Reps K φ H ds vs
  | [], _, _, h => h
  | x :: xs, _, hm, ⟨v, r, h1, h2, h3⟩ => ⟨v, r, h1, Rep.cut c x v (Nat.le_trans (Nat.le_max_left _ _) hm) h2, Reps.cut c xs r (Nat.le_trans (Nat.le_max_right _ _) hm) h3⟩
end
theorem ORel.cut (c : Cut φ φ') {o : MO} {a : Addr} (hm : o.mx ≤ φ.ref.length) (h : ORel T φ' H o a) : ORel T φ H o a := by
  cases o with
  | lst _ => obtain ⟨vs, h1, h2, h3⟩ := h; exact ⟨vs, h1, h2, Reps.cut c _ _ hm h3⟩
  | dct lk _ _ => obtain ⟨kvs, h1, h2, h3⟩ := h; exact ⟨kvs, h1, h2, Reps.cut c _ _ hm h3⟩
  | ins _ _ => obtain ⟨dx, gs, h1, h2, h3⟩ := h; exact ⟨dx, gs, h1, h2, Reps.cut c _ _ hm h3⟩
  | exc _ _ =>
    obtain ⟨d, h1, h2⟩ := h
    refine ⟨d, h1, h2.1, fun z => ?_⟩
    obtain ⟨dd, gs, e1, e2, e3, e4, e5⟩ := h2.2 z
    exact ⟨dd, gs, e1, e2, c.no e3, e4, Reps.cut c _ _ hm e5⟩
/-- what is left where the rest goes -/
theorem gc_ok {ds : List D} (r0 : Rel T φ H st0) (r : Rel T φ' H' st) (e : Ext φ H φ' H') : ∃ φ2, Rel T φ2 H' (gc st0 ds st) ∧ Ext φ H φ2 H' ∧ (∀ vs, Reps T.K φ' H' ds vs → Reps T.K φ2 H' ds vs) ∧ ∀ a, φ'.no a → φ2.no a := by
  unfold gc
  split
  · rename_i hl
    obtain ⟨ψ, eψ, _⟩ := e.more
    have c : Cut φ φ' := ⟨⟨ψ, eψ⟩, e.hid⟩
    have hn : st0.length = φ.ref.length := r0.len.symm
    have hle : st0.length ≤ st.length := by rw [← r.len, eψ, List.length_append, hn]; exact Nat.le_add_right _ _
    refine ⟨φ, ⟨?_, r0.nd, fun k o hk => ?_, fun a ha => ?_⟩, ⟨⟨[], by simp, by simp⟩, rfl, fun a o h n => e.keep a o h n⟩, fun vs hv => Reps.cut c _ _ (by rw [← hn]; exact hl.1) hv, fun a h => c.no h⟩
    · rw [List.length_take, Nat.min_eq_left hle]; exact r0.len
    · have hk1 : k < st0.length := by
        have := (List.getElem?_eq_some_iff.mp hk).1
        rw [List.length_take] at this
        omega
      rw [List.getElem?_take_of_lt hk1] at hk
      obtain ⟨a, h1, h2⟩ := r.at_ k o hk
      rw [eψ, List.getElem?_append_left (by rw [← hn]; exact hk1)] at h1
      refine ⟨a, h1, h2.cut c ?_⟩
      rcases hl.2 k hk1 with q | ⟨o', q1, q2⟩
      · rw [hk] at q
        obtain ⟨a', _, h4⟩ := r0.at_ k o q.symm
        exact h4.mx
      · rw [hk] at q1
        cases q1
        rw [← hn]
        exact q2
    · obtain ⟨h1, h2⟩ := r.hid a (by rw [e.hid]; exact ha)
      exact ⟨fun m => h1 (by rw [eψ]; exact List.mem_append_left _ m), h2⟩
  · exact ⟨φ', r, e, fun _ h => h, fun _ h => h⟩
end

/-! ### a def -/
section
variable {Γ : Tx} {P : Pn} {t : Nm} {k : Nat}
theorem startE_ok {T : Rz} {φ : Fi} {H : Hp} {N : List Str} {ds : List D} {vs : List V} (hr : Reps T.K φ H ds vs) (hl : ds.length ≤ N.length) : EnvR T φ H (start N vs) (startE N.length ds) := by
  have e : start N vs = vs.map some ++ List.replicate (N.length - vs.length) none := by
    rfl
  refine ⟨?_, fun i d hd => ?_⟩
  · rw [e]
    unfold startE
    simp only [List.length_append, List.length_map, List.length_replicate]
    rw [hr.length]
  · unfold startE at hd
    by_cases hi : i < ds.length
    · rw [List.getElem?_append_left (by rw [List.length_map]; exact hi), List.getElem?_map] at hd
      cases q : ds[i]? with
      | none => rw [q] at hd; cases hd
      | some d' =>
        rw [q] at hd
        cases hd
        obtain ⟨v, h1, h2⟩ := hr.get q
        refine ⟨v, ?_, h2⟩
        rw [e, List.getElem?_append_left (by rw [List.length_map, hr.length]; exact hi), List.getElem?_map, h1]
        rfl
    · rw [List.getElem?_append_right (by rw [List.length_map]; omega)] at hd
      rw [List.getElem?_replicate] at hd
      split at hd <;> cases hd
/-- a def keeps its promise -/
theorem fng_def {cf : CF} {W0 : World} {K : PySem.W.Frag} {mg : Str → Option Value} {base : Heap} {Pr : Program} {f : Nat} {a : Addr} {x qual : Str} {params : Arguments} {body : List Stmt} {scope : Scope} {fd : FuncData} {N ps : List Str} {bd : List S}
    (F : FunD K x qual params body scope [] [] a fd) (S : FnScope N ps scope) (hN : ps.length ≤ N.length) (hc : chkSs P N bd scope (fun _ => true) body = true)
    (top : TopOk Γ P t K mg) (fns : Fns cf P t k Pr W0 K mg base)
    {cf' : CF} (hcf : ∀ ds st, ds.length = ps.length → cf' f ds st = retOf st (runs Γ cf bd (startE N.length ds) st)) :
    FnG Pr W0 K mg base (k + 2) a fd ps (spOf K t cf' f ps.length) := by
  obtain ⟨oc, od, dV, kV, doc, pm, an, cdv, ct, osl, rfl, lk, hcd, _, _⟩ := F.ex
  refine fng_of lk hcd S (fun vs H Q E h => sp_len h) fun A outer s H vs Q E hg hr hsp => ?_
  let X := cxOf (L2.CX Pr W0) Pr W0 K mg base N qual scope a cdv A outer s H E
  have tk : Takes X (fun cls d _ H' => E cls d H') := takes_of rfl rfl rfl rfl
  have own : PassesOwn (model X.prog X.w) X.A X.env X.xe := passes_of (X := X) (K := fun e s'' => L2.CX Pr W0 outer H s E e s'') (E₁ := fun e' s'' => L2.CX Pr W0 outer H s E e' s'') rfl
  have G : GoodS Γ cf P t k X (fun cls d _ H' => E cls d H') := ⟨⟨rfl, S.nd, hg, hr, tk, top, fns⟩, own, rfl, rfl, rfl⟩
  refine ⟨_, snd_stms bd X _ body G hc, ?_⟩
  obtain ⟨φ, ds, st, r, hrs, hl, o⟩ := hsp
  refine ⟨φ, startE N.length ds, st, r, startE_ok (T := rz X t) hrs (by rw [hl]; exact hN), ?_⟩
  rw [hcf ds st hl] at o
  cases q : runs Γ cf bd (startE N.length ds) st with
  | stk => rw [q] at o; exact o.elim
  | nx env st1 =>
    rw [q] at o
    intro φ1 H1 σ1 r1 e1 E1
    obtain ⟨φ2, r2, e2, h2, h2n⟩ := gc_ok (ds := [.non]) r r1 e1
    exact o φ2 H1 .non r2 e2 rfl
  | rt d st1 =>
    rw [q] at o
    intro φ1 H1 v r1 e1 p1
    obtain ⟨φ2, r2, e2, h2, h2n⟩ := gc_ok (ds := [d]) r r1 e1
    obtain ⟨v', ws, e3, h3, _⟩ := h2 [v] ⟨v, [], rfl, p1, rfl⟩
    cases e3
    exact o φ2 H1 v r2 e2 h3
  | ex c fs env st1 =>
    rw [q] at o
    intro φ1 H1 σ1 cls dd r1 e1 E1 x1
    obtain ⟨φ2, r2, e2, h2, h2n⟩ := gc_ok (ds := fs.map (·.2)) r r1 e1
    refine o φ2 H1 cls dd r2 e2 ⟨x1.1, x1.2.1, fun z => ?_⟩
    obtain ⟨d1, gs, q1, q2, q3, q4, q5⟩ := x1.2.2 z
    exact ⟨d1, gs, q1, q2, h2n _ q3, q4, h2 _ q5⟩
end
end Cip

set_option maxHeartbeats 4000000
/-! CipX5: error classes with an __init__: what the head looks at, what follows. -/
namespace Cip
open PySem PySem.Spec PyProof.Rows L2

def plainA (a : Arguments) (ps : List Str) : Bool := a.posonlyargs.isEmpty && a.kwonlyargs.isEmpty && a.vararg.isNone && a.kwarg.isNone && decide (a.args.map (·.arg) = ps)
/-- every parameter is given -/
theorem zip_lookup : ∀ {ps : List Str} {us : List Value}, ps.Nodup → ps.length = us.length → ∀ n ∈ ps, ((ps.zip us).lookup n).isSome = true
  | [], _, _, _, _, h => (List.not_mem_nil h).elim
  | p :: ps, [], _, h, _, _ => by cases h
  | p :: ps, u :: us, hn, hl, n, hm => by
    rw [List.zip_cons_cons, List.lookup_cons]
    by_cases e : (n == p) = true
    · rw [e] <;> rfl
    · rw [Bool.not_eq_true] at e
      rw [e]
      rcases List.mem_cons.mp hm with q | q
      · subst q; simp at e
      · exact zip_lookup (List.nodup_cons.mp hn).2 (by simpa using hl) n q
theorem filterMap_same {α β : Type} {f g : α → Option β} : ∀ {l : List α}, (∀ x ∈ l, f x = g x) → l.filterMap f = l.filterMap g
  | [], _ => rfl
  | a :: l, h => by
    rw [List.filterMap_cons, List.filterMap_cons, h a (by simp), filterMap_same fun x hx => h x (List.mem_cons_of_mem _ hx)]
theorem zip_filter : ∀ {ps : List Str} {us : List Value}, ps.Nodup → ps.length = us.length → ps.filterMap (fun n => ((ps.zip us).lookup n).map (n, ·)) = ps.zip us
  | [], _, _, _ => by simp
  | p :: ps, [], _, h => by cases h
  | p :: ps, u :: us, hn, hl => by
    have hn' := List.nodup_cons.mp hn
    rw [List.zip_cons_cons, List.filterMap_cons]
    simp only [List.lookup_cons, beq_self_eq_true, Option.map_some]
    congr 1
    have ih := zip_filter hn'.2 (show ps.length = us.length by simpa using hl)
    refine Eq.trans (filterMap_same fun n hm => ?_) ih
    have e : (n == p) = false := beq_eq_false_iff_ne.mpr fun e => hn'.1 (e ▸ hm)
    rw [e]
theorem bind_plain {x qual : Str} {params : Arguments} {body : List Stmt} {scope : Scope} {ps : List Str} {kV doc pm cdv ct : Value} {an : Option Addr} {us : List Value} (hp : plainA params ps = true) (hn : ps.Nodup) (hl : us.length = ps.length) :
    bindArgs (PySem.W.fnOf x qual params body scope .none kV doc pm an cdv ct) ⟨us, []⟩ = pure (ps.zip us) := by
  obtain ⟨po, ar, va, ko, kd, kw, de⟩ := params
  unfold plainA at hp
  simp only [Bool.and_eq_true] at hp
  obtain ⟨⟨⟨⟨h1, h2⟩, h3⟩, h4⟩, h5⟩ := hp
  obtain rfl : po = [] := List.isEmpty_iff.mp h1
  obtain rfl : ko = [] := List.isEmpty_iff.mp h2
  obtain rfl : va = none := by simpa using h3
  obtain rfl : kw = none := by simpa using h4
  obtain rfl := of_decide_eq_true h5
  have hf := zip_filter hn hl.symm
  have hsome := zip_lookup hn hl.symm
  have hmiss : ((ar.map (·.arg)).filter fun n => (((ar.map (·.arg)).zip us).lookup n).isNone) = [] := by
    rw [List.filter_eq_nil_iff]
    intro n hm
    have := hsome n hm
    cases q : ((ar.map (·.arg)).zip us).lookup n <;> simp_all
  have e0 : seqItems? .none = (pure none : Sem (Option (Array Value))) := rfl
  unfold bindArgs PySem.W.fnOf
  simp only [e0]
  have pb : ∀ {α β : Type} (a : α) (f : α → Sem β), (pure a >>= f) = f a := fun a f => rfl
  simp [pb, hl, hmiss, hf]
  rw [if_neg]
  · rw [← List.filterMap_map, hf]
  · have ht : ∀ (l : List Value), List.take ((List.map (fun x : Arg => x.arg) [] ++ List.map (fun x => x.arg) ar).length - (List.drop ((#[] : Array Value).size - (List.map (fun x : Arg => x.arg) [] ++ List.map (fun x => x.arg) ar).length) ([] : List Value)).length) (List.map (fun x : Arg => x.arg) [] ++ List.map (fun x => x.arg) ar) = List.map (fun x => x.arg) ar := by
      intro l
      simp
      rw [List.take_of_length_le]
      simp
    rw [ht [], hmiss]
    simp
theorem bind_plainX {x qual : Str} {params : Arguments} {body : List Stmt} {scope : Scope} {ps : List Str} {kV doc pm cdv ct : Value} {an : Option Addr} {us : List Value} {cl : List (Str × Addr)} (hp : plainA params ps = true) (hn : ps.Nodup) (hl : us.length = ps.length) :
    bindArgs (PySem.W.fnX x qual params body scope cl .none kV doc pm an cdv ct) ⟨us, []⟩ = pure (ps.zip us) := by
  obtain ⟨po, ar, va, ko, kd, kw, de⟩ := params
  unfold plainA at hp
  simp only [Bool.and_eq_true] at hp
  obtain ⟨⟨⟨⟨h1, h2⟩, h3⟩, h4⟩, h5⟩ := hp
  obtain rfl : po = [] := List.isEmpty_iff.mp h1
  obtain rfl : ko = [] := List.isEmpty_iff.mp h2
  obtain rfl : va = none := by simpa using h3
  obtain rfl : kw = none := by simpa using h4
  obtain rfl := of_decide_eq_true h5
  have hf := zip_filter hn hl.symm
  have hsome := zip_lookup hn hl.symm
  have hmiss : ((ar.map (·.arg)).filter fun n => (((ar.map (·.arg)).zip us).lookup n).isNone) = [] := by
    rw [List.filter_eq_nil_iff]
    intro n hm
    have := hsome n hm
    cases q : ((ar.map (·.arg)).zip us).lookup n <;> simp_all
  have e0 : seqItems? .none = (pure none : Sem (Option (Array Value))) := rfl
  unfold bindArgs PySem.W.fnX
  simp only [e0]
  have pb : ∀ {α β : Type} (a : α) (f : α → Sem β), (pure a >>= f) = f a := fun a f => rfl
  simp [pb, hl, hmiss, hf]
  rw [if_neg]
  · rw [← List.filterMap_map, hf]
  · have ht : ∀ (l : List Value), List.take ((List.map (fun x : Arg => x.arg) [] ++ List.map (fun x => x.arg) ar).length - (List.drop ((#[] : Array Value).size - (List.map (fun x : Arg => x.arg) [] ++ List.map (fun x => x.arg) ar).length) ([] : List Value)).length) (List.map (fun x : Arg => x.arg) [] ++ List.map (fun x => x.arg) ar) = List.map (fun x => x.arg) ar := by
      intro l
      simp
      rw [List.take_of_length_le]
      simp
    rw [ht [], hmiss]
    simp

/-! ### the fields' assignments -/
def kFlds (ps : List Str) (sc : Scope) (fl : Nat → Str) : List (Nat × Nat) → List Stmt → Bool
  | [], ss => ss.isEmpty
  | q :: r, ss => match ss with
    | .Assign [.Attribute (.Name a _) g _] (.Name b _) _ :: ss => decide (ps[0]? = some a) && decide (g = fl q.1) && decide (ps[q.2 + 1]? = some b) && visB sc a && visB sc b && nm0 a && nm0 b && kFlds ps sc fl r ss
    | _ => false
def tFlds (K : PySem.W.Frag) (fl : Nat → Str) : List (Nat × Nat) → TS
  | [] => tNext
  | q :: r => tSeq (tOst K (fl q.1) (tVar 0) (tVar (q.2 + 1))) (tFlds K fl r)
theorem pss_flds {X : Cx} {fl : Nat → Str} : ∀ {fs : List (Nat × Nat)} {ss : List Stmt}, kFlds X.N X.env.scope fl fs ss = true → PSs X ss (tFlds X.K fl fs)
  | [], ss, h => by
    obtain rfl : ss = [] := List.isEmpty_iff.mp h
    exact pss_nil
  | q :: r, ss, h => by
    unfold kFlds at h
    split at h
    · rename_i a p1 g p2 b p3 p4 ss
      simp only [Bool.and_eq_true, decide_eq_true_eq] at h
      obtain ⟨⟨⟨⟨⟨⟨⟨h1, h2⟩, h3⟩, h4⟩, h5⟩, h6⟩, h7⟩, h8⟩ := h
      subst h2
      exact pss_cons (ps_ost (pe_var h1 (visB_ok h4) (nm0_d h6) (nm0_c h6)) (pe_var h3 (visB_ok h5) (nm0_d h7) (nm0_c h7))) (pss_flds h8)
    · cases h
section
variable {K : PySem.W.Frag} {C a : Addr} {fl : Nat → Str} {De : Ends} {σ : L2.St} {ws : List V}
/-- the fields' dict behind the assignments -/
def gsV (fl : Nat → Str) (ws : List V) : List (Nat × Nat) → List (Str × V) → Option (List (Str × V))
  | [], acc => some acc
  | p :: r, acc => match ws[p.2]? with
    | some v => gsV fl ws r ((fl p.1, v) :: acc)
    | none => none
theorem flds_old (T : OexC K C) (h0 : σ[0]? = some (some (.ref a))) (hw : ∀ (i : Nat) (v : V), ws[i]? = some v → σ[i + 1]? = some (some v)) {dx : Addr} (hne : dx ≠ a) : ∀ {fs : List (Nat × Nat)} {gs0 gs : List (Str × V)} {H : Hp},
    (∀ p ∈ fs, PySem.W.findIn K (.ref C) (fl p.1) = some none) → H a = some (exo a C (some dx)) → H dx = some (exd dx gs0) → gs0.length + fs.length ≤ 900 → gsV fl ws fs gs0 = some gs → De.nx σ (upd H dx (exd dx gs)) → tFlds K fl fs De σ H
  | [], gs0, gs, H, _, ha, hd, _, hg, q => by
    cases hg
    have e : upd H dx (exd dx gs0) = H := by
      funext b
      by_cases hb : b = dx
      · rw [hb, upd_same, hd]
      · rw [upd_ne hb]
    rw [e] at q
    exact q
  | p :: r, gs0, gs, H, hn, ha, hd, hl, hg, q => by
    simp only [gsV] at hg
    split at hg
    · rename_i v hv
      refine ⟨v, hw _ _ hv, .ref a, h0, a, C, rfl, T, hn p (by simp), .inr ⟨dx, gs0, ha, hd, by omega, ?_⟩⟩
      refine flds_old T h0 hw hne (gs0 := (fl p.1, v) :: gs0) (gs := gs) (fun x hx => hn x (List.mem_cons_of_mem _ hx)) (by rw [upd_ne (Ne.symm hne)]; exact ha) upd_same (by simp at hl ⊢; omega) hg ?_
      have e : upd (upd H dx (exd dx ((fl p.1, v) :: gs0))) dx (exd dx gs) = upd H dx (exd dx gs) := by
        funext b
        by_cases hb : b = dx
        · rw [hb, upd_same, upd_same]
        · rw [upd_ne hb, upd_ne hb, upd_ne hb]
      rw [e]
      exact q
    · cases hg
theorem flds_new (T : OexC K C) (h0 : σ[0]? = some (some (.ref a))) (hw : ∀ (i : Nat) (v : V), ws[i]? = some v → σ[i + 1]? = some (some v)) {fs : List (Nat × Nat)} {gs : List (Str × V)} {H : Hp} (hf : fs ≠ [])
    (hn : ∀ p ∈ fs, PySem.W.findIn K (.ref C) (fl p.1) = some none) (ha : H a = some (exo a C none)) (hl : fs.length ≤ 900) (hg : gsV fl ws fs [] = some gs)
    (q : ∀ dx, H dx = none → dx ≠ a → De.nx σ (upd (upd H a (exo a C (some dx))) dx (exd dx gs))) : tFlds K fl fs De σ H := by
  cases fs with
  | nil => exact (hf rfl).elim
  | cons p r =>
    simp only [gsV] at hg
    split at hg
    · rename_i v hv
      refine ⟨v, hw _ _ hv, .ref a, h0, a, C, rfl, T, hn p (by simp), .inl ⟨ha, fun dx hdx hne => ?_⟩⟩
      refine flds_old T h0 hw hne (gs0 := [(fl p.1, v)]) (gs := gs) (fun x hx => hn x (List.mem_cons_of_mem _ hx)) upd_same (by rw [upd_ne hne, upd_same]) (by simp at hl ⊢; omega) hg ?_
      have e : upd (upd (upd H dx (exd dx [(fl p.1, v)])) a (exo a C (some dx))) dx (exd dx gs) = upd (upd H a (exo a C (some dx))) dx (exd dx gs) := by
        funext b
        by_cases hb : b = dx
        · rw [hb, upd_same, upd_same]
        · rw [upd_ne hb, upd_ne hb]
          by_cases hba : b = a
          · rw [hba, upd_same, upd_same]
          · rw [upd_ne hba, upd_ne hba, upd_ne hb]
      rw [e]
      exact q dx hdx hne
    · cases hg
/-- the fields' names and values -/
theorem gsV_ok {T : Rz} {φ : Fi} {H : Hp} {ds : List D} (hr : Reps T.K φ H ds ws) : ∀ {fs : List (Nat × Nat)} {acc out : List (Nat × D)} {ga : List (Str × V)}, ga.map (·.1) = acc.map (fun p => T.fnm p.1) → Reps T.K φ H (acc.map (·.2)) (ga.map (·.2)) → fsD ds fs acc = some out →
    ∃ gs, gsV T.fnm ws fs ga = some gs ∧ gs.map (·.1) = out.map (fun p => T.fnm p.1) ∧ Reps T.K φ H (out.map (·.2)) (gs.map (·.2))
  | [], acc, out, ga, h1, h2, h => by
    cases h
    exact ⟨ga, rfl, h1, h2⟩
  | p :: r, acc, out, ga, h1, h2, h => by
    simp only [fsD] at h
    split at h
    · rename_i d hd
      obtain ⟨v, hv, rv⟩ := hr.get hd
      simp only [gsV, hv]
      exact gsV_ok hr (acc := (p.1, d) :: acc) (ga := (T.fnm p.1, v) :: ga) (by simp [h1]) ⟨v, ga.map (·.2), rfl, rv, h2⟩ h
    · cases h
end

/-! ### the message -/
def Γ0 : Tx := ⟨fun _ => none, fun _ _ => none, fun _ => none, fun _ _ => none, fun _ => none, fun _ _ => false⟩
def cf0 : CF := fun _ _ _ => .stk
def P0 : Pn := ⟨fun _ => Str.empty, fun _ => false, fun _ => Str.empty, fun _ => Str.empty, fun _ => Str.empty, fun _ => Str.empty, fun _ _ => false, fun _ _ => false, fun _ _ => false, fun _ => false, fun _ => none⟩
theorem part_ev {ds : List D} {st : Store} {e : E} {d : D} (h : partD ds e = some d) : ev Γ0 cf0 e (none :: ds.map some) st = .ok d st := by
  cases e <;> first | (cases h; done) | skip
  · rename_i x
    cases h
    simp only [ev]
  · rename_i i
    simp only [partD] at h
    split at h
    · cases h
    · rename_i hi
      obtain ⟨j, rfl⟩ : ∃ j, i = j + 1 := ⟨i - 1, by omega⟩
      simp only [Nat.add_sub_cancel] at h
      simp only [ev, List.getElem?_cons_succ, List.getElem?_map, h, Option.map_some]
theorem msg_evF {ds : List D} {st : Store} : ∀ {es : List E} {acc y : Str}, msgF ds es acc = some y → evF Γ0 cf0 es acc (none :: ds.map some) st = .ok (.str y) st
  | [], acc, y, h => by
    cases h
    simp only [evF]
  | e :: es, acc, y, h => by
    simp only [msgF] at h
    cases q : partD ds e with
    | none => rw [q] at h; cases h
    | some d =>
      rw [q, Option.bind_some] at h
      cases q2 : strD d with
      | none => rw [q2] at h; cases h
      | some z =>
        rw [q2, Option.bind_some] at h
        split at h
        · rename_i hl
          simp only [evF, part_ev q, R.bind, q2, if_pos hl]
          exact msg_evF h
        · cases h
theorem msg_ev {ds : List D} {st : Store} {e : E} (h : msgOk ds e = true) : ∃ y, ev Γ0 cf0 e (none :: ds.map some) st = .ok (.str y) st := by
  cases e <;> first | (cases h; done) | skip
  · rename_i x
    exact ⟨x, by simp only [ev]⟩
  · rename_i es
    simp only [msgOk] at h
    obtain ⟨y, hy⟩ := Option.isSome_iff_exists.mp h
    exact ⟨y, by simp only [ev]; exact msg_evF hy⟩
theorem top0 {t : Nm} {K : PySem.W.Frag} {mg : Str → Option Value} (hb : ∀ x ∈ bltNames, mg x = none) (hi : ∀ f g, t.fnm f = t.fnm g → f = g) : TopOk Γ0 P0 t K mg where
  con := fun i d h => nomatch (show (none : Option D) = some d from h)
  blt := hb
  nm := ⟨hi, fun c f h => nomatch (show false = true from h)⟩
  exc := fun c h => nomatch (show false = true from h)
  sub := fun c c' b h => nomatch (show (none : Option Bool) = some b from h)
  exf := fun c ds fs h => nomatch (show (none : Option (List (Nat × D))) = some fs from h)
  exn := fun c h _ => nomatch (show false = true from h)
  ve := fun c b h => nomatch (show (none : Option Bool) = some b from h)
  xfl := fun c f h => nomatch (show false = true from h)
theorem fns0 {t : Nm} {k : Nat} {Pr : Program} {w : World} {K : PySem.W.Frag} {mg : Str → Option Value} {base : Heap} : Fns cf0 P0 t k Pr w K mg base where
  fn := fun f h => nomatch (show false = true from h)
  mth := fun c f h => nomatch (show false = true from h)
  xin := fun c x h _ => nomatch (show false = true from h)
  ini := fun c f h => nomatch (show false = true from h)
end Cip

set_option maxHeartbeats 4000000
/-! CipX6: error classes with an __init__, decided. -/
namespace Cip
open PySem PySem.Spec PyProof.Rows L2

def kscB (ps : List Str) (sc : Scope) : Bool := (match sc.kind with | .function => true | _ => false) && !sc.isCoroutine && !sc.isGenerator && decide ps.Nodup && ps.all (fun x => kindB sc x .local) &&
  sc.names.all (fun y => match y.2 with | .cell => false | .free => decide (y.1 = ("__class__" : Str)) | _ => true) && kindB sc "__class__" .free && kindB sc "super" .globalImplicit
theorem kscB_ok {ps : List Str} {sc : Scope} (h : kscB ps sc = true) : KScope ps ps sc := by
  unfold kscB at h
  simp only [Bool.and_eq_true, Bool.not_eq_true', decide_eq_true_eq] at h
  obtain ⟨⟨⟨⟨⟨⟨⟨h1, h2⟩, h3⟩, h4⟩, h5⟩, h6⟩, h7⟩, h8⟩ := h
  refine ⟨?_, h2, h3, h4, List.take_length, fun x hx => kindB_ok (List.all_eq_true.mp h5 x hx), fun y hy e => ?_, fun y hy e => ?_, kindB_ok h7, kindB_ok h8⟩
  · split at h1
    · assumption
    · cases h1
  · have z := List.all_eq_true.mp h6 y hy
    rw [e] at z
    cases z
  · have z := List.all_eq_true.mp h6 y hy
    rw [e] at z
    exact of_decide_eq_true z
/-- super().__init__(e) -/
def supE : Stmt → Option PySem.Expr
  | .Expr (.Call (.Attribute (.Call (.Name su _) [] [] _) ini p2) [e] [] p3) _ => if (decide (su = ("super" : Str)) && decide (ini = ("__init__" : Str)) && (p2.endLine == p3.line) && headOk e) = true then some e else none
  | _ => none
theorem supE_ok {s : Stmt} {e : PySem.Expr} (h : supE s = some e) : ∃ p0 p1 p2 p3 p4, s = .Expr (.Call (.Attribute (.Call (.Name "super" p0) [] [] p1) "__init__" p2) [e] [] p3) p4 ∧ (p2.endLine == p3.line) = true ∧ headOk e = true := by
  unfold supE at h
  split at h
  · split at h
    · rename_i hc
      cases h
      simp only [Bool.and_eq_true, decide_eq_true_eq] at hc
      obtain ⟨⟨⟨h1, h2⟩, h3⟩, h4⟩ := hc
      subst h1 h2
      exact ⟨_, _, _, _, _, rfl, h3, h4⟩
    · cases h
  · cases h
def fileB (K : PySem.W.Frag) (cda : Addr) (F : Str) : Bool := match K.lookup cda with
  | some ⟨_, _, .fields vs, _⟩ => (match (vs[2]? : Option Value) with
    | some (Value.str y _) => decide (F = y)
    | _ => false)
  | _ => false
def celB (K : PySem.W.Frag) (cc C : Addr) : Bool := match K.lookup cc with
  | some ⟨_, _, .cell (some (.ref C')), _⟩ => C' == C
  | _ => false
/-- the __init__ as it stands -/
def fdB (K : PySem.W.Frag) (F : Str) (fl : Nat → Str) (x : XD) (C : Addr) (fd : FuncData) : Bool := match fd.closure, fd.body, fd.code, fd.defaults with
  | [(cn, cc)], .stmts (s0 :: rest), .ref cda, .none => (match supE s0 with
    | some e => decide (cn = ("__class__" : Str)) && decide (fd.globals = mainGlobals) && decide (fd.builtins = builtinsNs) && PySem.W.codeIn K (.ref cda) fd.qualname && plainA fd.params (fd.params.args.map (·.arg)) && kscB (fd.params.args.map (·.arg)) fd.scope &&
      decide ((fd.params.args.map (·.arg)).length = x.n + 1) && chk P0 (fd.params.args.map (·.arg)) x.msg fd.scope e && kFlds (fd.params.args.map (·.arg)) fd.scope fl x.fs rest && fileB K cda F && celB K cc C
    | none => false)
  | _, _, _, _ => false
def xinB (K : PySem.W.Frag) (F : Str) (fl : Nat → Str) (x : XD) (C : Addr) : Bool :=
  oexB K C && !x.fs.isEmpty && decide (x.n ≤ 1000) && decide (x.fs.length ≤ 900) && decide (PySem.W.mroIn K C (.ref C) = some true) && decide (PySem.W.subIn K (.ref C) (.type "ValueError") = some true) && decide (PySem.W.nsIn K mainGlobals "super" = some none) &&
  decide (PySem.W.nsIn K cStatics "thirdparty.any" = some none) && decide (PySem.W.ks_superIn K C C "__init__" = some (some (.builtin "ValueError.__init__"))) && decide (PySem.W.findIn K (.ref C) "__init__" = some (some (.ref (He.ma K C "__init__")))) &&
  decide (PySem.W.typeIn K (.ref (He.ma K C "__init__")) = some (.type "function")) && x.fs.all (fun p => decide (PySem.W.findIn K (.ref C) (fl p.1) = some none)) && (match K.lookup (He.ma K C "__init__") with
    | some ⟨_, _, .func fd, _⟩ => fdB K F fl x C fd
    | _ => false)
section
variable {Pr : Program} {w : World} {K : PySem.W.Frag} {mg : Str → Option Value} {base : Heap} {t : Nm} {x : XD} {c : Nat} {F : Str}
theorem xin_ok (hF : Pr.main.file = F) (htop : (Pr.main.scope.names.lookup ("super" : Str)).isSome = false) (hb : ∀ x ∈ bltNames, mg x = none) (hi : ∀ f g, t.fnm f = t.fnm g → f = g) (h : xinB K F t.fnm x (t.cls c) = true) : XinOk Pr w K mg base 2 t x c := by
  unfold xinB at h
  simp only [Bool.and_eq_true, decide_eq_true_eq] at h
  obtain ⟨⟨⟨⟨⟨⟨⟨⟨⟨⟨⟨⟨h1, h2⟩, h3⟩, h4⟩, h5⟩, h6⟩, h7⟩, h8⟩, h9⟩, h10⟩, h11⟩, h12⟩, h13⟩ := h
  have oc := oexB_ok h1
  have hne : x.fs ≠ [] := fun z => by
    rw [z] at h2
    cases h2
  split at h13
  · rename_i oc' od fd osl hk
    obtain ⟨name, qual, params, body, scope, globals, closure, dV, kV, doc, pm, an, code, ct, bl⟩ := fd
    unfold fdB at h13
    dsimp only at h13
    split at h13
    · rename_i cn cc s0 rest cda
      split at h13
      · rename_i e hs
        obtain ⟨p0, p1, p2, p3, p4, rfl, hln, hho⟩ := supE_ok hs
        simp only [Bool.and_eq_true, decide_eq_true_eq] at h13
        obtain ⟨⟨⟨⟨⟨⟨⟨⟨⟨⟨g1, g2⟩, g3⟩, g4⟩, g5⟩, g6⟩, g7⟩, g8⟩, g9⟩, g10⟩, g11⟩ := h13
        subst g1 g2 g3
        have S := kscB_ok g6
        have hfile : ∃ ccl cdd cvs ccs tf, K.lookup cda = some ⟨ccl, cdd, .fields cvs, ccs⟩ ∧ cvs[2]? = some (.str F tf) := by
          unfold fileB at g10
          split at g10
          · rename_i ccl cdd vs ccs hc
            split at g10
            · rename_i y tf hv
              obtain rfl := of_decide_eq_true g10
              exact ⟨_, _, _, _, _, hc, hv⟩
            · cases g10
          · cases g10
        obtain ⟨ccl, cdd, cvs, ccs, tf, hcode, hvs⟩ := hfile
        have hcell : ∃ cl cld csl, K.lookup cc = some ⟨cl, cld, .cell (some (.ref (t.cls c))), csl⟩ := by
          unfold celB at g11
          split at g11
          · rename_i cl cld C' csl hc
            obtain rfl := beq_iff_eq.mp g11
            exact ⟨_, _, _, hc⟩
          · cases g11
        obtain ⟨cl, cld, csl, hcell⟩ := hcell
        have hpa := g5
        unfold plainA at hpa
        simp only [Bool.and_eq_true] at hpa
        obtain ⟨⟨⟨⟨q1, q2⟩, q3⟩, q4⟩, q5⟩ := hpa
        obtain ⟨ar, ars, har⟩ : ∃ ar ars, params.args = ar :: ars := by
          cases z : params.args with
          | nil =>
            rw [z] at g7
            simp at g7
          | cons ar ars => exact ⟨ar, ars, rfl⟩
        have hp : (params.posonlyargs ++ params.args).head? = some ar := by
          rw [List.isEmpty_iff.mp q1, har]
          rfl
        have ha0 : (params.args.map (·.arg))[0]? = some ar.arg := by
          rw [har]
          rfl
        refine ⟨oc, hne, h3, He.ma K (t.cls c) "__init__", PySem.W.ksFn name qual params (.Expr (.Call (.Attribute (.Call (.Name "super" p0) [] [] p1) "__init__" p2) [e] [] p3) p4 :: rest) scope .none kV doc pm an (.ref cda) ct cc, params.args.map (·.arg), h10, h11, Binds.all fun us hl => bind_plainX g5 S.nd hl, ?_⟩
        refine fng_super hk g4 S oc hp ha0 hcode hvs (by rw [hF]; exact beq_self_eq_true F) hcell h5 h6 h7 htop h8 h9 (fun env => head_star hho) hln (fun vs H Q E hsp => by rw [hsp.1, g7]) fun A outer s H vs Q E hg hr hsp => ?_
        obtain ⟨hvl, a, ws, φ, ds, st, fs, rfl, ha, na, r, hrs, hf, hcont⟩ := hsp
        unfold exfX at hf
        split at hf
        · rename_i hc
          obtain ⟨hlen, hmsg⟩ := hc
          obtain ⟨y, hy⟩ := msg_ev (st := st) hmsg
          have G : Good Γ0 cf0 P0 t 0 (cxK (L2.CX Pr w) Pr w K mg base (params.args.map (·.arg)) qual scope (He.ma K (t.cls c) "__init__") cc (.ref cda) A outer s H E) (fun _ _ _ _ => False) := ⟨rfl, S.nd, hg, hr, takes0, top0 hb hi, fns0⟩
          obtain ⟨he, _⟩ := (snd_all (Γ := Γ0) (cf := cf0) (P := P0) (t := t) (k := 0) x.msg).1 _ _ e G g8
          have est : L2.start (params.args.map (·.arg)) (.ref a :: ws) = (V.ref a :: ws).map some := by
            unfold L2.start
            rw [g7, ← hvl, Nat.sub_self]
            simp
          have hwl : ws.length = ds.length := hrs.length
          have hw : ∀ (i : Nat) (v : V), ws[i]? = some v → (L2.start (params.args.map (·.arg)) (.ref a :: ws))[i + 1]? = some (some v) := fun i v hv => by
            rw [est, List.map_cons, List.getElem?_cons_succ, List.getElem?_map, hv]
            rfl
          have h0 : (L2.start (params.args.map (·.arg)) (.ref a :: ws))[0]? = some (some (.ref a)) := by
            rw [est]
            rfl
          refine ⟨a, ws, _, tFlds K t.fnm x.fs, rfl, ha, he, pss_flds g9, φ, none :: ds.map some, st, r, ⟨?_, fun i d hd => ?_⟩, ?_⟩
          · rw [est]
            simp [hwl]
          · cases i with
            | zero => cases hd
            | succ i =>
              rw [List.getElem?_cons_succ, List.getElem?_map] at hd
              cases q : ds[i]? with
              | none => rw [q] at hd; cases hd
              | some d' =>
                rw [q] at hd
                cases hd
                obtain ⟨v, z1, z2⟩ := hrs.get q
                exact ⟨v, hw i v z1, z2⟩
          · rw [hy]
            intro φ' H' v r' e' p'
            have ha' := e'.keep _ _ ha na
            obtain ⟨gs, z1, z2, z3⟩ := gsV_ok (T := ⟨K, t.cls, t.fnm⟩) (φ := φ') (H := H') (ws := ws) (r.reps e' hrs) (acc := []) (ga := []) rfl rfl hf
            exact ⟨ha', flds_new oc h0 hw hne (fun p hp => of_decide_eq_true (List.all_eq_true.mp h12 p hp)) ha' h4 z1 fun dx hdx hnd => hcont φ' H' dx gs r' e' ha' hdx hnd z2 z3⟩
        · cases hf
      · cases h13
    · cases h13
  · cases h13
end
end Cip

set_option maxHeartbeats 4000000
/-! Cip24: constants, tables of defs, the law's end. -/
namespace Cip
open PySem PySem.Spec PyProof.Rows L2

/-! ### constants -/
mutual
/-- the object u of the written part is the value d -/
def conB (K : PySem.W.Frag) : D → Value → Bool
  | .non, u => match u with | .none => true | _ => false
  | .bl b, u => match u with | .bool c => b == c | _ => false
  | .int i, u => match u with | .int j _ => decide (i = j) | _ => false
  | .str x, u => match u with | .str y _ => decide (x = y) && decide (x.length ≤ sizeLine) | _ => false
  | .tup ds, u => match u with
    | .ref a => match K.lookup a with
      | some ⟨.type c, none, .seq its _, _⟩ => decide (c = "tuple") && decide (its.size ≤ sizeLine) && conBs K ds its.toList
      | _ => false
    | _ => false
  | .lst _, _ => false
  | .dct _ _, _ => false
  | .scr _, _ => false
  | .ref _, _ => false
def conBs (K : PySem.W.Frag) : List D → List Value → Bool
  | [], us => us.isEmpty
  | d :: ds, us => match us with
    | u :: us => conB K d u && conBs K ds us
    | [] => false
end
section
variable {K : PySem.W.Frag}
mutual
theorem conB_ok : ∀ (d : D) (u : Value), conB K d u = true → ∃ v, RelV v u ∧ d.isL = false ∧ (∀ φ H, Rep K φ H d v) ∧ ∀ ds, d = .tup ds → ∃ a o, v = .ref a ∧ K.lookup a = some o ∧ o.cls = .type "tuple" ∧ o.dict = none
  | .non, u, h => by
    unfold conB at h
    split at h
    · exact ⟨.non, rfl, rfl, fun _ _ => rfl, fun _ e => nomatch e⟩
    · cases h
  | .bl b, u, h => by
    unfold conB at h
    split at h
    · obtain rfl := beq_iff_eq.mp h
      exact ⟨.bl b, rfl, rfl, fun _ _ => rfl, fun _ e => nomatch e⟩
    · cases h
  | .int i, u, h => by
    unfold conB at h
    split at h
    · obtain rfl := of_decide_eq_true h
      exact ⟨.int i, ⟨_, rfl⟩, rfl, fun _ _ => rfl, fun _ e => nomatch e⟩
    · cases h
  | .str x, u, h => by
    unfold conB at h
    split at h
    · rw [Bool.and_eq_true] at h
      obtain rfl := of_decide_eq_true h.1
      exact ⟨.str x, ⟨_, rfl⟩, rfl, fun _ _ => ⟨rfl, of_decide_eq_true h.2⟩, fun _ e => nomatch e⟩
    · cases h
  | .tup ds, u, h => by
    unfold conB at h
    split at h
    · rename_i a
      split at h
      · rename_i c its n sl hk
        rw [Bool.and_eq_true, Bool.and_eq_true] at h
        obtain ⟨⟨h1, h2⟩, h3⟩ := h
        obtain rfl := of_decide_eq_true h1
        obtain ⟨vs, q1, q2, q3⟩ := conBs_ok ds its.toList h3
        refine ⟨.ref a, rfl, rfl, fun φ H => ⟨a, vs, rfl, .inr ⟨_, its, n, hk, rfl, rfl, of_decide_eq_true h2, q1⟩, ?_, q3 φ H⟩, fun _ _ => ⟨a, _, rfl, hk, rfl, rfl⟩⟩
        rw [q2, Array.length_toList]
        exact of_decide_eq_true h2
      · cases h
    · cases h
  | .lst _, _, h => by cases h
  | .dct _ _, _, h => by cases h
  | .scr _, _, h => by cases h
  | .ref _, _, h => by cases h
theorem conBs_ok : ∀ (ds : List D) (us : List Value), conBs K ds us = true → ∃ vs, Vals vs us ∧ ds.length = us.length ∧ ∀ φ H, Reps K φ H ds vs
  | [], us, h => by
    obtain rfl : us = [] := List.isEmpty_iff.mp h
    exact ⟨[], .nil, rfl, fun _ _ => rfl⟩
  | d :: ds, us, h => by
    unfold conBs at h
    split at h
    · rename_i u us
      rw [Bool.and_eq_true] at h
      obtain ⟨v, q1, _, q2, _⟩ := conB_ok d u h.1
      obtain ⟨vs, q3, q4, q5⟩ := conBs_ok ds us h.2
      exact ⟨v :: vs, .cons q1 q3, by simp [q4], fun φ H => ⟨v, vs, rfl, q2 φ H, q5 φ H⟩⟩
    · cases h
end
end
/-- the module's names that stand for values -/
def consB (K : PySem.W.Frag) (cons : List (Str × D)) : Bool := cons.all fun p => match PySem.W.nsIn K mainGlobals p.1 with
  | some (some u) => conB K p.2 u
  | _ => false

/-- own classes: the fields' names; each class's name and its fields -/
structure ClS where
  fl : List Str
  cs : List (Str × List Nat)
  /-- error classes: their names, the places of those that stand over them (themselves too); their numbers are 1000 and on -/
  xs : List (Str × List Nat) := []
  /-- error classes with an __init__, by their numbers; the file that the program's text is -/
  xd : List (Nat × XD) := []
  file : Str := Str.empty
def ClS.nil : ClS := { fl := [], cs := [] }
def ClS.nm (C : ClS) (c : Nat) : Str := match C.cs[c]? with
  | some p => p.1
  | none => (C.xs.getD (c - 1000) (Str.empty, [])).1
def ClS.hasX (C : ClS) (c : Nat) : Bool := decide (C.cs.length ≤ c) && decide (1000 ≤ c) && decide (c - 1000 < C.xs.length)
def ClS.fnm (C : ClS) (i : Nat) : Str := C.fl[i]?.getD ⟨Array.replicate (i + 1) 33⟩
def ClS.xn (C : ClS) (k : Nat) : Str := (C.xs.getD k (Str.empty, [])).1

/-! ### error classes -/
/-- what the class named x must have -/
def xcB (K : PySem.W.Frag) (x : Str) : Bool :=
  decide (PySem.W.nsIn K mainGlobals x = some (some (.ref (He.ga K x)))) && (PySem.W.keepIn K (.ref (He.ga K x)) && (decide (PySem.W.typeIn K (.ref (He.ga K x)) = some (.type "type")) &&
  (decide (PySem.W.findIn K (.ref (He.ga K x)) "__getattribute__" = some (some (.builtin "BaseException.__getattribute__"))) && (decide (PySem.W.findIn K (.ref (He.ga K x)) "__getattr__" = some none) && (decide (PySem.W.subIn K (.ref (He.ga K x)) (.type "BaseException") = some true) &&
  (PySem.W.hasDictIn K (He.ga K x) && (decide (PySem.W.findIn K (.ref (He.ga K x)) "__class__" = some (some (.builtin "object.__class__"))) && (decide (PySem.W.specialIn K (.builtin "object.__class__") "__get__" = some (some (.builtin "getset_descriptor.__get__"))) &&
  (decide (PySem.W.takesIn K (.builtin "object.__class__") = some true) && decide (PySem.W.mroIn K (He.ga K x) (.type "object") = some true))))))))))
theorem xcB_ok {K : PySem.W.Frag} {h : Heap} {mg : Str → Option Value} {x : Str} (KX : K.In h) (G : h.Ns mainGlobals mg) (c : xcB K x = true) : XcOk K mg x (He.ga K x) := by
  unfold xcB at c
  simp only [Bool.and_eq_true, decide_eq_true_eq] at c
  obtain ⟨c1, c3, c4, c5, c6, c7, c8, c9, c10, c11, c12⟩ := c
  exact ⟨PySem.W.mg_of KX G c1, c3, c4, ⟨c5, c6, c7, c8, c9, c10, c11, c12⟩⟩
/-- how such an error is made -/
def xiB (K : PySem.W.Frag) (C : ClS) (k : Nat) : Bool := match C.xd.lookup (k + 1000) with
  | none => PySem.W.excIn K (He.ga K (C.xn k)) He.veBase "ValueError.__new__"
  | some d => xinB K C.file C.fnm d (He.ga K (C.xn k))
/-- which error classes stand over which -/
def xsB (K : PySem.W.Frag) (C : ClS) : Bool := (List.range C.xs.length).all fun k => xcB K (C.xn k) && xiB K C k && decide (PySem.W.kitOne K (.ref (He.ga K (C.xn k))) (.type "ValueError") = some true) && (List.range C.xs.length).all fun j =>
  decide (PySem.W.exmOne K (.ref (He.ga K (C.xn k))) (.ref (He.ga K (C.xn j))) = some ((C.xs.getD k (Str.empty, [])).2.contains j)) && decide (PySem.W.kitOne K (.ref (He.ga K (C.xn k))) (.ref (He.ga K (C.xn j))) = some ((C.xs.getD k (Str.empty, [])).2.contains j))
def consX (K : PySem.W.Frag) (cons : List (Str × D)) (C : ClS) : Bool := consB K cons && xsB K C
/-! ### the Hook -/
/-- the addresses that are looked at -/
def asX (C : ClS) (n : Nat) (g : Addr → Option Obj) : List Addr := if C.xd.isEmpty then He.asD g n else
  cStatics :: ((He.asD g n).flatMap fun a => match g a with
    | some o => (match o.data with
      | .func fd => fd.closure.map (·.2)
      | _ => [])
    | none => []) ++ He.asD g n
abbrev AlC : Type := Bool × He.AlD
def obsC (cons : List (Str × D)) (fa : List He.Fa) (fn : List He.DefD) (K : PySem.W.Frag) (C : ClS := ClS.nil) : AlC := (consX K cons C, He.obsD fa fn K)
def obsCG (n : Nat) (cons : List (Str × D)) (fa : List He.Fa) (fn : List He.DefD) (g : Addr → Option Obj) (C : ClS := ClS.nil) : AlC := obsC cons fa fn (He.frG g (asX C n g)) C
def hookC (n : Nat) (cons : List (Str × D)) (fa : List He.Fa) (fn : List He.DefD) (C : ClS := ClS.nil) : PySem.W.Hook where
  α := AlC
  obs := fun s => obsCG n cons fa fn s.heap.get? C
  val := fun _ => (true, He.valD fn)
  says := fun _ h => ∃ K : PySem.W.Frag, K.In h ∧ consX K cons C = true ∧ He.SaysD fa fn K
  of := fun _ _ e => ⟨_, He.frG_in, congrArg (fun z : AlC => z.1) e, congrArg (fun z : AlC => z.2) e⟩
  keeps := fun _ _ _ ⟨K, hK, c⟩ k => ⟨K, PySem.W.Frag.In.keeps hK k, c⟩
theorem obsCG_eq {n : Nat} {cons : List (Str × D)} {fa : List He.Fa} {fn : List He.DefD} {g : Addr → Option Obj} {s : Shared} {C : ClS} (h : ∀ a, g a = s.heap.get? a) : obsCG n cons fa fn g C = (hookC n cons fa fn C).obs s := by
  have e : g = s.heap.get? := funext h
  rw [e] <;> rfl

/-! ### tables -/
/-- a def of the text: its name, its slots' names, its parameters, what it does -/
structure FT where
  name : Str
  N : List Str
  np : Nat
  body : List S
  cl : Option Nat
def FT.ps (t : FT) : List Str := t.N.take t.np
def FT.fd (t : FT) : FnDef := ⟨t.np, t.N.length, t.body⟩
def fnOfTab (tab : List FT) : Nat → Option FnDef := fun i => tab[i]?.map FT.fd
def dsC (st : Stmt) : Str × Arguments × List Stmt × Scope := match st with
  | .FunctionDef n a b _ _ _ sc _ _ _ => (n, a, b, sc)
  | _ => (Str.empty, ⟨[], [], none, [], [], none, []⟩, [], ⟨.function, [], false, false, []⟩)
def clsSt (st : Stmt) (j : Nat) : Stmt := match st with
  | .ClassDef _ _ _ b _ _ _ _ _ _ _ => b.getD j (.Pass ⟨0, 0, 0, 0⟩)
  | _ => .Pass ⟨0, 0, 0, 0⟩
def FT.at_ (C : ClS) (t : FT) : Str × Option Str := match t.cl with
  | none => (t.name, none)
  | some c => (C.nm c, some t.name)
def FT.qual (C : ClS) (t : FT) : Str := match t.cl with
  | none => t.name
  | some c => C.nm c ++ ("." : Str) ++ t.name
def defOfS (C : ClS) (t : FT) (st : Stmt) : He.DefD := ⟨t.at_ C, (dsC st).1, t.qual C, (dsC st).2.1, (dsC st).2.2.1, (dsC st).2.2.2, [], []⟩
/-- a def's text against its row -/
def FT.ok (P : Pn) (t : FT) (st : Stmt) : Bool := decide (t.name = (dsC st).1) && plainA (dsC st).2.1 t.ps && C8.scC t.N t.ps (dsC st).2.2.2 && decide (t.np ≤ t.N.length) && chkSs P t.N t.body (dsC st).2.2.2 (fun _ => true) (dsC st).2.2.1
def tabOk (P : Pn) : List FT → List Stmt → Bool
  | [], [] => true
  | t :: ts, s :: ss => t.ok P s && tabOk P ts ss
  | _, _ => false
theorem tabOk_get {P : Pn} : ∀ {tab : List FT} {sts : List Stmt}, tabOk P tab sts = true → ∀ (i : Nat) (t : FT), tab[i]? = some t → ∃ s, sts[i]? = some s ∧ t.ok P s = true
  | [], [], _, i, t, h => by simp at h
  | [], _ :: _, hh, _, _, _ => by cases hh
  | _ :: _, [], hh, _, _, _ => by cases hh
  | t0 :: ts, s0 :: ss, hh, i, t, h => by
    unfold tabOk at hh
    rw [Bool.and_eq_true] at hh
    cases i with
    | zero => simp at h; subst h; exact ⟨s0, rfl, hh.1⟩
    | succ i => simpa using tabOk_get hh.2 i t (by simpa using h)
end Cip

set_option maxHeartbeats 4000000
/-! Cip25: all defs of a table; the law's end. -/
namespace Cip
open PySem PySem.Spec PyProof.Rows L2

def FT.no : FT := ⟨Str.empty, [], 0, [], none⟩
/-- a name that no field has -/
def ClS.mok (C : ClS) (m : Str) : Bool := !C.fl.contains m && decide (m.cps[0]? ≠ some 33)
def pnOf (tab : List FT) (cons : List (Str × D)) (C : ClS := ClS.nil) : Pn where
  con := fun i => (cons.getD i (Str.empty, .non)).1
  has := fun i => match tab[i]? with
    | some t => t.cl.isNone
    | none => false
  fn := fun i => (tab.getD i FT.no).name
  fld := fun f => C.fl.getD f Str.empty
  cls := fun c => C.nm c
  mth := fun i => (tab.getD i FT.no).name
  hasF := fun c f => decide (f < C.fl.length) && match C.cs[c]? with
    | some p => p.2.contains f
    | none => false
  hasM := fun c i => decide (c < C.cs.length) && match tab[i]? with
    | some t => decide (t.cl = some c) && !decide (t.name = "__init__") && C.mok t.name
    | none => false
  hasI := fun c i => decide (c < C.cs.length) && match tab[i]? with
    | some t => decide (t.cl = some c) && decide (t.name = "__init__")
    | none => false
  hasX := C.hasX
  xd := fun c => C.xd.lookup c
def txOf (cons : List (Str × D)) (C : ClS := ClS.nil) : Tx where
  con := fun i => cons[i]?.map (·.2)
  sub := fun c c' => if (C.hasX c && C.hasX c') = true then some ((C.xs.getD (c - 1000) (Str.empty, [])).2.contains (c' - 1000)) else none
  ve := fun c => if C.hasX c = true then some true else none
  exf := fun c ds => if C.hasX c = true then (match C.xd.lookup c with
    | some d => exfX d ds
    | none => if ds.length = 1 then some [] else none) else none
  ini := fun _ => none
  xfl := fun c f => C.hasX c && decide (f < C.fl.length) && match C.xd.lookup c with
    | some d => d.fs.any fun p => p.1 == f
    | none => false
def FT.fa (C : ClS) (t : FT) : He.Fa := match t.cl with
  | none => .glo t.name
  | some c => if t.name = "__init__" then .mkr (C.nm c) else .meth (C.nm c) t.name
def ClS.fas (C : ClS) : List He.Fa := C.cs.flatMap fun p => .glo p.1 :: .cls p.1 :: p.2.map fun f => .noat p.1 (C.fl.getD f Str.empty)
def faOf (tab : List FT) (C : ClS := ClS.nil) : List He.Fa := tab.map (FT.fa C) ++ bltNames.map .free ++ C.fas
def fnOf (tab : List FT) (sts : List Stmt) (C : ClS := ClS.nil) : List He.DefD := (tab.zip sts).map fun p => defOfS C p.1 p.2
/-- the fields' names are unlike -/
def ClS.okB (C : ClS) : Bool := decide C.fl.Nodup && C.fl.all fun x => decide (x.cps[0]? ≠ some 33)
theorem ClS.inj {C : ClS} (h : C.okB = true) : ∀ f g, C.fnm f = C.fnm g → f = g := by
  unfold ClS.okB at h
  rw [Bool.and_eq_true] at h
  have nd := of_decide_eq_true h.1
  have ne : ∀ (i j : Nat) (x : Str), C.fl[i]? = some x → x = ⟨Array.replicate (j + 1) 33⟩ → False := fun i j x hx e => by
    have := of_decide_eq_true (List.all_eq_true.mp h.2 x (List.mem_of_getElem? hx))
    subst e
    exact this (by simp)
  intro f g e
  unfold ClS.fnm at e
  cases hf : C.fl[f]? with
  | some x =>
    rw [hf] at e
    cases hg : C.fl[g]? with
    | some y =>
      rw [hg] at e
      have e : x = y := e
      subst e
      exact L2.nd_ix nd hf hg
    | none =>
      rw [hg] at e
      exact (ne f g x hf e).elim
  | none =>
    rw [hf] at e
    cases hg : C.fl[g]? with
    | some y =>
      rw [hg] at e
      exact (ne g f y hg (show _ = _ from e).symm).elim
    | none =>
      rw [hg] at e
      have e2 := congrArg (fun z : Str => z.cps.size) (show (⟨Array.replicate (f + 1) 33⟩ : Str) = ⟨Array.replicate (g + 1) 33⟩ from e)
      simpa using e2
theorem ClS.mok_ne {C : ClS} {m : Str} (h : C.mok m = true) (g : Nat) : C.fnm g ≠ m := by
  unfold ClS.mok at h
  rw [Bool.and_eq_true] at h
  intro e
  unfold ClS.fnm at e
  cases hg : C.fl[g]? with
  | some y =>
    rw [hg] at e
    have e : y = m := e
    subst e
    have : C.fl.contains y = true := by simpa using List.mem_of_getElem? hg
    rw [this] at h
    exact absurd h.1 (by simp)
  | none =>
    rw [hg] at e
    have e : (⟨Array.replicate (g + 1) 33⟩ : Str) = m := e
    subst e
    exact of_decide_eq_true h.2 (by simp)
section
variable {tab : List FT} {cons : List (Str × D)} {sts : List Stmt} {K : PySem.W.Frag} {h : Heap} {mg : Str → Option Value} {C : ClS}
theorem fact_of {fa : List He.Fa} {fn : List He.DefD} (c : He.SaysD fa fn K) {f : He.Fa} (h : f ∈ fa) : f.ok K = true := by
  obtain ⟨i, hi⟩ := List.getElem?_of_mem h
  exact c.fact i hi
def nmOf (K : PySem.W.Frag) (C : ClS) : Nm := ⟨fun c => He.ga K (C.nm c), C.fnm⟩
theorem cls_fact (c : He.SaysD (faOf tab C) (fnOf tab sts C) K) {i : Nat} (hi : i < C.cs.length) : (He.Fa.glo (C.nm i)).ok K = true ∧ (He.Fa.cls (C.nm i)).ok K = true ∧ ∀ f, (C.cs.getD i (Str.empty, [])).2.contains f = true → (He.Fa.noat (C.nm i) (C.fl.getD f Str.empty)).ok K = true := by
  have hm : C.cs.getD i (Str.empty, []) ∈ C.cs := by
    rw [List.getD_eq_getElem?_getD, List.getElem?_eq_getElem hi]
    exact List.getElem_mem hi
  have ename : C.nm i = (C.cs.getD i (Str.empty, [])).1 := by
    have e1 : C.cs[i]? = some C.cs[i] := List.getElem?_eq_getElem hi
    unfold ClS.nm
    rw [List.getD_eq_getElem?_getD (l := C.cs), e1] <;> rfl
  have mem : ∀ f : He.Fa, f ∈ (He.Fa.glo (C.nm i) :: He.Fa.cls (C.nm i) :: (C.cs.getD i (Str.empty, [])).2.map fun f => He.Fa.noat (C.nm i) (C.fl.getD f Str.empty)) → f ∈ faOf tab C := fun f hf => by
    unfold faOf ClS.fas
    rw [ename] at hf
    exact List.mem_append_right _ (List.mem_flatMap.mpr ⟨_, hm, hf⟩)
  exact ⟨fact_of c (mem _ (by simp)), fact_of c (mem _ (by simp)), fun f hf => fact_of c (mem _ (List.mem_cons_of_mem _ (List.mem_cons_of_mem _ (List.mem_map.mpr ⟨f, by simpa using hf, rfl⟩))))⟩
theorem nm_ok (hC : C.okB = true) (c : He.SaysD (faOf tab C) (fnOf tab sts C) K) : NmOk (pnOf tab cons C) (nmOf K C) K := by
  refine ⟨ClS.inj hC, fun i f hf => ?_⟩
  have hf : (decide (f < C.fl.length) && match C.cs[i]? with
    | some p => p.2.contains f
    | none => false) = true := hf
  rw [Bool.and_eq_true] at hf
  obtain ⟨h1, h2⟩ := hf
  have h1 := of_decide_eq_true h1
  cases q : C.cs[i]? with
  | none => rw [q] at h2; cases h2
  | some p =>
    rw [q] at h2
    have hi : i < C.cs.length := (List.getElem?_eq_some_iff.mp q).1
    obtain ⟨_, k2, k3⟩ := cls_fact c hi
    have ep : C.cs.getD i (Str.empty, []) = p := by rw [List.getD_eq_getElem?_getD, q] <;> rfl
    have k4 := k3 f (by rw [ep]; exact h2)
    have ef : C.fnm f = C.fl.getD f Str.empty := by
      unfold ClS.fnm
      rw [List.getD_eq_getElem?_getD, List.getElem?_eq_getElem h1] <;> rfl
    refine ⟨He.cls_ok k2, ?_, ef⟩
    show NoAttr K (He.ga K (C.nm i)) (C.fnm f)
    rw [ef]
    exact He.noat_ok k4
theorem at_x {c : Nat} (hc : C.hasX c = true) : C.nm c = C.xn (c - 1000) ∧ c - 1000 < C.xs.length ∧ c - 1000 + 1000 = c := by
  unfold ClS.hasX at hc
  simp only [Bool.and_eq_true, decide_eq_true_eq] at hc
  obtain ⟨⟨h1, h2⟩, h3⟩ := hc
  refine ⟨?_, h3, by omega⟩
  unfold ClS.nm ClS.xn
  rw [List.getElem?_eq_none h1]
theorem xs_at (xx : xsB K C = true) {c : Nat} (hc : C.hasX c = true) : xcB K (C.nm c) = true ∧ xiB K C (c - 1000) = true ∧ PySem.W.kitOne K (.ref (He.ga K (C.nm c))) (.type "ValueError") = some true ∧ ∀ c', C.hasX c' = true →
    PySem.W.exmOne K (.ref (He.ga K (C.nm c))) (.ref (He.ga K (C.nm c'))) = some ((C.xs.getD (c - 1000) (Str.empty, [])).2.contains (c' - 1000)) ∧ PySem.W.kitOne K (.ref (He.ga K (C.nm c))) (.ref (He.ga K (C.nm c'))) = some ((C.xs.getD (c - 1000) (Str.empty, [])).2.contains (c' - 1000)) := by
  obtain ⟨e1, e2, e3⟩ := at_x hc
  have h := List.all_eq_true.mp xx (c - 1000) (List.mem_range.mpr e2)
  simp only [Bool.and_eq_true, decide_eq_true_eq] at h
  obtain ⟨⟨⟨h1, h2⟩, h3⟩, h4⟩ := h
  rw [← e1] at h1 h3
  refine ⟨h1, h2, h3, fun c' hc' => ?_⟩
  obtain ⟨f1, f2, f3⟩ := at_x hc'
  have h5 := List.all_eq_true.mp h4 (c' - 1000) (List.mem_range.mpr f2)
  simp only [Bool.and_eq_true, decide_eq_true_eq] at h5
  rw [← e1, ← f1] at h5
  exact h5
theorem top_ok (hC : C.okB = true) (KX : K.In h) (G : h.Ns mainGlobals mg) (cc : consX K cons C = true) (c : He.SaysD (faOf tab C) (fnOf tab sts C) K) : TopOk (txOf cons C) (pnOf tab cons C) (nmOf K C) K mg := by
  obtain ⟨cc, xx⟩ := Bool.and_eq_true_iff.mp cc
  refine ⟨fun i d hi => ?_, fun x hx => ?_, nm_ok hC c, fun c hc => ?_, fun c c' b hb => ?_, fun c ds fs hf => ?_, fun c hc hn => ?_, fun c b hb => ?_, fun c f hf => ?_⟩
  rotate_left 2
  · exact xcB_ok KX G (xs_at xx hc).1
  · have hb : (if (C.hasX c && C.hasX c') = true then some ((C.xs.getD (c - 1000) (Str.empty, [])).2.contains (c' - 1000)) else none) = some b := hb
    split at hb
    · rename_i hxx
      obtain ⟨h1, h2⟩ := Bool.and_eq_true_iff.mp hxx
      cases hb
      obtain ⟨z1, z2⟩ := (xs_at xx h1).2.2.2 c' h2
      exact ⟨h1, h2, z1, z2⟩
    · cases hb
  · have hf : (if C.hasX c = true then (match C.xd.lookup c with
      | some d => exfX d ds
      | none => if ds.length = 1 then some [] else none) else none) = some fs := hf
    split at hf
    · rename_i hxx
      refine ⟨hxx, ?_⟩
      cases q : C.xd.lookup c with
      | some d =>
        rw [q] at hf
        exact .inr ⟨d, q, hf⟩
      | none =>
        rw [q] at hf
        have hf : (if ds.length = 1 then some [] else none) = some fs := hf
        split at hf
        · rename_i hl
          cases hf
          refine .inl ⟨q, rfl, ?_⟩
          match ds, hl with
          | [d], _ => exact ⟨d, rfl⟩
        · cases hf
    · cases hf
  · have hn : C.xd.lookup c = none := hn
    have z := (xs_at xx hc).2.1
    obtain ⟨e1, _, e3⟩ := at_x hc
    unfold xiB at z
    rw [e3, hn, ← e1] at z
    exact z
  · have hb : (if C.hasX c = true then some true else none) = some b := hb
    split at hb
    · rename_i hxx
      cases hb
      exact ⟨hxx, (xs_at xx hxx).2.2.1⟩
    · cases hb
  · have hf : (C.hasX c && decide (f < C.fl.length) && match C.xd.lookup c with
      | some d => d.fs.any fun p => p.1 == f
      | none => false) = true := hf
    simp only [Bool.and_eq_true, decide_eq_true_eq] at hf
    obtain ⟨⟨h1, h2⟩, h3⟩ := hf
    cases q : C.xd.lookup c with
    | none => rw [q] at h3; cases h3
    | some d =>
      rw [q] at h3
      obtain ⟨p, hp, hpf⟩ := List.any_eq_true.mp h3
      have hpf := beq_iff_eq.mp hpf
      have z := (xs_at xx h1).2.1
      obtain ⟨e1, _, e3⟩ := at_x h1
      unfold xiB at z
      rw [e3, q, ← e1] at z
      unfold xinB at z
      simp only [Bool.and_eq_true] at z
      have z1 := of_decide_eq_true (List.all_eq_true.mp z.1.2 p hp)
      rw [hpf] at z1
      have ef : C.fnm f = C.fl.getD f Str.empty := by
        unfold ClS.fnm
        rw [List.getD_eq_getElem?_getD, List.getElem?_eq_getElem h2] <;> rfl
      exact ⟨h1, z1, ef⟩
  · have hi : cons[i]?.map (·.2) = some d := hi
    cases q : cons[i]? with
    | none => rw [q] at hi; cases hi
    | some p =>
      rw [q] at hi
      cases hi
      have hm := List.all_eq_true.mp cc p (List.mem_of_getElem? q)
      split at hm
      · rename_i u hu
        obtain ⟨v, h1, h2, h3, h4⟩ := conB_ok p.2 u hm
        refine ⟨v, u, ?_, h1, h2, h3, h4⟩
        have e : (pnOf tab cons C).con i = p.1 := by
          show (cons.getD i (Str.empty, .non)).1 = p.1
          rw [List.getD_eq_getElem?_getD, q] <;> rfl
        rw [e]
        exact PySem.W.mg_of KX G hu
      · cases hm
  · refine He.free_ok KX G (fact_of c (f := .free x) ?_)
    unfold faOf
    exact List.mem_append_left _ (List.mem_append_right _ (List.mem_map.mpr ⟨x, hx, rfl⟩))
/-- each def keeps its promise -/
def AllOk (tab : List FT) (cons : List (Str × D)) (C : ClS) (K : PySem.W.Frag) (Pr : Program) (W0 : World) (mg : Str → Option Value) (n f : Nat) : Prop :=
  ∃ ft fd, tab[f]? = some ft ∧ (ft.fa C).ok K = true ∧ PySem.W.keepIn K (.ref (He.fAd K (ft.at_ C))) = true ∧ Binds K fd ft.ps [] ∧ (∀ ds st, ds.length ≠ ft.ps.length → callN (txOf cons C) (fnOfTab tab) n f ds st = .stk) ∧
      (∀ (s : Shared) (us : List Value), us.length = ft.ps.length → BindsTo s fd ⟨us, []⟩ (ft.ps.zip us)) ∧ ∀ base : Heap, FnG Pr W0 K mg base (2 * n + 2) (He.fAd K (ft.at_ C)) fd ft.ps (spOf K (nmOf K C) (callN (txOf cons C) (fnOfTab tab) n) f ft.ps.length)
theorem XinOk.mono {Pr : Program} {w : World} {base : Heap} {t : Nm} {x : XD} {c j k : Nat} (h : XinOk Pr w K mg base j t x c) (hj : j ≤ k) : XinOk Pr w K mg base k t x c := by
  obtain ⟨fI, fd, ps, h1, h2, h3, h4⟩ := h.ini
  exact ⟨h.oc, h.ne, h.n1, fI, fd, ps, h1, h2, h3, h4.mono hj⟩
/-- what the program must say where an error class has an __init__ -/
def ClS.prg (C : ClS) (Pr : Program) : Prop := C.xd = [] ∨ (Pr.main.file = C.file ∧ (Pr.main.scope.names.lookup ("super" : Str)).isSome = false)
theorem fns_of {Pr : Program} {W0 : World} {base : Heap} {n : Nat} (hC : C.okB = true) (hX : C.prg Pr) (cc : consX K cons C = true) (KX : K.In h) (G : h.Ns mainGlobals mg) (c : He.SaysD (faOf tab C) (fnOf tab sts C) K) (A : ∀ f, f < tab.length → AllOk tab cons C K Pr W0 mg n f) :
    Fns (callN (txOf cons C) (fnOfTab tab) n) (pnOf tab cons C) (nmOf K C) (2 * n + 2) Pr W0 K mg base := by
  have nmF : ∀ {f : Nat} {ft : FT}, tab[f]? = some ft → (tab.getD f FT.no).name = ft.name := fun {f ft} h => by
    rw [List.getD_eq_getElem?_getD, h] <;> rfl
  have hbl : ∀ x ∈ bltNames, mg x = none := fun x hx => He.free_ok KX G (fact_of c (f := .free x) (by
    unfold faOf
    exact List.mem_append_left _ (List.mem_append_right _ (List.mem_map.mpr ⟨x, hx, rfl⟩))))
  have xx := (Bool.and_eq_true_iff.mp cc).2
  refine ⟨fun f hf => ?_, fun cc f hf => ?_, fun c0 x hx hq => ?_, fun cc f hf => ?_⟩
  rotate_left 2
  · have hx : C.hasX c0 = true := hx
    have hq : C.xd.lookup c0 = some x := hq
    obtain ⟨e1, _, e3⟩ := at_x hx
    have z := (xs_at xx hx).2.1
    unfold xiB at z
    rw [e3, hq, ← e1] at z
    rcases hX with hX | ⟨hF, htop⟩
    · rw [hX] at hq
      cases hq
    · exact XinOk.mono (j := 2) (xin_ok (t := nmOf K C) hF htop hbl (ClS.inj hC) z) (by omega)
  rotate_left
  · have hf : (match tab[f]? with
      | some t => t.cl.isNone
      | none => false) = true := hf
    cases q : tab[f]? with
    | none => rw [q] at hf; cases hf
    | some ft =>
      rw [q] at hf
      obtain ⟨ft', fd, h1, h2, h3, h4, h5, h6, h7⟩ := A f (List.getElem?_eq_some_iff.mp q).1
      rw [q] at h1
      cases h1
      have hcl : ft.cl = none := by simpa using hf
      have ea : ft.at_ C = (ft.name, none) := by unfold FT.at_; rw [hcl] <;> rfl
      have ef : ft.fa C = .glo ft.name := by unfold FT.fa; rw [hcl] <;> rfl
      rw [ea] at h3 h7
      rw [ef] at h2
      refine ⟨_, fd, ft.ps, ⟨?_, h3⟩, h4, h5, h7 base⟩
      show mg (tab.getD f FT.no).name = _
      rw [nmF q]
      exact He.glo_ok KX G h2
  · have hf : (decide (cc < C.cs.length) && match tab[f]? with
      | some t => decide (t.cl = some cc) && !decide (t.name = "__init__") && C.mok t.name
      | none => false) = true := hf
    rw [Bool.and_eq_true] at hf
    obtain ⟨hc, hf⟩ := hf
    cases q : tab[f]? with
    | none => rw [q] at hf; cases hf
    | some ft =>
      rw [q] at hf
      simp only [Bool.and_eq_true] at hf
      obtain ⟨⟨k1, k2⟩, k3⟩ := hf
      obtain ⟨ft', fd, h1, h2, h3, h4, h5, h6, h7⟩ := A f (List.getElem?_eq_some_iff.mp q).1
      rw [q] at h1
      cases h1
      have hcl : ft.cl = some cc := of_decide_eq_true k1
      have hni : ¬ ft.name = "__init__" := by
        intro e
        rw [decide_eq_true e] at k2
        cases k2
      have ea : ft.at_ C = (C.nm cc, some ft.name) := by unfold FT.at_; rw [hcl] <;> rfl
      have ef : ft.fa C = .meth (C.nm cc) ft.name := by unfold FT.fa; rw [hcl]; exact if_neg hni
      rw [ea] at h3 h7
      rw [ef] at h2
      obtain ⟨_, c2, _⟩ := cls_fact c (of_decide_eq_true hc)
      refine ⟨_, fd, ft.ps, ⟨He.cls_ok c2, ?_, fun g => ?_⟩, h4, h5, h7 base⟩
      · show Meth K _ (tab.getD f FT.no).name _
        rw [nmF q]
        exact He.meth_ok h2
      · show C.fnm g ≠ (tab.getD f FT.no).name
        rw [nmF q]
        exact ClS.mok_ne k3 g
  · have hf : (decide (cc < C.cs.length) && match tab[f]? with
      | some t => decide (t.cl = some cc) && decide (t.name = "__init__")
      | none => false) = true := hf
    rw [Bool.and_eq_true] at hf
    obtain ⟨hc, hf⟩ := hf
    cases q : tab[f]? with
    | none => rw [q] at hf; cases hf
    | some ft =>
      rw [q] at hf
      simp only [Bool.and_eq_true] at hf
      obtain ⟨k1, k2⟩ := hf
      obtain ⟨ft', fd, h1, h2, h3, h4, h5, h6, h7⟩ := A f (List.getElem?_eq_some_iff.mp q).1
      rw [q] at h1
      cases h1
      have hcl : ft.cl = some cc := of_decide_eq_true k1
      have hni : ft.name = "__init__" := of_decide_eq_true k2
      have ea : ft.at_ C = (C.nm cc, some ("__init__" : Str)) := by unfold FT.at_; rw [hcl, hni] <;> rfl
      have ef : ft.fa C = .mkr (C.nm cc) := by unfold FT.fa; rw [hcl]; exact if_pos hni
      rw [ea] at h3 h7
      rw [ef] at h2
      obtain ⟨c1, _, _⟩ := cls_fact c (of_decide_eq_true hc)
      exact ⟨_, fd, ft.ps, ⟨He.glo_ok KX G c1, He.mkr_ok h2⟩, h4, h5, h7 base⟩
theorem all_fng {Pr : Program} {W0 : World} (hC : C.okB = true) (hX : C.prg Pr) (KX : K.In h) (G : h.Ns mainGlobals mg) (cc : consX K cons C = true) (c : He.SaysD (faOf tab C) (fnOf tab sts C) K) (hT : tabOk (pnOf tab cons C) tab sts = true) :
    ∀ (n : Nat) (f : Nat), f < tab.length → AllOk tab cons C K Pr W0 mg n f := by
  have one : ∀ (f : Nat), f < tab.length → ∃ ft fd, tab[f]? = some ft ∧ (ft.fa C).ok K = true ∧ (∃ st, ft.ok (pnOf tab cons C) st = true ∧ FunD K (dsC st).1 (ft.qual C) (dsC st).2.1 (dsC st).2.2.1 (dsC st).2.2.2 [] [] (He.fAd K (ft.at_ C)) fd) := by
    intro f hl
    have hft : tab[f]? = some tab[f] := List.getElem?_eq_getElem hl
    obtain ⟨st, hst, hok⟩ := tabOk_get hT f tab[f] hft
    have hdd : (fnOf tab sts C)[f]? = some (defOfS C tab[f] st) := by
      unfold fnOf
      rw [List.getElem?_map, show (tab.zip sts)[f]? = some (tab[f], st) from List.getElem?_zip_eq_some.mpr ⟨hft, hst⟩] <;> rfl
    obtain ⟨fd, F⟩ := c.def_ f hdd
    have hfa : tab[f].fa C ∈ faOf tab C := by
      unfold faOf
      exact List.mem_append_left _ (List.mem_append_left _ (List.mem_map.mpr ⟨_, List.getElem_mem hl, rfl⟩))
    exact ⟨tab[f], fd, hft, fact_of c hfa, st, hok, F⟩
  have top : TopOk (txOf cons C) (pnOf tab cons C) (nmOf K C) K mg := top_ok hC KX G cc c
  intro n
  induction n with
  | zero =>
    intro f hf
    obtain ⟨ft, fd, h1, h2, st, h3, F⟩ := one f hf
    have h3' := h3
    unfold FT.ok at h3'
    simp only [Bool.and_eq_true] at h3'
    obtain ⟨⟨⟨⟨k1, k2⟩, k3⟩, k4⟩, k5⟩ := h3'
    have S := C8.fnScope_by k3
    have nd : ft.ps.Nodup := by
      have := S.nd
      unfold FT.ps
      exact List.Nodup.sublist (List.take_sublist _ _) this
    refine ⟨ft, fd, h1, h2, F.kp, F.bindsN fun _ _ _ _ _ _ us hl => bind_plain k2 nd hl, fun _ _ _ => rfl, fun s us hl => FunD.bindsA F (fun _ _ _ _ _ _ us hl => bind_plain k2 nd hl) s us hl, fun base => ⟨fun vs H Q E h => sp_len h, fun A outer s H args us vs Q E hg hr e0 hb r hsp => ?_⟩⟩
    obtain ⟨_, _, _, _, _, _, o⟩ := hsp
    exact o.elim
  | succ n ih =>
    intro f hf
    obtain ⟨ft, fd, h1, h2, st, h3, F⟩ := one f hf
    have h3' := h3
    unfold FT.ok at h3'
    simp only [Bool.and_eq_true] at h3'
    obtain ⟨⟨⟨⟨k1, k2⟩, k3⟩, k4⟩, k5⟩ := h3'
    have S := C8.fnScope_by k3
    have hnp : ft.np ≤ ft.N.length := of_decide_eq_true k4
    have hps : ft.ps.length = ft.np := by
      unfold FT.ps
      rw [List.length_take, Nat.min_eq_left hnp]
    have nd : ft.ps.Nodup := by
      have := S.nd
      unfold FT.ps
      exact List.Nodup.sublist (List.take_sublist _ _) this
    have hfn : fnOfTab tab f = some ft.fd := by
      unfold fnOfTab
      rw [h1] <;> rfl
    refine ⟨ft, fd, h1, h2, F.kp, F.bindsN fun _ _ _ _ _ _ us hl => bind_plain k2 nd hl, fun ds st hne => ?_, fun s us hl => FunD.bindsA F (fun _ _ _ _ _ _ us hl => bind_plain k2 nd hl) s us hl, fun base => fng_def (cf := callN (txOf cons C) (fnOfTab tab) n) F S (by rw [hps]; exact hnp) k5 top (fns_of hC hX cc KX G c ih) fun ds st he => ?_⟩
    · show (match fnOfTab tab f with
        | some fd => if ds.length = fd.np then retOf st (runs (txOf cons C) (callN (txOf cons C) (fnOfTab tab) n) fd.body (startE fd.ns ds) st) else .stk
        | none => .stk) = .stk
      rw [hfn]
      exact if_neg (by rw [hps] at hne; exact hne)
    · show (match fnOfTab tab f with
        | some fd => if ds.length = fd.np then retOf st (runs (txOf cons C) (callN (txOf cons C) (fnOfTab tab) n) fd.body (startE fd.ns ds) st) else .stk
        | none => .stk) = _
      rw [hfn]
      exact if_pos (by rw [hps] at he; exact he)
end

/-! ### the law's end -/
section
variable {P : Program} {w : World} {K : PySem.W.Frag} {mg mb : Str → Option Value} {k : Nat} {fa a : Addr} {fd : FuncData} {x : Str} {sp : Sp} {s₁ : Shared} {vs : List Value} {ns : List Int}
/-- behind the call: the answer is True, the old objects stand -/
def Won (s₁ : Shared) (r : Result) (s' : Shared) : Prop := r = .ok (.ret (.bool true)) ∧ OldK s₁.heap s'.heap ∧ s'.os = s₁.os ∧ AllBare s'.gens
theorem won_at {H : Hp} {base : Heap} (hr : Room k callerA) (F : FnG P w K mg base k fa fd [x] sp) (hbind : ∀ (s : Shared) (u : Value), BindsTo s fd ⟨[u], []⟩ [(x, u)]) (e0 : Env0 P w K mg base callerA [] s₁ H) (hO : Only H)
    (hsp : sp [.ref a] H (fun v _ => v = .bl true) fun _ _ _ => False) : codeAny (model P w) callerA (.call (.ref fa) ⟨[.ref a], []⟩) (Won s₁) s₁ := by
  refine codeAny_mono (F.run callerA [] s₁ H ⟨[.ref a], []⟩ [.ref a] [.ref a] _ _ rfl hr e0 (hbind s₁ (.ref a)) (.cons rfl .nil) hsp) fun r s' h => ?_
  cases r with
  | error e =>
    obtain ⟨_, _, _, _, _, _, _, _, _, _, _, _, hE⟩ := h
    exact hE.elim
  | ok fl =>
    cases fl with
    | ret u =>
      obtain ⟨v, H', os, bare, un, hok', r', q⟩ := h
      obtain rfl : v = .bl true := q
      obtain rfl : u = Value.bool true := r'
      refine ⟨rfl, OldK.of_keep fun b o e => ?_, os, bare⟩
      rcases hO b with z | ⟨ob, xs, z⟩
      · exact un.keep b o e z (fun z => by cases z) (fun z => by cases z)
      · have g := (e0.hok b _ z).1
        rw [e] at g
        cases g
        exact (hok' b _ (un.frzs b _ _ z)).1
    | next => exact h.elim
    | brk => exact h.elim
    | cont => exact h.elim
/-- the heap in which the script alone is known, where it is none of the written part -/
def scrH (K : PySem.W.Frag) (a : Addr) (o : Obj) (xs : List V) : Hp := fun b => if b = a ∧ K.lookup a = none then some (.frz o (.lst xs)) else none
theorem law_won (KX : K.In s₁.heap) (hns : s₁.heap.Ns mainGlobals mg) (hb : s₁.heap.Ns builtinsNs mb) (hbb : ∀ x : Str, x ≠ "__name__" → mb x = bootBuiltins x) (hlim : s₁.heap.NoLimit) (hg : s₁.gens = #[])
    (ha : s₁.heap.get? a = some { cls := .type "list", data := .seq vs.toArray }) (hi : IntsAre vs ns) (hl : ns.length ≤ sizeLine) (hr : Room k callerA)
    (F : ∀ base : Heap, K.In base → base.Ns mainGlobals mg → FnG P w K mg base k fa fd [x] sp) (hbind : ∀ (s : Shared) (u : Value), BindsTo s fd ⟨[u], []⟩ [(x, u)])
    (hsp : ∀ H : Hp, Only H → SqL K H a (ns.map V.int) → sp [.ref a] H (fun v _ => v = .bl true) fun _ _ _ => False) : codeAny (model P w) callerA (.call (.ref fa) ⟨[.ref a], []⟩) (Won s₁) s₁ := by
  have rv := vals_ints hi
  generalize hob : ({ cls := .type "list", data := .seq vs.toArray } : Obj) = ob at ha
  generalize hH : scrH K a ob (ns.map V.int) = H
  have some_at : ∀ {b : Addr} {u : HO}, H b = some u → b = a ∧ K.lookup a = none ∧ u = .frz ob (.lst (ns.map V.int)) := fun {b u} e => by
    rw [← hH] at e
    unfold scrH at e
    split at e
    · rename_i hc
      cases e
      exact ⟨hc.1, hc.2, rfl⟩
    · cases e
  have hO : Only H := fun b => by
    cases q : H b with
    | none => exact .inl rfl
    | some u => exact .inr ⟨_, _, congrArg some (some_at q).2.2⟩
  have hS : SqL K H a (ns.map V.int) := by
    cases q : K.lookup a with
    | none => exact .inl (.inr ⟨ob, by rw [← hH]; exact if_pos ⟨rfl, q⟩⟩)
    | some o =>
      have e := KX a o q
      rw [ha] at e
      cases e
      refine .inr ⟨ob, vs.toArray, 0, q, ?_, ?_, ?_, ?_, by simpa using rv⟩
      · rw [← hob]
      · rw [← hob]
      · rw [← hob]
      · rw [List.size_toArray, hi.length]; exact hl
  have hok : HOk P w H s₁.heap := fun b u e => by
    obtain ⟨e1, _, e3⟩ := some_at e
    subst e1 e3
    rw [← hob] at ha ⊢
    exact ⟨ha, by rw [List.length_map]; exact hl, vs, _, rv, ha⟩
  have free : ∀ {b : Addr} {o : Obj} {es : Array DictEntry} {ep : Nat}, s₁.heap.get? b = some o → o.data = .dict es ep → H b = none := fun {b o es ep} e d => by
    cases q : H b with
    | none => rfl
    | some u =>
      obtain ⟨e1, _, _⟩ := some_at q
      subst e1
      rw [ha] at e
      cases e
      rw [← hob] at d
      cases (show Data.seq vs.toArray _ = Data.dict es ep from d)
  have ns_of : ∀ {b : Addr} {m : Str → Option Value}, s₁.heap.Ns b m → (hidT s₁.heap H).Ns b m := fun ⟨o, es, ep, e, d, r⟩ => ⟨o, es, ep, hidT_get e (free e d), d, r⟩
  have hKb : K.In (hidT s₁.heap H) := fun b o e => hidT_get (KX b o e) (by
    cases q : H b with
    | none => rfl
    | some u =>
      obtain ⟨e1, e2, _⟩ := some_at q
      subst e1
      rw [e2] at e
      cases e)
  have hM : Mod K mg (hidT s₁.heap H) := by
    obtain ⟨mc, c1, c2⟩ := hlim
    exact ⟨hKb, ns_of hns, ⟨mb, ns_of hb, hbb⟩, mc, ns_of c1, c2⟩
  have e0 : Env0 P w K mg (hidT s₁.heap H) callerA [] s₁ H :=
    ⟨rfl, hM, fun b o e => of_hidT e, Nat.le_of_eq (hidT_size _ _), trivial, fun b hb => absurd (show b ∈ ([] : List Addr) from hb) (by simp), hok, .of_eq hg⟩
  exact won_at hr (F _ hKb (ns_of hns)) hbind e0 hO (hsp H hO hS)
end
/-- the goal that the head leaves, from the law's promise -/
theorem walk_won {l : PySem.W.OpenLaw} {n k : Nat} {q : Program} {loose : List Str} {XP : (Str → Option Value) → Heap → Prop} {YP : World → Heap → Prop} {d : DefRec} {x : Str}
    (hn : l.most = some n) (hn2 : n ≤ sizeLine) (hdf : d.params.defaults = []) (hr : Room k callerA)
    (F : ∀ (w : World) (mg : Str → Option Value) (fa : Addr) (h : Heap), YP w h → h.Ns mainGlobals mg → mg d.name = some (.ref fa) →
      ∃ (K : PySem.W.Frag) (fd : FuncData) (sp : Sp), K.In h ∧ (∀ (s : Shared) (u : Value), BindsTo s fd ⟨[u], []⟩ [(x, u)]) ∧
        (∀ (H : Hp) (a : Addr) (ns : List Int), ns.length ≤ n → Only H → SqL K H a (ns.map V.int) → sp [.ref a] H (fun v _ => v = .bl true) fun _ _ _ => False) ∧
        ∀ base : Heap, K.In base → base.Ns mainGlobals mg → FnG l.prog w K mg base k fa fd [x] sp) :
    PySem.W.WalkO q loose XP YP l.row.toRowW d [] (fun f vs => PySem.call f vs) := by
  refine Att.attach_call hn hdf fun w s₀ s₁ mg mb fa o pm cd doc a vs ns G Y ho hd hcd hmg hobj hints hlen hg => ?_
  obtain ⟨K, fd, sp, KX, hb, hsp, hF⟩ := F w mg fa _ Y G.T.g hmg
  exact law_won KX G.T.g G.T.b G.T.builtins G.T.nolimit hg hobj hints (Nat.le_trans hlen hn2) hr hF hb fun H hO hS => hsp H a ns hlen hO hS
/-- the script, as our language has it -/
theorem ints_reps {K : PySem.W.Frag} {φ : Fi} {H : Hp} : ∀ ns : List Int, Reps K φ H (ns.map D.int) (ns.map V.int)
  | [] => rfl
  | n :: ns => ⟨_, _, rfl, rfl, ints_reps ns⟩
theorem sp_law {K : PySem.W.Frag} {t : Nm} {cf : CF} {i : Nat} {H : Hp} {a : Addr} {ns : List Int} (hl : ns.length ≤ sizeLine) (hS : SqL K H a (ns.map V.int)) (h : ∃ st, cf i [.scr (ns.map .int)] [] = .ok (.bl true) st) :
    spOf K t cf i 1 [.ref a] H (fun v _ => v = .bl true) fun _ _ _ => False := by
  obtain ⟨st, h⟩ := h
  refine ⟨⟨[], []⟩, [.scr (ns.map .int)], [], ⟨rfl, List.nodup_nil, fun k o e => by simp at e, fun a ha => by cases ha⟩, ?_, rfl, ?_⟩
  · refine ⟨.ref a, [], rfl, ⟨a, ns.map V.int, rfl, ?_, by rw [List.length_map]; exact hl, ints_reps ns⟩, rfl⟩
    exact hS.elim (fun h => .inl ⟨h, List.not_mem_nil, List.not_mem_nil⟩) .inr
  · rw [h]
    exact fun φ' H' v _ _ p => p
/-- THE LAW, from its mathematics -/
theorem law_walk {l : PySem.W.OpenLaw} {n k i : Nat} {q : Program} {loose : List Str} {XP : (Str → Option Value) → Heap → Prop} {d : DefRec} {x : Str} {dn : Nat} {tab : List FT} {cons : List (Str × D)} {sts : List Stmt} {ft : FT} {C : ClS}
    (hn : l.most = some n) (hn2 : n ≤ sizeLine) (hdf : d.params.defaults = []) (hr : Room (2 * k + 2) callerA) (hC : C.okB = true) (hX : C.prg l.prog) (hT : tabOk (pnOf tab cons C) tab sts = true) (hi : tab[i]? = some ft) (hcl : ft.cl = none) (hnm : ft.name = d.name) (hps : ft.ps = [x])
    (math : ∀ ns : List Int, ns.length ≤ n → ∃ st, callN (txOf cons C) (fnOfTab tab) k i [.scr (ns.map .int)] [] = .ok (.bl true) st) :
    PySem.W.WalkO q loose XP (hookC dn cons (faOf tab C) (fnOf tab sts C) C).says l.row.toRowW d [] (fun f vs => PySem.call f vs) := by
  refine walk_won (x := x) hn hn2 hdf hr fun w mg fa h Y G hmg => ?_
  obtain ⟨K, KX, cc, c⟩ := Y
  have hil : i < tab.length := (List.getElem?_eq_some_iff.mp hi).1
  obtain ⟨ft', fd, q1, q2, q3, q4, q5, q6, q7⟩ := all_fng (Pr := l.prog) (W0 := w) hC hX KX G cc c hT k i hil
  rw [hi] at q1
  cases q1
  have ea : ft.at_ C = (ft.name, none) := by unfold FT.at_; rw [hcl] <;> rfl
  have ef : ft.fa C = .glo ft.name := by unfold FT.fa; rw [hcl] <;> rfl
  rw [ef] at q2
  have q2 := He.glo_ok KX G q2
  rw [ea] at q3 q7
  rw [hnm, hmg] at q2
  have q2 : fa = He.ga K d.name := by
    cases q2
    rfl
  rw [hps] at q6 q7
  have q8 : He.fAd K (ft.name, none) = fa := by
    rw [q2, ← hnm] <;> rfl
  rw [q8] at q7
  exact ⟨K, fd, spOf K (nmOf K C) (callN (txOf cons C) (fnOfTab tab) k) i 1, KX, fun s u => q6 s [u] rfl, fun H a ns h1 h2 h3 => sp_law (Nat.le_trans h1 hn2) h3 (math ns h1), fun base _ _ => q7 base⟩
end Cip

set_option maxHeartbeats 4000000
/-! Cip26: what a text comes to: a calculus. -/
namespace Cip
open PySem

/-- what is told of an error that is raised -/
abbrev XQ : Type := Nat → List (Nat × D) → Store → Prop
/-- nothing is raised -/
abbrev xF : XQ := fun _ _ _ => False
/-- it comes to a value, of which Q holds, or raises what xq allows -/
def WPE {α : Type} (xq : XQ) (r : R α) (Q : α → Store → Prop) : Prop := match r with
  | .ok a st => Q a st
  | .ex c fs st => xq c fs st
  | .stk => False
def WSE (xq : XQ) (r : SR) (N : Env → Store → Prop) (V : D → Store → Prop) : Prop := match r with
  | .nx e st => N e st
  | .rt d st => V d st
  | .ex c fs _ st => xq c fs st
  | .stk => False
theorem WP_get {α : Type} {r : R α} {Q : α → Store → Prop} (h : WPE xF r Q) : ∃ a st, r = .ok a st ∧ Q a st := by
  cases r with
  | ok a st => exact ⟨a, st, rfl, h⟩
  | _ => exact h.elim
variable {xq : XQ}
section
variable {α β : Type} {Γ : Tx} {cf : CF}
theorem WP_ok {a : α} {st : Store} {Q : α → Store → Prop} : WPE xq (.ok a st) Q ↔ Q a st := Iff.rfl
theorem WP_stk {Q : α → Store → Prop} : WPE xq (.stk : R α) Q ↔ False := Iff.rfl
theorem WP_bind {r : R α} {k : α → Store → R β} {Q : β → Store → Prop} : WPE xq (r.bind k) Q ↔ WPE xq r fun a st => WPE xq (k a st) Q := by cases r <;> exact Iff.rfl
theorem WP_of {o : Option α} {st : Store} {Q : α → Store → Prop} : WPE xq (R.of o st) Q ↔ ∃ a, o = some a ∧ Q a st := by
  cases o with
  | none => exact ⟨fun h => h.elim, fun ⟨_, h, _⟩ => (nomatch h)⟩
  | some a => exact ⟨fun h => ⟨a, rfl, h⟩, fun ⟨_, h, q⟩ => by cases h; exact q⟩
theorem WP_some {a : α} {st : Store} {Q : α → Store → Prop} : WPE xq (R.of (some a) st) Q ↔ Q a st := Iff.rfl
theorem WPE.imp {r : R α} {Q Q' : α → Store → Prop} (h : WPE xq r Q) (hq : ∀ a st, Q a st → Q' a st) : WPE xq r Q' := by
  cases r with
  | ok a st => exact hq a st h
  | _ => exact h
theorem WP_test {r : R D} {Q : Bool → Store → Prop} : WPE xq (testR r) Q ↔ WPE xq r fun d st => ∃ b, d = .bl b ∧ Q b st := by
  cases r with
  | ok d st => cases d with
    | bl b => exact ⟨fun h => ⟨b, rfl, h⟩, fun ⟨_, h, q⟩ => by cases h; exact q⟩
    | _ => exact ⟨fun h => h.elim, fun ⟨_, h, _⟩ => (nomatch h)⟩
  | _ => exact Iff.rfl
theorem WP_eq {r : R α} {a : α} {st : Store} (h : r = .ok a st) {Q : α → Store → Prop} (q : Q a st) : WPE xq r Q := by rw [h]; exact q
theorem WS_nx {e : Env} {st : Store} {N : Env → Store → Prop} {V : D → Store → Prop} : WSE xq (.nx e st) N V ↔ N e st := Iff.rfl
theorem WS_rt {d : D} {st : Store} {N : Env → Store → Prop} {V : D → Store → Prop} : WSE xq (.rt d st) N V ↔ V d st := Iff.rfl
theorem WS_stk {N : Env → Store → Prop} {V : D → Store → Prop} : WSE xq .stk N V ↔ False := Iff.rfl
theorem WS_bind {r : SR} {k : Env → Store → SR} {N : Env → Store → Prop} {V : D → Store → Prop} : WSE xq (r.bind k) N V ↔ WSE xq r (fun e st => WSE xq (k e st) N V) V := by cases r <;> exact Iff.rfl
theorem WS_s {r : R α} {env : Env} {k : α → Store → SR} {N : Env → Store → Prop} {V : D → Store → Prop} : WSE xq (r.s env k) N V ↔ WPE xq r fun a st => WSE xq (k a st) N V := by cases r <;> exact Iff.rfl
theorem WSE.imp {r : SR} {N N' : Env → Store → Prop} {V V' : D → Store → Prop} (h : WSE xq r N V) (hn : ∀ e st, N e st → N' e st) (hv : ∀ d st, V d st → V' d st) : WSE xq r N' V' := by
  cases r with
  | nx e st => exact hn e st h
  | rt d st => exact hv d st h
  | _ => exact h
theorem still_refl {ks : List Nat} {st : Store} : still ks st st = true := still_ok.mpr fun _ _ => rfl
/-- a loop over things: I holds of what is left -/
theorem WS_loop {f : D → Env → Store → SR} {ok : Store → Bool} {N : Env → Store → Prop} {V : D → Store → Prop} (I : List D → Env → Store → Prop) (hok : ∀ rest env st, I rest env st → ok st = true)
    (step : ∀ x rest env st, I (x :: rest) env st → WSE xq (f x env st) (fun env' st' => I rest env' st') V) (done : ∀ env st, I [] env st → N env st) : ∀ (xs : List D) (env : Env) (st : Store), I xs env st → WSE xq (loopL f ok xs env st) N V
  | [], env, st, h => by
    unfold loopL
    rw [if_pos (hok _ _ _ h)]
    exact done env st h
  | x :: xs, env, st, h => by
    unfold loopL
    rw [if_pos (hok _ _ _ h), WS_bind]
    exact (step x xs env st h).imp (fun e s q => WS_loop I hok step done xs e s q) fun _ _ q => q
/-- while: by a measure -/
theorem WS_while {c : Env → Store → R Bool} {b : Env → Store → SR} {N : Env → Store → Prop} {V : D → Store → Prop} (I : Nat → Env → Store → Prop)
    (step : ∀ m env st, I m env st → WPE xq (c env st) fun r st' => if r = true then WSE xq (b env st') (fun env' st'' => ∃ m', m' < m ∧ I m' env' st'') V else N env st') : ∀ (n m : Nat) (env : Env) (st : Store), m < n → I m env st → WSE xq (loopW c b n env st) N V
  | 0, m, env, st, hm, _ => absurd hm (Nat.not_lt_zero _)
  | n + 1, m, env, st, hm, h => by
    unfold loopW
    rw [WS_s]
    refine (step m env st h).imp fun r st' q => ?_
    cases r with
    | true =>
      rw [if_pos rfl] at q ⊢
      rw [WS_bind]
      exact q.imp (fun e s ⟨m', h1, h2⟩ => WS_while I step n m' e s (by omega) h2) fun _ _ q => q
    | false =>
      rw [if_neg (by simp)] at q ⊢
      exact q
/-- a comprehension's turns -/
theorem WP_lcL {f : D → Store → R (Option D)} {Q : List D → Store → Prop} (I : List D → List D → Store → Prop) (step : ∀ x rest acc st, I (x :: rest) acc st → WPE xq (f x st) fun r st' => I rest (acc ++ (match r with | some d => [d] | none => [])) st') :
    ∀ (xs acc : List D) (st : Store), I xs acc st → (∀ acc' st', I [] (acc ++ acc') st' → Q acc' st') → WPE xq (lcL f xs st) Q
  | [], acc, st, h, hq => hq [] st (by rw [List.append_nil]; exact h)
  | x :: xs, acc, st, h, hq => by
    unfold lcL
    rw [WP_bind]
    refine (step x xs acc st h).imp fun r st' q => ?_
    rw [WP_bind]
    refine WP_lcL I step xs _ st' q fun acc' st'' q2 => hq _ st'' ?_
    cases r with
    | none => simpa [keepL] using q2
    | some d => simpa [keepL] using q2
/-- .. where nothing but a value comes of a turn -/
theorem lcL_pure {f : D → Store → R (Option D)} {st : Store} (g : D → Option D) : ∀ (xs : List D), (∀ x ∈ xs, f x st = .ok (g x) st) → lcL f xs st = .ok (xs.filterMap g) st
  | [], _ => rfl
  | x :: xs, h => by
    unfold lcL
    rw [h x (by simp)]
    show (lcL f xs st).bind _ = _
    rw [lcL_pure g xs fun y hy => h y (List.mem_cons_of_mem _ hy), List.filterMap_cons]
    cases g x <;> rfl

/-! ### calls -/
theorem gc_same {st0 st : Store} {ds : List D} (h : st.length = st0.length) : gc st0 ds st = st := by
  unfold gc
  split
  · rw [← h, List.take_length]
  · rfl
theorem gc_drop {st0 st1 new : Store} {ds : List D} (hl : st1.length = st0.length) (hd : D.mxs ds ≤ st0.length) (hs : ∀ k, k < st0.length → st1[k]? = st0[k]? ∨ ∃ o, st1[k]? = some o ∧ o.mx ≤ st0.length) : gc st0 ds (st1 ++ new) = st1 := by
  unfold gc
  rw [if_pos, List.take_append_of_le_length (by omega), ← hl, List.take_length]
  refine ⟨hd, fun k hk => ?_⟩
  rw [List.getElem?_append_left (by omega)]
  exact hs k hk
variable {tab : List FT}
/-- a call, by its body -/
theorem call_wpE {n f : Nat} {ft : FT} {ds : List D} {st : Store} {Q : D → Store → Prop} (ht : tab[f]? = some ft) (hl : ds.length = ft.np)
    (h : WSE (fun c fs s => xq c fs (gc st (fs.map (·.2)) s)) (runs Γ (callN Γ (fnOfTab tab) n) ft.body (startE ft.N.length ds) st) (fun _ st' => Q .non (gc st [.non] st')) (fun d st' => Q d (gc st [d] st'))) : WPE xq (callN Γ (fnOfTab tab) (n + 1) f ds st) Q := by
  have e : callN Γ (fnOfTab tab) (n + 1) f ds st = retOf st (runs Γ (callN Γ (fnOfTab tab) n) ft.body (startE ft.N.length ds) st) := by
    show (match fnOfTab tab f with
      | some fd => if ds.length = fd.np then retOf st (runs Γ (callN Γ (fnOfTab tab) n) fd.body (startE fd.ns ds) st) else .stk
      | none => .stk) = _
    have : fnOfTab tab f = some ft.fd := by unfold fnOfTab; rw [ht] <;> rfl
    rw [this]
    exact if_pos hl
  rw [e]
  cases q : runs Γ (callN Γ (fnOfTab tab) n) ft.body (startE ft.N.length ds) st with
  | nx e s => rw [q] at h; exact h
  | rt d s => rw [q] at h; exact h
  | ex _ _ _ _ => rw [q] at h; exact h
  | stk => rw [q] at h; exact h.elim
/-- a call, by its body -/
theorem call_wp {n f : Nat} {ft : FT} {ds : List D} {st : Store} {Q : D → Store → Prop} (ht : tab[f]? = some ft) (hl : ds.length = ft.np)
    (h : WSE xF (runs Γ (callN Γ (fnOfTab tab) n) ft.body (startE ft.N.length ds) st) (fun _ st' => Q .non (gc st [.non] st')) (fun d st' => Q d (gc st [d] st'))) : WPE xF (callN Γ (fnOfTab tab) (n + 1) f ds st) Q := call_wpE ht hl h
/-- .. that leaves the store as long as it was -/
theorem call_same {n f : Nat} {ft : FT} {ds : List D} {st : Store} {Q : D → Store → Prop} (ht : tab[f]? = some ft) (hl : ds.length = ft.np)
    (h : WSE xF (runs Γ (callN Γ (fnOfTab tab) n) ft.body (startE ft.N.length ds) st) (fun _ st' => st'.length = st.length ∧ Q .non st') (fun d st' => st'.length = st.length ∧ Q d st')) : WPE xF (callN Γ (fnOfTab tab) (n + 1) f ds st) Q :=
  call_wp ht hl (WSE.imp h (fun _ st' ⟨h1, h2⟩ => by rw [gc_same h1]; exact h2) fun d st' ⟨h1, h2⟩ => by rw [gc_same h1]; exact h2)
/-! ### every form -/
section
variable {env : Env} {st : Store} {Q : D → Store → Prop} {N : Env → Store → Prop} {V : D → Store → Prop}
theorem ex_ite {α : Type} {c : Prop} [Decidable c] {x : α} {Q : α → Prop} : (∃ d, (if c then some x else none) = some d ∧ Q d) ↔ c ∧ Q x := by
  by_cases h : c
  · rw [if_pos h]
    exact ⟨fun ⟨_, e, q⟩ => (by cases e; exact ⟨h, q⟩), fun ⟨_, q⟩ => ⟨x, rfl, q⟩⟩
  · rw [if_neg h]
    exact ⟨fun ⟨_, e, _⟩ => (nomatch e), fun ⟨q, _⟩ => absurd q h⟩
theorem ex_some {α : Type} {x : α} {Q : α → Prop} : (∃ d, some x = some d ∧ Q d) ↔ Q x := ⟨fun ⟨_, e, q⟩ => by cases e; exact q, fun q => ⟨x, rfl, q⟩⟩
theorem ex_none {α : Type} {Q : α → Prop} : (∃ d, (none : Option α) = some d ∧ Q d) ↔ False := ⟨fun ⟨_, e, _⟩ => (nomatch e), fun q => q.elim⟩
theorem ex_bl {b : Bool} {Q : Bool → Prop} : (∃ c, D.bl b = .bl c ∧ Q c) ↔ Q b := ⟨fun ⟨_, e, q⟩ => by cases e; exact q, fun q => ⟨b, rfl, q⟩⟩
theorem ex_map {α β : Type} {o : Option α} {f : α → β} {Q : β → Prop} : (∃ d, o.map f = some d ∧ Q d) ↔ ∃ a, o = some a ∧ Q (f a) := by
  cases o with
  | none => exact ⟨fun ⟨_, e, _⟩ => (nomatch e), fun ⟨_, e, _⟩ => (nomatch e)⟩
  | some a => exact ⟨fun ⟨_, e, q⟩ => ⟨a, rfl, by cases e; exact q⟩, fun ⟨_, e, q⟩ => ⟨f a, rfl, by cases e; exact q⟩⟩
theorem w_non : WPE xq (ev Γ cf .non env st) Q ↔ Q .non st := by simp only [ev, WP_ok]
theorem w_bl {b : Bool} : WPE xq (ev Γ cf (.bl b) env st) Q ↔ Q (.bl b) st := by simp only [ev, WP_ok]
theorem w_int {i : Int} : WPE xq (ev Γ cf (.int i) env st) Q ↔ Q (.int i) st := by simp only [ev, WP_ok]
theorem w_str {x : Str} : WPE xq (ev Γ cf (.str x) env st) Q ↔ Q (.str x) st := by simp only [ev, WP_ok]
theorem w_var {i : Nat} : WPE xq (ev Γ cf (.var i) env st) Q ↔ ∃ d, env[i]? = some (some d) ∧ Q d st := by
  simp only [ev]
  split
  · rename_i d h
    rw [h]
    exact ⟨fun q => ⟨d, rfl, q⟩, fun ⟨_, e, q⟩ => by cases e; exact q⟩
  · rename_i h
    exact ⟨fun q => False.elim q, fun ⟨d, e, _⟩ => (h d e).elim⟩
theorem w_con {i : Nat} : WPE xq (ev Γ cf (.con i) env st) Q ↔ ∃ d, Γ.con i = some d ∧ Q d st := by simp only [ev, WP_of]
theorem w_bin {o : BOp} {a b : E} : WPE xq (ev Γ cf (.bin o a b) env st) Q ↔ WPE xq (ev Γ cf a env st) fun x st => WPE xq (ev Γ cf b env st) fun y st => ∃ d, binD st o x y = some d ∧ Q d st := by simp only [ev, WP_bind, WP_of]
theorem w_neg {a : E} : WPE xq (ev Γ cf (.neg a) env st) Q ↔ WPE xq (ev Γ cf a env st) fun x st => ∃ i, x = .int i ∧ Q (.int (-i)) st := by
  simp only [ev, WP_bind]
  constructor
  · exact fun h => h.imp fun d st q => by
      cases d with
      | int i => exact ⟨i, rfl, q⟩
      | _ => exact q.elim
  · exact fun h => h.imp fun d st ⟨i, e, q⟩ => by subst e; exact q
theorem w_cmp {o : COp} {a b : E} : WPE xq (ev Γ cf (.cmp o a b) env st) Q ↔ WPE xq (ev Γ cf a env st) fun x st => WPE xq (ev Γ cf b env st) fun y st => ∃ r, cmpD st o x y = some r ∧ Q (.bl r) st := by simp only [ev, WP_bind, WP_of, ex_map]
theorem w_chn {o p : COp} {a b c : E} : WPE xq (ev Γ cf (.chn o p a b c) env st) Q ↔ WPE xq (ev Γ cf a env st) fun x st => WPE xq (ev Γ cf b env st) fun y st => ∃ r, cmpD st o x y = some r ∧
    WPE xq (if r = true then (ev Γ cf c env st).bind fun z st => .of ((cmpD st p y z).map .bl) st else .ok (.bl false) st) Q := by simp only [ev, WP_bind, WP_of]
theorem w_isn {a : E} : WPE xq (ev Γ cf (.isn a) env st) Q ↔ WPE xq (ev Γ cf a env st) fun x st => Q (.bl x.isNon) st := by simp only [ev, WP_bind, WP_ok]
theorem w_notn {a : E} : WPE xq (ev Γ cf (.notn a) env st) Q ↔ WPE xq (ev Γ cf a env st) fun x st => Q (.bl (!x.isNon)) st := by simp only [ev, WP_bind, WP_ok]
theorem w_and {es : List E} : WPE xq (ev Γ cf (.and es) env st) Q ↔ WPE xq (evAnd Γ cf es env st) fun b st => Q (.bl b) st := by simp only [ev, WP_bind, WP_ok]
theorem w_or {es : List E} : WPE xq (ev Γ cf (.or es) env st) Q ↔ WPE xq (evOr Γ cf es env st) fun b st => Q (.bl b) st := by simp only [ev, WP_bind, WP_ok]
theorem w_not {a : E} : WPE xq (ev Γ cf (.not a) env st) Q ↔ WPE xq (ev Γ cf a env st) fun d st => ∃ b, d = .bl b ∧ Q (.bl (!b)) st := by simp only [ev, WP_bind, WP_ok, WP_test]
theorem w_ite {c a b : E} : WPE xq (ev Γ cf (.ite c a b) env st) Q ↔ WPE xq (ev Γ cf c env st) fun d st => ∃ r, d = .bl r ∧ WPE xq (if r = true then ev Γ cf a env st else ev Γ cf b env st) Q := by simp only [ev, WP_bind, WP_test]
theorem w_tup {es : List E} : WPE xq (ev Γ cf (.tup es) env st) Q ↔ WPE xq (evs Γ cf es env st) fun ds st => ds.length ≤ sizeLine ∧ Q (.tup ds) st := by
  simp only [ev, WP_bind]
  constructor
  · refine fun h => h.imp fun ds st q => ?_
    split at q
    · exact ⟨by assumption, q⟩
    · exact q.elim
  · exact fun h => h.imp fun ds st ⟨h1, h2⟩ => by rw [if_pos h1]; exact h2
theorem w_lst {es : List E} : WPE xq (ev Γ cf (.lst es) env st) Q ↔ WPE xq (evs Γ cf es env st) fun ds st => ds.length ≤ sizeLine ∧ Q (.lst ds) st := by
  simp only [ev, WP_bind]
  constructor
  · refine fun h => h.imp fun ds st q => ?_
    split at q
    · exact ⟨by assumption, q⟩
    · exact q.elim
  · exact fun h => h.imp fun ds st ⟨h1, h2⟩ => by rw [if_pos h1]; exact h2
theorem w_mutL {a : E} {R : D → Store → Prop} (hR : ∀ d st, R d st → ∃ xs, d = .lst xs ∧ Q (.ref st.length) (st ++ [.lst xs])) (h : WPE xq (ev Γ cf a env st) R) : WPE xq (ev Γ cf (.mut a) env st) Q := by
  simp only [ev, WP_bind]
  refine h.imp fun d st q => ?_
  obtain ⟨xs, e, q2⟩ := hR d st q
  subst e
  exact q2
theorem w_dct : WPE xq (ev Γ cf (.dct []) env st) Q ↔ Q (.dct [] []) st := by simp only [ev, WP_ok]
theorem w_idx {a i : E} : WPE xq (ev Γ cf (.idx a i) env st) Q ↔ WPE xq (ev Γ cf a env st) fun x st => WPE xq (ev Γ cf i env st) fun y st => ∃ d, idxD st x y = some d ∧ Q d st := by simp only [ev, WP_bind, WP_of]
theorem w_slc {a lo hi : E} : WPE xq (ev Γ cf (.slc a lo hi) env st) Q ↔ WPE xq (ev Γ cf a env st) fun x st => WPE xq (if lo.nulB = true then .ok none st else (ev Γ cf lo env st).bind fun d st => .of (bnd d) st : R (Option Int)) fun l st =>
    WPE xq (if hi.nulB = true then .ok none st else (ev Γ cf hi env st).bind fun d st => .of (bnd d) st : R (Option Int)) fun h st => ∃ d, slcD st x l h = some d ∧ Q d st := by simp only [ev, WP_bind, WP_of]
theorem w_call {f : Nat} {es : List E} : WPE xq (ev Γ cf (.call f es) env st) Q ↔ WPE xq (evs Γ cf es env st) fun ds st => WPE xq (cf f ds st) Q := by simp only [ev, WP_bind]
theorem w_bi {b : BI} {es : List E} : WPE xq (ev Γ cf (.bi b es) env st) Q ↔ WPE xq (evs Γ cf es env st) fun ds st => ∃ d, biD st b ds = some d ∧ Q d st := by simp only [ev, WP_bind, WP_of]
theorem w_bm {m : BM} {a : E} {es : List E} : WPE xq (ev Γ cf (.bm m a es) env st) Q ↔ WPE xq (ev Γ cf a env st) fun x st => bmOn st m x = true ∧ WPE xq (evs Γ cf es env st) fun ds st => ∃ d, bmD st m x ds = some d ∧ Q d st := by
  simp only [ev, WP_bind]
  constructor
  · refine fun h => h.imp fun x st q => ?_
    split at q
    · rw [WP_bind] at q
      exact ⟨by assumption, q.imp fun ds st q => WP_of.mp q⟩
    · exact q.elim
  · exact fun h => h.imp fun x st ⟨h1, h2⟩ => by rw [if_pos h1, WP_bind]; exact h2.imp fun ds st q => WP_of.mpr q
theorem w_isi {a : E} {t : Ty} : WPE xq (ev Γ cf (.isi a t) env st) Q ↔ WPE xq (ev Γ cf a env st) fun x st => ∃ r, isiD Γ.sub Γ.ve st x t = some r ∧ Q (.bl r) st := by simp only [ev, WP_bind, WP_of, ex_map]
theorem w_app {a e : E} : WPE xq (ev Γ cf (.app a e) env st) Q ↔ WPE xq (ev Γ cf a env st) fun x st => (lstD st x).isSome = true ∧ WPE xq (ev Γ cf e env st) fun d st => WPE xq (appD st x d) Q := by
  simp only [ev, WP_bind]
  constructor
  · refine fun h => h.imp fun x st q => ?_
    split at q
    · rw [WP_bind] at q
      exact ⟨by assumption, q⟩
    · exact q.elim
  · exact fun h => h.imp fun x st ⟨h1, h2⟩ => by rw [if_pos h1, WP_bind]; exact h2
theorem w_evs0 {Q : List D → Store → Prop} : WPE xq (evs Γ cf [] env st) Q ↔ Q [] st := by simp only [evs, WP_ok]
theorem w_evs {e : E} {es : List E} {Q : List D → Store → Prop} : WPE xq (evs Γ cf (e :: es) env st) Q ↔ WPE xq (ev Γ cf e env st) fun d st => WPE xq (evs Γ cf es env st) fun ds st => Q (d :: ds) st := by simp only [evs, WP_bind, WP_ok]
theorem w_and0 {Q : Bool → Store → Prop} : WPE xq (evAnd Γ cf [] env st) Q ↔ Q true st := by simp only [evAnd, WP_ok]
theorem w_or0 {Q : Bool → Store → Prop} : WPE xq (evOr Γ cf [] env st) Q ↔ Q false st := by simp only [evOr, WP_ok]
theorem w_and1 {e : E} {es : List E} {Q : Bool → Store → Prop} : WPE xq (evAnd Γ cf (e :: es) env st) Q ↔ WPE xq (ev Γ cf e env st) fun d st => ∃ r, d = .bl r ∧ WPE xq (if r = true then evAnd Γ cf es env st else .ok false st) Q := by simp only [evAnd, WP_bind, WP_test]
theorem w_or1 {e : E} {es : List E} {Q : Bool → Store → Prop} : WPE xq (evOr Γ cf (e :: es) env st) Q ↔ WPE xq (ev Γ cf e env st) fun d st => ∃ r, d = .bl r ∧ WPE xq (if r = true then .ok true st else evOr Γ cf es env st) Q := by simp only [evOr, WP_bind, WP_test]
/-- a comprehension -/
theorem w_lc {own : List Nat} {t : Tg} {k : IK} {its : List E} {c e : E} {P0 : List D → Store → Prop} (h : WPE xq (evs Γ cf its env st) P0) (hR : ∀ ds st, P0 ds st → ∃ xs, walkD st k ds = some xs ∧
    WPE xF (lcL (fun x st' => if still (refsOf ds) st st' = true then lcTurn (asgT st' t x (wipeE env own)) (fun env' st' => if c.nulB = true then .ok true st' else testR (ev Γ cf c env' st')) (fun env' st' => ev Γ cf e env' st') st' else .stk) xs st)
      fun rs st' => still (refsOf ds) st st' = true ∧ rs.length ≤ sizeLine ∧ Q (.lst rs) st') : WPE xq (ev Γ cf (.lc own t k its c e) env st) Q := by
  simp only [ev, WP_bind]
  refine h.imp fun ds st q => ?_
  obtain ⟨xs, e1, q⟩ := hR ds st q
  rw [e1]
  obtain ⟨rs, st', e2, h1, h2, h3⟩ := WP_get q
  simp only
  rw [e2]
  unfold lcEnd
  simp only
  rw [if_pos ⟨h1, h2⟩]
  exact h3
/-- .. of which nothing comes but the values -/
theorem w_lcP {own : List Nat} {t : Tg} {k : IK} {its : List E} {c e : E} {P0 : List D → Store → Prop} (h : WPE xq (evs Γ cf its env st) P0) (p : D → Bool) (g : D → D)
    (hR : ∀ ds st, P0 ds st → ∃ xs, walkD st k ds = some xs ∧ xs.length ≤ sizeLine ∧ (∀ x ∈ xs, ∃ env', asgT st t x (wipeE env own) = some env' ∧ (c.nulB = true ∧ p x = true ∨ c.nulB = false ∧ ev Γ cf c env' st = .ok (.bl (p x)) st) ∧ (p x = true → ev Γ cf e env' st = .ok (g x) st)) ∧
      Q (.lst ((xs.filter p).map g)) st) : WPE xq (ev Γ cf (.lc own t k its c e) env st) Q := by
  refine w_lc h fun ds st q => ?_
  obtain ⟨xs, e1, hl, hx, q⟩ := hR ds st q
  refine ⟨xs, e1, ?_⟩
  rw [lcL_pure (fun x => if p x = true then some (g x) else none) xs fun x hm => ?_]
  · have hf : xs.filterMap (fun x => if p x = true then some (g x) else none) = (xs.filter p).map g := by
      clear hx e1 hl q
      induction xs with
      | nil => rfl
      | cons x xs ih =>
        rw [List.filterMap_cons, List.filter_cons]
        by_cases hp : p x = true
        · rw [if_pos hp, if_pos hp, List.map_cons, ← ih]
        · rw [if_neg hp, if_neg hp, ← ih]
    rw [hf]
    refine ⟨still_refl, ?_, q⟩
    rw [List.length_map]
    exact Nat.le_trans (List.length_filter_le _ _) hl
  · rw [if_pos still_refl]
    obtain ⟨env', h1, h2, h3⟩ := hx x hm
    rw [h1]
    unfold lcTurn
    simp only
    have key : (if c.nulB = true then R.ok true st else testR (ev Γ cf c env' st)) = .ok (p x) st := by
      rcases h2 with ⟨q1, q2⟩ | ⟨q1, q2⟩
      · rw [if_pos q1, q2]
      · rw [if_neg (by rw [q1]; simp), q2]
        rfl
    rw [key]
    show (if p x = true then (ev Γ cf e env' st).bind fun d st => .ok (some d) st else .ok none st) = _
    by_cases hp : p x = true
    · rw [if_pos hp, if_pos hp, h3 hp]
      rfl
    · rw [if_neg hp, if_neg hp]
/-! ### statements -/
theorem s_nil : WSE xq (runs Γ cf [] env st) N V ↔ N env st := by simp only [runs, WS_nx]
theorem s_cons {s : S} {ss : List S} : WSE xq (runs Γ cf (s :: ss) env st) N V ↔ WSE xq (run Γ cf s env st) (fun env st => WSE xq (runs Γ cf ss env st) N V) V := by simp only [runs, WS_bind]
theorem s_asg {t : Tg} {e : E} : WSE xq (run Γ cf (.asg t e) env st) N V ↔ WPE xq (ev Γ cf e env st) fun d st => ∃ env', asgT st t d env = some env' ∧ N env' st := by
  simp only [run, WS_s]
  constructor
  · refine fun h => h.imp fun d st q => ?_
    cases e : asgT st t d env with
    | none => rw [e] at q; exact q.elim
    | some env' => rw [e] at q; exact ⟨env', rfl, q⟩
  · exact fun h => h.imp fun d st ⟨env', e, q⟩ => by rw [e]; exact q
theorem s_ite {c : E} {a b : List S} : WSE xq (run Γ cf (.ite c a b) env st) N V ↔ WPE xq (ev Γ cf c env st) fun d st => ∃ r, d = .bl r ∧ WSE xq (if r = true then runs Γ cf a env st else runs Γ cf b env st) N V := by simp only [run, WS_s, WP_test]
theorem s_ret {e : E} : WSE xq (run Γ cf (.ret e) env st) N V ↔ WPE xq (ev Γ cf e env st) V := by simp only [run, WS_s, WS_rt]
theorem s_exp {e : E} : WSE xq (run Γ cf (.exp e) env st) N V ↔ WPE xq (ev Γ cf e env st) fun _ st => N env st := by simp only [run, WS_s, WS_nx]
theorem s_raise {c : Nat} {es : List E} : WSE xq (run Γ cf (.raise c es) env st) N V ↔ WPE xq (evs Γ cf es env st) fun ds st => ∃ fs, Γ.exf c ds = some fs ∧ xq c fs st := by
  simp only [run, WS_s]
  constructor
  · refine fun h => h.imp fun ds st q => ?_
    cases e : Γ.exf c ds with
    | none => rw [e] at q; exact q.elim
    | some fs => rw [e] at q; exact ⟨fs, rfl, q⟩
  · exact fun h => h.imp fun ds st ⟨fs, e, q⟩ => by rw [e]; exact q
/-- try: t = e / except c as i: j = i -/
theorem s_tri {t : Tg} {e : E} {c i j : Nat} : WSE xq (run Γ cf (.tri [.asg t e] c i j) env st) N V ↔
    WPE (fun c' fs s => ∃ b, Γ.sub c' c = some b ∧ (b = true → N (((env.set i (some (.ref s.length))).set j (some (.ref s.length))).set i none) (s ++ [.exc c' fs])) ∧ (b = false → xq c' fs s)) (ev Γ cf e env st) fun d st => ∃ env', asgT st t d env = some env' ∧ N env' st := by
  simp only [run, runs]
  cases ev Γ cf e env st with
  | stk => exact Iff.rfl
  | ok d s =>
    simp only [R.s]
    cases q : asgT s t d env with
    | none => exact ⟨fun h => h.elim, fun ⟨_, h, _⟩ => by rw [q] at h; cases h⟩
    | some env' => exact ⟨fun h => ⟨env', q, h⟩, fun ⟨_, h, p⟩ => by rw [q] at h; cases h; exact p⟩
  | ex c' fs s =>
    simp only [R.s, SR.bind]
    show WSE xq (match Γ.sub c' c with
      | some true => SR.nx (((env.set i (some (.ref s.length))).set j (some (.ref s.length))).set i none) (s ++ [.exc c' fs])
      | some false => .ex c' fs env s
      | none => .stk) N V ↔ ∃ b, Γ.sub c' c = some b ∧ _
    cases q : Γ.sub c' c with
    | none => exact ⟨fun h => h.elim, fun ⟨_, h, _⟩ => by cases h⟩
    | some b =>
      cases b with
      | true => exact ⟨fun h => ⟨true, rfl, fun _ => h, fun z => (by cases z)⟩, fun ⟨b, h, p, _⟩ => by cases h; exact p rfl⟩
      | false => exact ⟨fun h => ⟨false, rfl, fun z => (by cases z), fun _ => h⟩, fun ⟨b, h, _, p⟩ => by cases h; exact p rfl⟩
theorem s_pass : WSE xq (run Γ cf .pass env st) N V ↔ N env st := by simp only [run, WS_nx]
theorem s_ssub {a i e : E} {R : D → D → D → Store → Prop} (h : WPE xq (ev Γ cf e env st) fun d st => WPE xq (ev Γ cf a env st) fun x st => WPE xq (ev Γ cf i env st) fun y st => R d x y st)
    (hR : ∀ d x y st, R d x y st → ∃ k z xs j, x = .ref k ∧ y = .int z ∧ st[k]? = some (.lst xs) ∧ L2.ixN xs.length z = some j ∧ N env (st.set k (.lst (xs.set j d)))) : WSE xq (run Γ cf (.ssub a i e) env st) N V := by
  simp only [run, WS_s]
  refine h.imp fun d st q => q.imp fun x st q => q.imp fun y st q => ?_
  obtain ⟨k, z, xs, j, e1, e2, e3, e4, q2⟩ := hR d x y st q
  subst e1 e2
  simp only [e3, e4]
  exact q2
theorem s_for {t : Tg} {k : IK} {its : List E} {body : List S} {P0 : List D → Store → Prop} (h : WPE xq (evs Γ cf its env st) P0) (hR : ∀ ds st, P0 ds st → ∃ xs, walkD st k ds = some xs ∧
    WSE xq (loopL (fun x env st => match asgT st t x env with
        | some env => runs Γ cf body env st
        | none => .stk) (fun st' => still (refsOf ds) st st') xs env st) N V) : WSE xq (run Γ cf (.for t k its body) env st) N V := by
  simp only [run, WS_s]
  refine h.imp fun ds st q => ?_
  obtain ⟨xs, e, q⟩ := hR ds st q
  rw [e]
  exact q
theorem s_whl {c : E} {body : List S} (h : WSE xq (loopW (fun env st => testR (ev Γ cf c env st)) (fun env st => runs Γ cf body env st) 1000000 env st) N V) : WSE xq (run Γ cf (.whl c body) env st) N V := by
  simp only [run]
  exact h
theorem asg_nm {i : Nat} {d : D} : asgT st (.nm i) d env = some (env.set i (some d)) := by unfold asgT; rfl
theorem asgs_nil : asgTs st [] [] env = some env := by unfold asgTs; rfl
end
end

/-! ### on the ground -/
section
variable {st : Store} {i j : Int} {x y : Str} {a b : Bool} {xs ys : List D}
theorem ex_var {α : Type} {x : α} {Q : α → Prop} : (∃ d, some (some x) = some (some d) ∧ Q d) ↔ Q x := ⟨fun ⟨_, e, q⟩ => (by cases e; exact q), fun q => ⟨x, rfl, q⟩⟩
theorem ex_int {Q : Int → Prop} : (∃ c, D.int i = .int c ∧ Q c) ↔ Q i := ⟨fun ⟨_, e, q⟩ => (by cases e; exact q), fun q => ⟨i, rfl, q⟩⟩
theorem b_add_i : binD st .add (.int i) (.int j) = some (.int (i + j)) := rfl
theorem b_sub_i : binD st .sub (.int i) (.int j) = some (.int (i - j)) := rfl
theorem b_mul_i : binD st .mul (.int i) (.int j) = if (-(2 ^ 64) < i ∧ i < 2 ^ 64) ∨ (-(2 ^ 64) < j ∧ j < 2 ^ 64) then some (.int (i * j)) else none := rfl
theorem b_mod_i : binD st .mod (.int i) (.int j) = if ¬ j = 0 then some (.int (i.fmod j)) else none := by
  show (if j = 0 then none else some (D.int (i.fmod j))) = _
  by_cases h : j = 0
  · rw [if_pos h, if_neg (fun n => n h)]
  · rw [if_neg h, if_pos h]
theorem b_div_i : binD st .fdiv (.int i) (.int j) = if j ≠ 0 ∧ j.natAbs < 1073741824 then some (.int (i.fdiv j)) else none := rfl
theorem b_pow_i : binD st .pow (.int i) (.int j) = if 0 ≤ j ∧ j ≤ 1000 ∧ i.natAbs < 2 ^ 64 then some (.int (i ^ j.toNat)) else none := rfl
theorem b_add_s : binD st .add (.str x) (.str y) = if x.length + y.length ≤ sizeLine then some (.str (x ++ y)) else none := rfl
theorem b_add_t : binD st .add (.tup xs) (.tup ys) = if xs.length + ys.length ≤ sizeLine then some (.tup (xs ++ ys)) else none := rfl
theorem b_add_l : binD st .add (.lst xs) (.lst ys) = if xs.length + ys.length ≤ sizeLine then some (.lst (xs ++ ys)) else none := rfl
theorem b_mul_s : binD st .mul (.str x) (.int j) = if -(2 ^ 31) ≤ j ∧ j < 2 ^ 31 ∧ x.length * j.toNat ≤ sizeLine then some (.str (strMul x j)) else none := rfl
theorem b_mul_t : binD st .mul (.tup xs) (.int j) = if -(2 ^ 31) ≤ j ∧ j < 2 ^ 31 ∧ xs.length * j.toNat ≤ sizeLine then some (.tup (List.replicate j.toNat xs).flatten) else none := rfl
theorem b_mul_l : binD st .mul (.lst xs) (.int j) = if -(2 ^ 31) ≤ j ∧ j < 2 ^ 31 ∧ xs.length * j.toNat ≤ sizeLine then some (.lst (List.replicate j.toNat xs).flatten) else none := rfl
theorem beq_dec {α : Type} [BEq α] [LawfulBEq α] [DecidableEq α] (a b : α) : (a == b) = decide (a = b) := by
  rw [Bool.eq_iff_iff]
  simp
theorem c_lt_i : cmpD st .lt (.int i) (.int j) = some (decide (i < j)) := rfl
theorem c_le_i : cmpD st .le (.int i) (.int j) = some (decide (i ≤ j)) := rfl
theorem c_gt_i : cmpD st .gt (.int i) (.int j) = some (decide (j < i)) := rfl
theorem c_ge_i : cmpD st .ge (.int i) (.int j) = some (decide (j ≤ i)) := rfl
theorem c_lt_s : cmpD st .lt (.str x) (.str y) = some (ltStr x y) := rfl
theorem c_le_s : cmpD st .le (.str x) (.str y) = some (!ltStr y x) := rfl
theorem c_eq_i : cmpD st .eq (D.int i) (.int j) = some (decide (i = j)) := by
  show some (PyData.eqv (.int i) (.int j)) = _
  simp only [PyData.eqv, beq_dec]
theorem c_ne_i : cmpD st .ne (D.int i) (.int j) = some (!decide (i = j)) := by
  show some (!PyData.eqv (.int i) (.int j)) = _
  simp only [PyData.eqv, beq_dec]
theorem c_eq_s : cmpD st .eq (D.str x) (.str y) = some (decide (x = y)) := by
  show some (PyData.eqv (.str x) (.str y)) = _
  simp only [PyData.eqv, beq_dec]
theorem c_ne_s : cmpD st .ne (D.str x) (.str y) = some (!decide (x = y)) := by
  show some (!PyData.eqv (.str x) (.str y)) = _
  simp only [PyData.eqv, beq_dec]
end

/-! ### the rest, as steps -/
def ssubD (st : Store) (x y d : D) : Option Store := match x, y with
  | .ref k, .int z => match st[k]? with
    | some (.lst xs) => match L2.ixN xs.length z with
      | some j => some (st.set k (.lst (xs.set j d)))
      | none => none
    | _ => none
  | _, _ => none
def appS (st : Store) (x d : D) : Option Store := match x with
  | .ref k => match st[k]? with
    | some (.lst xs) => if xs.length < sizeLine then some (st.set k (.lst (xs ++ [d]))) else none
    | _ => none
  | _ => none
def mutP (Q : D → Store → Prop) (st : Store) : D → Prop
  | .lst ds => Q (.ref st.length) (st ++ [.lst ds])
  | .dct ks vs => Q (.ref st.length) (st ++ [.dct false ks vs])
  | _ => False
section
variable {Γ : Tx} {cf : CF} {env : Env} {st : Store} {Q : D → Store → Prop} {N : Env → Store → Prop} {V : D → Store → Prop}
theorem s_ssubD {a i e : E} : WSE xq (run Γ cf (.ssub a i e) env st) N V ↔ WPE xq (ev Γ cf e env st) fun d st => WPE xq (ev Γ cf a env st) fun x st => WPE xq (ev Γ cf i env st) fun y st => ∃ st', ssubD st x y d = some st' ∧ N env st' := by
  simp only [run, WS_s]
  constructor
  · refine fun h => h.imp fun d st q => q.imp fun x st q => q.imp fun y st q => ?_
    split at q
    · rename_i k z
      split at q
      · rename_i xs hk
        split at q
        · rename_i j hj
          exact ⟨_, by simp only [ssubD, hk, hj], q⟩
        · exact q.elim
      · exact q.elim
    · exact q.elim
  · refine fun h => h.imp fun d st q => q.imp fun x st q => q.imp fun y st q => ?_
    obtain ⟨st', e, q⟩ := q
    unfold ssubD at e
    split at e
    · split at e
      · rename_i hk
        split at e
        · rename_i hj
          cases e
          first | exact q | (simp only [hk, hj]; exact q)
        · cases e
      · cases e
    · cases e
theorem s_forD {t : Tg} {k : IK} {its : List E} {body : List S} : WSE xq (run Γ cf (.for t k its body) env st) N V ↔ WPE xq (evs Γ cf its env st) fun ds st => ∃ xs, walkD st k ds = some xs ∧
    WSE xq (loopL (fun x env st => match asgT st t x env with
        | some env => runs Γ cf body env st
        | none => .stk) (fun st' => still (refsOf ds) st st') xs env st) N V := by
  constructor
  · intro h
    simp only [run, WS_s] at h
    refine h.imp fun ds st q => ?_
    cases e : walkD st k ds with
    | none => rw [e] at q; exact q.elim
    | some xs => rw [e] at q; exact ⟨xs, rfl, q⟩
  · exact fun h => s_for h fun ds st q => q
theorem s_whlD {c : E} {body : List S} : WSE xq (run Γ cf (.whl c body) env st) N V ↔ WSE xq (loopW (fun env st => testR (ev Γ cf c env st)) (fun env st => runs Γ cf body env st) 1000000 env st) N V := by simp only [run]
theorem w_lcD {own : List Nat} {t : Tg} {k : IK} {its : List E} {c e : E} : WPE xq (ev Γ cf (.lc own t k its c e) env st) Q ↔ WPE xq (evs Γ cf its env st) fun ds st => ∃ xs, walkD st k ds = some xs ∧
    WPE xF (lcL (fun x st' => if still (refsOf ds) st st' = true then lcTurn (asgT st' t x (wipeE env own)) (fun env' st' => if c.nulB = true then .ok true st' else testR (ev Γ cf c env' st')) (fun env' st' => ev Γ cf e env' st') st' else .stk) xs st)
      fun rs st' => still (refsOf ds) st st' = true ∧ rs.length ≤ sizeLine ∧ Q (.lst rs) st' := by
  constructor
  · intro h
    simp only [ev, WP_bind] at h
    refine h.imp fun ds st q => ?_
    cases e1 : walkD st k ds with
    | none => rw [e1] at q; exact q.elim
    | some xs =>
      rw [e1] at q
      refine ⟨xs, rfl, ?_⟩
      simp only at q
      revert q
      generalize lcL _ xs st = r
      intro q
      cases r with
      | ok rs st' =>
        unfold lcEnd at q
        simp only at q
        split at q
        · rename_i hz
          exact ⟨hz.1, hz.2, q⟩
        · exact q.elim
      | _ => exact q.elim
  · exact fun h => w_lc h fun ds st q => q
theorem w_mutD {a : E} : WPE xq (ev Γ cf (.mut a) env st) Q ↔ WPE xq (ev Γ cf a env st) fun d st => mutP Q st d := by
  simp only [ev, WP_bind]
  constructor
  · refine fun h => h.imp fun d st q => ?_
    cases d <;> exact q
  · refine fun h => h.imp fun d st q => ?_
    cases d <;> exact q
theorem mut_lst {ds : List D} : mutP Q st (.lst ds) ↔ Q (.ref st.length) (st ++ [.lst ds]) := Iff.rfl
theorem mut_dct {ks : List Key} {ds : List D} : mutP Q st (.dct ks ds) ↔ Q (.ref st.length) (st ++ [.dct false ks ds]) := Iff.rfl
theorem w_appD {a e : E} : WPE xq (ev Γ cf (.app a e) env st) Q ↔ WPE xq (ev Γ cf a env st) fun x st => (lstD st x).isSome = true ∧ WPE xq (ev Γ cf e env st) fun d st => ∃ st', appS st x d = some st' ∧ Q .non st' := by
  rw [w_app]
  have key : ∀ (x d : D) (st : Store), WPE xq (appD st x d) Q ↔ ∃ st', appS st x d = some st' ∧ Q .non st' := fun x d st => by
    cases x with
    | ref k =>
      cases h : st[k]? with
      | none => simp only [appD, appS, h, WP_stk, ex_none]
      | some m =>
        cases m with
        | lst xs =>
          by_cases hz : xs.length < sizeLine
          · simp only [appD, appS, h, if_pos hz, WP_ok, ex_some]
          · simp only [appD, appS, h, if_neg hz, WP_stk, ex_none]
        | _ => simp only [appD, appS, h, WP_stk, ex_none]
    | _ => simp only [appD, appS, WP_stk, ex_none]
  simp only [key]
/-- a slice's parts -/
theorem p_nul {a : E} {Q : Option Int → Store → Prop} (h : a.nulB = true) : WPE xq (if a.nulB = true then .ok none st else (ev Γ cf a env st).bind fun d st => .of (bnd d) st : R (Option Int)) Q ↔ Q none st := by rw [if_pos h]; exact Iff.rfl
theorem p_some {a : E} {Q : Option Int → Store → Prop} (h : a.nulB = false) : WPE xq (if a.nulB = true then .ok none st else (ev Γ cf a env st).bind fun d st => .of (bnd d) st : R (Option Int)) Q ↔ WPE xq (ev Γ cf a env st) fun d st => ∃ i, bnd d = some i ∧ Q i st := by
  rw [if_neg (by rw [h]; simp), WP_bind]
  simp only [WP_of]
theorem bnd_int {i : Int} : bnd (.int i) = some (some i) := rfl
/-! reading the store -/
theorem idx_at {u : Nat} {xs : List D} {i : Int} (h : st[u]? = some (.lst xs)) : idxD st (.ref u) (.int i) = L2.atI xs i := by
  simp only [idxD, seqD, h]
  rfl
theorem get_set {u : Nat} {o : MO} (h : u < st.length) : (st.set u o)[u]? = some o := List.getElem?_set_self h
theorem get_ne {u v : Nat} {o : MO} (h : u ≠ v) : (st.set u o)[v]? = st[v]? := List.getElem?_set_ne h
theorem ssub_at {u : Nat} {xs : List D} {z : Int} {j : Nat} {d : D} (h : st[u]? = some (.lst xs)) (hj : L2.ixN xs.length z = some j) : ssubD st (.ref u) (.int z) d = some (st.set u (.lst (xs.set j d))) := by simp only [ssubD, h, hj]
end

section
variable {st : Store} {env : Env}
theorem asg_tup2 {i j : Nat} {a b : D} : asgT st (.tup [.nm i, .nm j]) (.tup [a, b]) env = some ((env.set i (some a)).set j (some b)) := by
  simp only [asgT, asgTs, List.length_cons, List.length_nil, if_true]
theorem asg_tup3 {i j k : Nat} {a b c : D} : asgT st (.tup [.nm i, .nm j, .nm k]) (.tup [a, b, c]) env = some (((env.set i (some a)).set j (some b)).set k (some c)) := by
  simp only [asgT, asgTs, List.length_cons, List.length_nil, if_true]
theorem atI_nat {α : Type} {xs : List α} {i : Int} (h0 : 0 ≤ i) (h1 : i.toNat < xs.length) : L2.atI xs i = xs[i.toNat]? := by
  have e : L2.ixN xs.length i = some i.toNat := by
    unfold L2.ixN
    have h2 : i < (xs.length : Int) := by omega
    simp [h0, h2]
  unfold L2.atI
  rw [e] <;> rfl
theorem pys_ints {rf : Nat → Option PyData} : ∀ ns : List Int, pysW rf (ns.map .int) = some (ns.map PyData.int)
  | [] => rfl
  | n :: ns => by
    show (match pyW rf (.int n), pysW rf (ns.map .int) with
      | some a, some b => some (a :: b)
      | _, _ => none) = _
    rw [pys_ints ns]
    rfl
theorem plain_ints : ∀ ns : List Int, PyData.plainAll (ns.map PyData.int) = true
  | [] => rfl
  | n :: ns => by simp only [List.map_cons, PyData.plainAll, PyData.plain, plain_ints ns, Bool.and_self]
theorem ne_nil {c : Nat} {ns : List Int} (h : st[c]? = some (.lst (ns.map .int))) : cmpD st .ne (.ref c) (.lst []) = some (!ns.isEmpty) := by
  have e1 : py st (.ref c) = some (.list (ns.map .int)) := by
    show (match st[c]? with
      | some (.lst xs) => (pysW (pyR 7 st) xs).map PyData.list
      | some (.dct false [] _) => some (PyData.dict [])
      | _ => none) = _
    rw [h]
    simp only [pys_ints, Option.map_some]
  have e2 : py st (.lst []) = some (.list []) := rfl
  simp only [cmpD, eqD, eqP, e1, e2, PyData.plain, PyData.plainAll, plain_ints, Bool.and_self, PyData.depth, PyData.depthAll]
  cases ns with
  | nil => simp [PyData.eqv, PyData.eqvAll]
  | cons n ns => simp [PyData.eqv, PyData.eqvAll]
theorem len_at {c : Nat} {xs : List D} (h : st[c]? = some (.lst xs)) : biD st .len [.ref c] = some (.int xs.length) := by
  simp only [biD, bi1, lenD, seqD, h, Option.map_some]
theorem int_i {i : Int} : biD st .int [.int i] = some (.int i) := rfl
end

section
variable {Γ : Tx} {cf : CF} {env : Env} {st : Store} {Q : D → Store → Prop}
/-- a comprehension over a range: J stays true of the store, P holds of each value -/
theorem lcL_J {f : D → Store → R (Option D)} {xs : List D} {Q : List D → Store → Prop} (J : Store → Prop) (P : D → Prop) (hJ : J st) (hf : ∀ x ∈ xs, ∀ s, J s → WPE xq (f x s) fun r s' => J s' ∧ ∃ d, r = some d ∧ P d)
    (hq : ∀ rs s, J s → rs.length = xs.length → (∀ d ∈ rs, P d) → Q rs s) : WPE xq (lcL f xs st) Q := by
  refine WP_lcL (fun rest acc s => J s ∧ acc.length + rest.length = xs.length ∧ (∀ d ∈ acc, P d) ∧ ∀ x ∈ rest, x ∈ xs) (fun x rest acc s h => ?_) xs [] st ⟨hJ, by simp, by simp, fun _ h => h⟩ fun acc s h => ?_
  · obtain ⟨h1, h2, h3, h4⟩ := h
    refine (hf x (h4 x (by simp)) s h1).imp fun r s' ⟨q1, d, q2, q3⟩ => ?_
    subst q2
    refine ⟨q1, ?_, ?_, fun y hy => h4 y (List.mem_cons_of_mem _ hy)⟩
    · simp only [List.length_append, List.length_cons, List.length_nil] at h2 ⊢
      omega
    · intro e he
      rcases List.mem_append.mp he with he | he
      · exact h3 e he
      · rw [List.mem_singleton.mp he]; exact q3
  · obtain ⟨h1, h2, h3, _⟩ := h
    simp only [List.nil_append] at h2 h3
    exact hq acc s h1 (by simpa using h2) h3
theorem w_lc_rng {own : List Nat} {i : Nat} {a e : E} (J : Store → Prop) (P : D → Prop) (h : WPE xq (ev Γ cf a env st) fun d s => ∃ n : Int, d = .int n ∧ (-(2 ^ 62) ≤ n ∧ n < 2 ^ 62) ∧ n.toNat ≤ sizeLine ∧ J s ∧
      (∀ (j : Int) (s' : Store), J s' → WPE xF (ev Γ cf e ((wipeE env own).set i (some (.int j))) s') fun d s'' => J s'' ∧ P d) ∧ ∀ rs s', J s' → rs.length = n.toNat → (∀ d ∈ rs, P d) → Q (.lst rs) s') :
    WPE xq (ev Γ cf (.lc own (.nm i) .rng1 [a] .nul e) env st) Q := by
  rw [w_lcD, w_evs]
  refine h.imp fun d s ⟨n, hd, hn, hz, hj, he, hq⟩ => ?_
  subst hd
  rw [w_evs0]
  refine ⟨rngL 0 n.toNat, by simp only [walkD, if_pos hn], ?_⟩
  refine lcL_J J P hj (fun x hx s' hs' => ?_) fun rs s' q1 q2 q3 => ?_
  · obtain ⟨k, hk⟩ := List.getElem?_of_mem hx
    obtain ⟨_, e1⟩ := rngL_get _ _ _ _ hk
    subst e1
    have e2 : still (refsOf [D.int n]) s s' = true := still_ok.mpr fun k hk => by cases hk
    rw [if_pos e2, asg_nm]
    unfold lcTurn
    simp only [E.nulB, if_true]
    show WPE xF ((ev Γ cf e _ s').bind fun d st => .ok (some d) st) _
    rw [WP_bind]
    exact (he _ s' hs').imp fun d s'' ⟨z1, z2⟩ => ⟨z1, d, rfl, z2⟩
  · rw [rngL_len] at q2
    exact ⟨still_ok.mpr fun k hk => (by cases hk), by omega, hq rs s' q1 q2 q3⟩
theorem len_l {xs : List D} : biD st .len [.lst xs] = some (.int xs.length) := rfl
theorem len_t {xs : List D} : biD st .len [.tup xs] = some (.int xs.length) := rfl
theorem len_s {x : Str} : biD st .len [.str x] = some (.int x.length) := rfl
theorem idx_l {xs : List D} {i : Int} : idxD st (.lst xs) (.int i) = L2.atI xs i := rfl
theorem idx_t {xs : List D} {i : Int} : idxD st (.tup xs) (.int i) = L2.atI xs i := rfl
theorem tuple_l {xs : List D} : biD st .tuple [.lst xs] = some (.tup xs) := rfl
theorem tuple_r {c : Nat} {xs : List D} (h : st[c]? = some (.lst xs)) : biD st .tuple [.ref c] = some (.tup xs) := by simp only [biD, bi1, seqD, h, Option.map_some]
/-- one-sign texts -/
def one (c : Nat) : D := .str ⟨#[c]⟩
theorem strsD_one : ∀ cs : List Nat, strsD (cs.map one) = some (cs.map fun c => ⟨#[c]⟩)
  | [] => rfl
  | c :: cs => by
    show (strsD (cs.map one)).map _ = _
    rw [strsD_one cs]
    rfl
theorem join_one : ∀ cs : List Nat, Txt.join "" (cs.map fun c => (⟨#[c]⟩ : Str)) = ⟨cs.toArray⟩ := fun cs => by
  have h := PyProof.Rows.join_nil_signs ⟨cs.toArray⟩
  have e : PyProof.Rows.signs ⟨cs.toArray⟩ = cs.map fun c => (⟨#[c]⟩ : Str) := by
    unfold PyProof.Rows.signs
    simp
  rw [e] at h
  have e2 : ("" : Str) = ⟨#[]⟩ := by decide
  show Builtin.Str.glued _ _ = _
  rw [e2, StrLaws.glued_eq_join]
  exact h
end
/-- where nothing is raised -/
theorem WS.imp {r : SR} {N N' : Env → Store → Prop} {V V' : D → Store → Prop} (h : WSE xF r N V) (hn : ∀ e st, N e st → N' e st) (hv : ∀ d st, V d st → V' d st) : WSE xF r N' V' := WSE.imp h hn hv
theorem WP.imp {α : Type} {r : R α} {Q Q' : α → Store → Prop} (h : WPE xF r Q) (hq : ∀ a st, Q a st → Q' a st) : WPE xF r Q' := WPE.imp h hq
end Cip

set_option maxHeartbeats 4000000
/-! Cip27: closed data: equality, texts of data. -/
namespace Cip
open PySem

mutual
/-- no object of the store in it -/
def Cl : D → Bool
  | .non => true
  | .bl _ => true
  | .int _ => true
  | .str _ => true
  | .tup xs => Cls xs
  | .lst xs => Cls xs
  | .dct ks _ => ks.isEmpty
  | .scr _ => false
  | .ref _ => false
def Cls : List D → Bool
  | [] => true
  | x :: xs => Cl x && Cls xs
end
mutual
def tp : D → PyData
  | .non => .none
  | .bl b => .bool b
  | .int i => .int i
  | .str x => .str x
  | .tup xs => .tuple (tps xs)
  | .lst xs => .list (tps xs)
  | .dct _ _ => .dict []
  | .scr _ => .none
  | .ref _ => .none
def tps : List D → List PyData
  | [] => []
  | x :: xs => tp x :: tps xs
end
mutual
theorem pyW_cl {rf : Nat → Option PyData} : ∀ d : D, Cl d = true → pyW rf d = some (tp d)
  | .non, _ => rfl
  | .bl _, _ => rfl
  | .int _, _ => rfl
  | .str _, _ => rfl
  | .tup xs, h => by simp only [pyW, tp, pysW_cl xs h, Option.map_some]
  | .lst xs, h => by simp only [pyW, tp, pysW_cl xs h, Option.map_some]
  | .dct ks vs, h => by
    have h : ks.isEmpty = true := h
    simp only [pyW, tp, h, if_true]
  | .scr _, h => by cases h
  | .ref _, h => by cases h
theorem pysW_cl {rf : Nat → Option PyData} : ∀ ds : List D, Cls ds = true → pysW rf ds = some (tps ds)
  | [], _ => rfl
  | x :: xs, h => by
    have h : (Cl x && Cls xs) = true := h
    rw [Bool.and_eq_true] at h
    simp only [pysW, tps, pyW_cl x h.1, pysW_cl xs h.2]
end
theorem py_cl {st : Store} {d : D} (h : Cl d = true) : py st d = some (tp d) := pyW_cl d h
theorem Cls_all : ∀ {xs : List D}, Cls xs = true ↔ ∀ x ∈ xs, Cl x = true
  | [] => ⟨fun _ _ h => (List.not_mem_nil h).elim, fun _ => rfl⟩
  | x :: xs => by
    show (Cl x && Cls xs) = true ↔ _
    rw [Bool.and_eq_true, Cls_all, List.forall_mem_cons]
theorem tps_map : ∀ xs : List D, tps xs = xs.map tp
  | [] => rfl
  | x :: xs => by simp only [tps, tps_map xs, List.map_cons]
mutual
/-- plain and closed: no dict -/
def Pn1 : D → Bool
  | .non => true
  | .bl _ => true
  | .int _ => true
  | .str _ => true
  | .tup xs => Pn1s xs
  | .lst xs => Pn1s xs
  | .dct _ _ => false
  | .scr _ => false
  | .ref _ => false
def Pn1s : List D → Bool
  | [] => true
  | x :: xs => Pn1 x && Pn1s xs
end
mutual
theorem pn_cl : ∀ d : D, Pn1 d = true → Cl d = true ∧ (tp d).plain = true ∧ d.mx = 0
  | .non, _ => ⟨rfl, rfl, rfl⟩
  | .bl _, _ => ⟨rfl, rfl, rfl⟩
  | .int _, _ => ⟨rfl, rfl, rfl⟩
  | .str _, _ => ⟨rfl, rfl, rfl⟩
  | .tup xs, h => by
    obtain ⟨h1, h2, h3⟩ := pns_cl xs h
    exact ⟨h1, by simp only [tp, PyData.plain]; exact h2, h3⟩
  | .lst xs, h => by
    obtain ⟨h1, h2, h3⟩ := pns_cl xs h
    exact ⟨h1, by simp only [tp, PyData.plain]; exact h2, h3⟩
  | .dct _ _, h => by cases h
  | .scr _, h => by cases h
  | .ref _, h => by cases h
theorem pns_cl : ∀ ds : List D, Pn1s ds = true → Cls ds = true ∧ PyData.plainAll (tps ds) = true ∧ D.mxs ds = 0
  | [], _ => ⟨rfl, rfl, rfl⟩
  | x :: xs, h => by
    have h : (Pn1 x && Pn1s xs) = true := h
    rw [Bool.and_eq_true] at h
    obtain ⟨h1, h2, h3⟩ := pn_cl x h.1
    obtain ⟨h4, h5, h6⟩ := pns_cl xs h.2
    refine ⟨?_, ?_, ?_⟩
    · show (Cl x && Cls xs) = true
      rw [h1, h4] <;> rfl
    · simp only [tps, PyData.plainAll, h2, h5, Bool.and_self]
    · show max (D.mx x) (D.mxs xs) = 0
      rw [h3, h6] <;> rfl
end
theorem Pn1s_all : ∀ {xs : List D}, Pn1s xs = true ↔ ∀ x ∈ xs, Pn1 x = true
  | [] => ⟨fun _ _ h => (List.not_mem_nil h).elim, fun _ => rfl⟩
  | x :: xs => by
    show (Pn1 x && Pn1s xs) = true ↔ _
    rw [Bool.and_eq_true, Pn1s_all, List.forall_mem_cons]
/-- == of plain data -/
theorem eq_pn {st : Store} {a b : D} (ha : Pn1 a = true) (hb : Pn1 b = true) (hd : min (tp a).depth (tp b).depth ≤ 100) : eqD st a b = some (PyData.eqv (tp a) (tp b)) := by
  obtain ⟨h1, h2, _⟩ := pn_cl a ha
  obtain ⟨h3, h4, _⟩ := pn_cl b hb
  simp only [eqD, eqP, py_cl h1, py_cl h3, h2, h4, Bool.and_self, Bool.true_and, if_pos (decide_eq_true hd)]
theorem c_eq_pn {st : Store} {a b : D} (ha : Pn1 a = true) (hb : Pn1 b = true) (hd : min (tp a).depth (tp b).depth ≤ 100) : cmpD st .eq a b = some (PyData.eqv (tp a) (tp b)) := eq_pn ha hb hd
theorem c_ne_pn {st : Store} {a b : D} (ha : Pn1 a = true) (hb : Pn1 b = true) (hd : min (tp a).depth (tp b).depth ≤ 100) : cmpD st .ne a b = some (!PyData.eqv (tp a) (tp b)) := by
  show (eqD st a b).map (!·) = _
  rw [eq_pn ha hb hd] <;> rfl
/-- a list of the store, against none -/
theorem ne_nilP {st : Store} {c : Nat} {xs : List D} (h : st[c]? = some (.lst xs)) (hp : Pn1s xs = true) : cmpD st .ne (.ref c) (.lst []) = some (!xs.isEmpty) := by
  obtain ⟨h1, h2, _⟩ := pns_cl xs hp
  have e1 : py st (.ref c) = some (.list (tps xs)) := by
    show (match st[c]? with
      | some (.lst xs) => (pysW (pyR 7 st) xs).map PyData.list
      | some (.dct false [] _) => some (PyData.dict [])
      | _ => none) = _
    rw [h]
    simp only [pysW_cl xs h1, Option.map_some]
  have e2 : py st (.lst []) = some (.list []) := rfl
  simp only [cmpD, eqD, eqP, e1, e2, PyData.plain, PyData.plainAll, h2, Bool.and_self, PyData.depth, PyData.depthAll]
  cases xs with
  | nil => simp [PyData.eqv, PyData.eqvAll, tps]
  | cons n ns => simp [PyData.eqv, PyData.eqvAll, tps]
/-! ### the text of data -/
mutual
/-- l: lists may stand there, c: an empty dict may -/
def Gd (l c : Bool) : D → Bool
  | .non => true
  | .bl _ => true
  | .int i => decide (i.natAbs < 10 ^ 25)
  | .str x => x.cps.toList.all fun n => decide (n < 16 ^ 8)
  | .tup xs => Gds l c xs
  | .lst xs => l && Gds l c xs
  | .dct ks _ => c && ks.isEmpty
  | .scr _ => false
  | .ref _ => false
def Gds (l c : Bool) : List D → Bool
  | [] => true
  | x :: xs => Gd l c x && Gds l c xs
end
mutual
def bk : D → Nat
  | .str x => x.cps.size
  | .tup xs => bks xs
  | .lst xs => bks xs
  | .non => 0
  | .bl _ => 0
  | .int _ => 0
  | .dct _ _ => 0
  | .scr _ => 0
  | .ref _ => 0
def bks : List D → Nat
  | [] => 0
  | x :: xs => bk x + 1 + bks xs
end
mutual
def dp : D → Nat
  | .tup xs => dps xs + 1
  | .lst xs => dps xs + 1
  | .dct _ _ => 1
  | .non => 0
  | .bl _ => 0
  | .int _ => 0
  | .str _ => 0
  | .scr _ => 0
  | .ref _ => 0
def dps : List D → Nat
  | [] => 0
  | x :: xs => max (dp x) (dps xs)
end
theorem int_short {i : Int} (h : i.natAbs < 10 ^ 25) : (PyData.shown (.int i)).length ≤ 26 ∧ i.natAbs.log2 < 1920 := by
  have e := int_text_length_le10 (k := 25) (by decide) h
  refine ⟨?_, ?_⟩
  · show (Str.ofString (toString i)).length ≤ 26
    rw [ofString_length]
    exact e
  · by_cases h0 : i.natAbs = 0
    · rw [h0]; decide
    · refine (Nat.log2_lt h0).mpr (Nat.lt_of_lt_of_le h ?_)
      exact Nat.le_trans (by decide : 10 ^ 25 ≤ 2 ^ 84) (Nat.pow_le_pow_right (by omega) (by omega))
mutual
theorem gd_ok {l c : Bool} : ∀ d : D, Gd l c d = true → Cl d = true ∧ (tp d).leavesShort 26 = true ∧ (tp d).showable = true ∧ (tp d).bulk = bk d ∧ (tp d).depth ≤ dp d ∧ (l = false → hasL (tp d) = false) ∧ (c = false → (tp d).hasDict = false)
  | .non, _ => ⟨rfl, rfl, rfl, rfl, Nat.le_refl _, fun _ => rfl, fun _ => rfl⟩
  | .bl _, _ => ⟨rfl, rfl, rfl, rfl, Nat.le_refl _, fun _ => rfl, fun _ => rfl⟩
  | .int i, h => by
    obtain ⟨h1, h2⟩ := int_short (of_decide_eq_true h)
    exact ⟨rfl, decide_eq_true h1, decide_eq_true h2, rfl, Nat.le_refl _, fun _ => rfl, fun _ => rfl⟩
  | .str x, h => ⟨rfl, h, rfl, rfl, Nat.le_refl _, fun _ => rfl, fun _ => rfl⟩
  | .tup xs, h => by
    obtain ⟨h1, h2, h3, h4, h5, h6, h7⟩ := gds_ok xs h
    refine ⟨h1, ?_, ?_, ?_, ?_, fun e => ?_, fun e => ?_⟩
    · simp only [tp, PyData.leavesShort]; exact h2
    · simp only [tp, PyData.showable]; exact h3
    · simp only [tp, PyData.bulk, bk]; exact h4
    · simp only [tp, PyData.depth, dp]; omega
    · simp only [tp, hasL]; exact h6 e
    · simp only [tp, PyData.hasDict]; exact h7 e
  | .lst xs, h => by
    have h : (l && Gds l c xs) = true := h
    rw [Bool.and_eq_true] at h
    obtain ⟨h1, h2, h3, h4, h5, h6, h7⟩ := gds_ok xs h.2
    refine ⟨h1, ?_, ?_, ?_, ?_, fun e => ?_, fun e => ?_⟩
    · simp only [tp, PyData.leavesShort]; exact h2
    · simp only [tp, PyData.showable]; exact h3
    · simp only [tp, PyData.bulk, bk]; exact h4
    · simp only [tp, PyData.depth, dp]; omega
    · rw [e] at h; cases h.1
    · simp only [tp, PyData.hasDict]; exact h7 e
  | .dct ks vs, h => by
    have h : (c && ks.isEmpty) = true := h
    rw [Bool.and_eq_true] at h
    exact ⟨h.2, rfl, rfl, rfl, Nat.le_refl _, fun _ => rfl, fun e => by rw [e] at h; cases h.1⟩
  | .scr _, h => by cases h
  | .ref _, h => by cases h
theorem gds_ok {l c : Bool} : ∀ ds : List D, Gds l c ds = true → Cls ds = true ∧ PyData.leavesShortAll 26 (tps ds) = true ∧ PyData.showableAll (tps ds) = true ∧ PyData.bulkAll (tps ds) = bks ds ∧ PyData.depthAll (tps ds) ≤ dps ds ∧ (l = false → hasLs (tps ds) = false) ∧ (c = false → PyData.hasDictAll (tps ds) = false)
  | [], _ => ⟨rfl, rfl, rfl, rfl, Nat.le_refl _, fun _ => rfl, fun _ => rfl⟩
  | x :: xs, h => by
    have h : (Gd l c x && Gds l c xs) = true := h
    rw [Bool.and_eq_true] at h
    obtain ⟨h1, h2, h3, h4, h5, h6, h7⟩ := gd_ok x h.1
    obtain ⟨g1, g2, g3, g4, g5, g6, g7⟩ := gds_ok xs h.2
    refine ⟨?_, ?_, ?_, ?_, ?_, fun e => ?_, fun e => ?_⟩
    · show (Cl x && Cls xs) = true
      rw [h1, g1] <;> rfl
    · simp only [tps, PyData.leavesShortAll, h2, g2, Bool.and_self]
    · simp only [tps, PyData.showableAll, h3, g3, Bool.and_self]
    · simp only [tps, PyData.bulkAll, bks, h4, g4]
    · simp only [tps, PyData.depthAll, dps]; omega
    · simp only [tps, hasLs, h6 e, g6 e, Bool.or_self]
    · simp only [tps, PyData.hasDictAll, h7 e, g7 e, Bool.or_self]
end
theorem Gds_all {l c : Bool} : ∀ {xs : List D}, Gds l c xs = true ↔ ∀ x ∈ xs, Gd l c x = true
  | [] => ⟨fun _ _ h => (List.not_mem_nil h).elim, fun _ => rfl⟩
  | x :: xs => by
    show (Gd l c x && Gds l c xs) = true ↔ _
    rw [Bool.and_eq_true, Gds_all, List.forall_mem_cons]
/-- the text is there -/
theorem repr_gd {st : Store} {l c : Bool} {d : D} (h : Gd l c d = true) (hm : l = false ∨ c = false) (hb : bk d ≤ 500000) (hd : dp d ≤ 100) : biD st .repr [d] = some (.str (tp d).shown) := by
  obtain ⟨h1, h2, h3, h4, h5, h6, h7⟩ := gd_ok d h
  have e := PyData.shown_le_bulk 26 (by decide) (tp d) h2
  rw [h4] at e
  have hz : sizeLine = 16777216 := by decide
  have hsz : (tp d).shown.length ≤ sizeLine := by omega
  have hmix : ((tp d).hasDict && hasL (tp d)) = false := by
    rcases hm with hm | hm
    · rw [h6 hm, Bool.and_false]
    · rw [h7 hm, Bool.false_and]
  show (reprD st d).map D.str = _
  unfold reprD
  rw [py_cl h1]
  simp only [hmix, h3, decide_eq_true hsz, decide_eq_true (Nat.le_trans h5 hd), Bool.not_false, Bool.and_self, if_true, Option.map_some]
end Cip

set_option maxHeartbeats 4000000
/-! Cip28: a list of anything, against the empty list. -/
namespace Cip
open PySem PySem.Spec PyProof.Rows L2
theorem eqP_nil {st : Store} {x : D} {xs : List D} : eqP st (.lst (x :: xs)) (.lst []) = none ∨ eqP st (.lst (x :: xs)) (.lst []) = some false := by
  have e2 : py st (.lst []) = some (.list []) := rfl
  have e1 : py st (.lst (x :: xs)) = none ∨ ∃ p ps, py st (.lst (x :: xs)) = some (.list (p :: ps)) := by
    show (pysW (pyR 8 st) (x :: xs)).map PyData.list = none ∨ ∃ p ps, (pysW (pyR 8 st) (x :: xs)).map PyData.list = some (.list (p :: ps))
    simp only [pysW]
    cases pyW (pyR 8 st) x with
    | none => exact .inl rfl
    | some a => cases pysW (pyR 8 st) xs with
      | none => exact .inl rfl
      | some as => exact .inr ⟨a, as, rfl⟩
  unfold eqP
  rcases e1 with e1 | ⟨p, ps, e1⟩
  · rw [e1]; exact .inl rfl
  · rw [e1, e2]
    simp only
    split
    · exact .inr (by simp [PyData.eqv, PyData.eqvAll])
    · exact .inl rfl
theorem eq_nilL {st : Store} (xs : List D) : cmpD st .eq (.lst xs) (.lst []) = some xs.isEmpty := by
  show eqD st _ _ = _
  unfold eqD
  cases xs with
  | nil =>
    have e2 : py st (.lst []) = some (.list []) := rfl
    have : eqP st (.lst []) (.lst []) = some true := by
      unfold eqP
      rw [e2]
      simp [PyData.plain, PyData.plainAll, PyData.depth, PyData.depthAll, PyData.eqv, PyData.eqvAll]
    rw [this] <;> rfl
  | cons x xs =>
    rcases eqP_nil (st := st) (x := x) (xs := xs) with h | h
    · rw [h]
      simp [eqL, lstD]
    · rw [h] <;> rfl
theorem ne_nilL {st : Store} (xs : List D) : cmpD st .ne (.lst xs) (.lst []) = some (!xs.isEmpty) := by
  have h := eq_nilL (st := st) xs
  have h : eqD st (.lst xs) (.lst []) = some xs.isEmpty := h
  show (eqD st _ _).map (!·) = _
  rw [h] <;> rfl
end Cip

set_option maxHeartbeats 4000000
/-! Cip29: the calculus, from outside in: what comes behind a value is not looked at before the value is there. -/
namespace Cip
open PySem
def EX {α : Type} (o : Option α) (P : α → Prop) : Prop := ∃ d, o = some d ∧ P d
def EB (d : D) (P : Bool → Prop) : Prop := ∃ b, d = .bl b ∧ P b
def EI (d : D) (P : Int → Prop) : Prop := ∃ i, d = .int i ∧ P i
/-- by a bool -/
def WBE {α : Type} (xq : XQ) (b : Bool) (x y : R α) (Q : α → Store → Prop) : Prop := WPE xq (if b = true then x else y) Q
def SBE (xq : XQ) (b : Bool) (x y : SR) (N : Env → Store → Prop) (V : D → Store → Prop) : Prop := WSE xq (if b = true then x else y) N V
variable {xq : XQ}
section
variable {α β : Type} {Γ : Tx} {cf : CF} {env : Env} {st : Store} {Q : D → Store → Prop} {N : Env → Store → Prop} {V : D → Store → Prop}
theorem WB_t {x y : R α} {Q : α → Store → Prop} : WBE xq true x y Q ↔ WPE xq x Q := Iff.rfl
theorem WB_f {x y : R α} {Q : α → Store → Prop} : WBE xq false x y Q ↔ WPE xq y Q := Iff.rfl
theorem WB_n {b : Bool} {x y : R α} {Q : α → Store → Prop} : WBE xq (!b) x y Q ↔ WBE xq b y x Q := by cases b <;> exact Iff.rfl
theorem WB_if {b : Bool} {x y : R α} {Q : α → Store → Prop} : WBE xq b x y Q ↔ (b = true → WPE xq x Q) ∧ (b = false → WPE xq y Q) := by cases b <;> simp [WBE]
theorem WB_dec {p : Prop} [Decidable p] {x y : R α} {Q : α → Store → Prop} : WBE xq (decide p) x y Q ↔ (p → WPE xq x Q) ∧ (¬p → WPE xq y Q) := by rw [WB_if]; simp
theorem WB_all {xs : List β} {f : β → Bool} {x y : R α} {Q : α → Store → Prop} : WBE xq (xs.all f) x y Q ↔ ((xs.all f) = true → WPE xq x Q) ∧ ((xs.all f) = false → WPE xq y Q) := WB_if
theorem WB_any {xs : List β} {f : β → Bool} {x y : R α} {Q : α → Store → Prop} : WBE xq (xs.any f) x y Q ↔ ((xs.any f) = true → WPE xq x Q) ∧ ((xs.any f) = false → WPE xq y Q) := WB_if
theorem WB_lt {a b : Str} {x y : R α} {Q : α → Store → Prop} : WBE xq (ltStr a b) x y Q ↔ ((ltStr a b) = true → WPE xq x Q) ∧ ((ltStr a b) = false → WPE xq y Q) := WB_if
theorem WB_sub {a b : Str} {x y : R α} {Q : α → Store → Prop} : WBE xq (subStr a b) x y Q ↔ ((subStr a b) = true → WPE xq x Q) ∧ ((subStr a b) = false → WPE xq y Q) := WB_if
theorem WB_emp {xs : List β} {x y : R α} {Q : α → Store → Prop} : WBE xq (xs.isEmpty) x y Q ↔ ((xs.isEmpty) = true → WPE xq x Q) ∧ ((xs.isEmpty) = false → WPE xq y Q) := WB_if
theorem WB_eqv {a b : PyData} {x y : R α} {Q : α → Store → Prop} : WBE xq (PyData.eqv a b) x y Q ↔ ((PyData.eqv a b) = true → WPE xq x Q) ∧ ((PyData.eqv a b) = false → WPE xq y Q) := WB_if
theorem WB_and {a b : Bool} {x y : R α} {Q : α → Store → Prop} : WBE xq (a && b) x y Q ↔ ((a && b) = true → WPE xq x Q) ∧ ((a && b) = false → WPE xq y Q) := WB_if
theorem WB_or {a b : Bool} {x y : R α} {Q : α → Store → Prop} : WBE xq (a || b) x y Q ↔ ((a || b) = true → WPE xq x Q) ∧ ((a || b) = false → WPE xq y Q) := WB_if
theorem SB_t {x y : SR} : SBE xq true x y N V ↔ WSE xq x N V := Iff.rfl
theorem SB_f {x y : SR} : SBE xq false x y N V ↔ WSE xq y N V := Iff.rfl
theorem SB_n {b : Bool} {x y : SR} : SBE xq (!b) x y N V ↔ SBE xq b y x N V := by cases b <;> exact Iff.rfl
theorem SB_if {b : Bool} {x y : SR} : SBE xq b x y N V ↔ (b = true → WSE xq x N V) ∧ (b = false → WSE xq y N V) := by cases b <;> simp [SBE]
theorem SB_dec {p : Prop} [Decidable p] {x y : SR} : SBE xq (decide p) x y N V ↔ (p → WSE xq x N V) ∧ (¬p → WSE xq y N V) := by rw [SB_if]; simp
theorem SB_all {xs : List β} {f : β → Bool} {x y : SR} : SBE xq (xs.all f) x y N V ↔ ((xs.all f) = true → WSE xq x N V) ∧ ((xs.all f) = false → WSE xq y N V) := SB_if
theorem SB_any {xs : List β} {f : β → Bool} {x y : SR} : SBE xq (xs.any f) x y N V ↔ ((xs.any f) = true → WSE xq x N V) ∧ ((xs.any f) = false → WSE xq y N V) := SB_if
theorem SB_lt {a b : Str} {x y : SR} : SBE xq (ltStr a b) x y N V ↔ ((ltStr a b) = true → WSE xq x N V) ∧ ((ltStr a b) = false → WSE xq y N V) := SB_if
theorem SB_sub {a b : Str} {x y : SR} : SBE xq (subStr a b) x y N V ↔ ((subStr a b) = true → WSE xq x N V) ∧ ((subStr a b) = false → WSE xq y N V) := SB_if
theorem SB_emp {xs : List β} {x y : SR} : SBE xq (xs.isEmpty) x y N V ↔ ((xs.isEmpty) = true → WSE xq x N V) ∧ ((xs.isEmpty) = false → WSE xq y N V) := SB_if
theorem SB_eqv {a b : PyData} {x y : SR} : SBE xq (PyData.eqv a b) x y N V ↔ ((PyData.eqv a b) = true → WSE xq x N V) ∧ ((PyData.eqv a b) = false → WSE xq y N V) := SB_if
theorem SB_and {a b : Bool} {x y : SR} : SBE xq (a && b) x y N V ↔ ((a && b) = true → WSE xq x N V) ∧ ((a && b) = false → WSE xq y N V) := SB_if
theorem SB_or {a b : Bool} {x y : SR} : SBE xq (a || b) x y N V ↔ ((a || b) = true → WSE xq x N V) ∧ ((a || b) = false → WSE xq y N V) := SB_if
theorem EX_some {x : α} {P : α → Prop} : EX (some x) P ↔ P x := ex_some
theorem EX_none {P : α → Prop} : EX none P ↔ False := ex_none
theorem EB_bl {b : Bool} {P : Bool → Prop} : EB (.bl b) P ↔ P b := ex_bl
theorem EI_int {i : Int} {P : Int → Prop} : EI (.int i) P ↔ P i := ex_int
theorem EX_ite {c : Prop} [Decidable c] {x : α} {P : α → Prop} : EX (if c then some x else none) P ↔ c ∧ P x := ex_ite
theorem EX_map {o : Option α} {f : α → β} {P : β → Prop} : EX (o.map f) P ↔ EX o fun a => P (f a) := ex_map
theorem EX_mk {o : Option α} {P : α → Prop} (x : α) (h : o = some x) (p : P x) : EX o P := ⟨x, h, p⟩
theorem EX_eq {o : Option α} {x : α} (h : o = some x) {P : α → Prop} : EX o P ↔ P x := by rw [h]; exact EX_some
theorem EX_iff {o o' : Option α} (h : o = o') {P : α → Prop} : EX o P ↔ EX o' P := by rw [h]
theorem EX_imp {o : Option α} {P P' : α → Prop} (h : EX o P) (hp : ∀ x, P x → P' x) : EX o P' := let ⟨x, e, p⟩ := h; ⟨x, e, hp x p⟩
theorem WP_ofE {o : Option α} {Q : α → Store → Prop} : WPE xq (R.of o st) Q ↔ EX o fun a => Q a st := WP_of
theorem wpk {e : E} {v : D} (h : ∀ st, ev Γ cf e env st = .ok v st) : ∀ (xq : XQ) (st : Store) (Q : D → Store → Prop), WPE xq (ev Γ cf e env st) Q ↔ Q v st := by
  intro xq st Q
  rw [h st, WP_ok]
theorem wpc {r : Store → R D} {v : D} (h : ∀ st, r st = .ok v st) : ∀ (xq : XQ) (st : Store) (Q : D → Store → Prop), WPE xq (r st) Q ↔ Q v st := by
  intro xq st Q
  rw [h st, WP_ok]
theorem l_var {i : Nat} : WPE xq (ev Γ cf (.var i) env st) Q ↔ EX env[i]? fun o => EX o fun d => Q d st := by
  rw [w_var]
  constructor
  · exact fun ⟨d, h, q⟩ => ⟨some d, h, d, rfl, q⟩
  · exact fun ⟨o, h, d, h2, q⟩ => ⟨d, by rw [h, h2], q⟩
theorem l_con {i : Nat} : WPE xq (ev Γ cf (.con i) env st) Q ↔ EX (Γ.con i) fun d => Q d st := w_con
theorem l_bin {o : BOp} {a b : E} : WPE xq (ev Γ cf (.bin o a b) env st) Q ↔ WPE xq (ev Γ cf a env st) fun x st => WPE xq (ev Γ cf b env st) fun y st => EX (binD st o x y) fun d => Q d st := w_bin
theorem l_neg {a : E} : WPE xq (ev Γ cf (.neg a) env st) Q ↔ WPE xq (ev Γ cf a env st) fun x st => EI x fun i => Q (.int (-i)) st := w_neg
theorem l_cmp {o : COp} {a b : E} : WPE xq (ev Γ cf (.cmp o a b) env st) Q ↔ WPE xq (ev Γ cf a env st) fun x st => WPE xq (ev Γ cf b env st) fun y st => EX (cmpD st o x y) fun r => Q (.bl r) st := w_cmp
theorem l_chn {o p : COp} {a b c : E} : WPE xq (ev Γ cf (.chn o p a b c) env st) Q ↔ WPE xq (ev Γ cf a env st) fun x st => WPE xq (ev Γ cf b env st) fun y st => EX (cmpD st o x y) fun r =>
    WBE xq r ((ev Γ cf c env st).bind fun z st => .of ((cmpD st p y z).map .bl) st) (.ok (.bl false) st) Q := w_chn
theorem l_not {a : E} : WPE xq (ev Γ cf (.not a) env st) Q ↔ WPE xq (ev Γ cf a env st) fun d st => EB d fun b => Q (.bl (!b)) st := w_not
theorem l_ite {c a b : E} : WPE xq (ev Γ cf (.ite c a b) env st) Q ↔ WPE xq (ev Γ cf c env st) fun d st => EB d fun r => WBE xq r (ev Γ cf a env st) (ev Γ cf b env st) Q := w_ite
theorem l_tup {es : List E} : WPE xq (ev Γ cf (.tup es) env st) Q ↔ WPE xq (evs Γ cf es env st) fun ds st => ds.length ≤ 16777216 ∧ Q (.tup ds) st := w_tup
theorem l_lst {es : List E} : WPE xq (ev Γ cf (.lst es) env st) Q ↔ WPE xq (evs Γ cf es env st) fun ds st => ds.length ≤ 16777216 ∧ Q (.lst ds) st := w_lst
theorem l_idx {a i : E} : WPE xq (ev Γ cf (.idx a i) env st) Q ↔ WPE xq (ev Γ cf a env st) fun x st => WPE xq (ev Γ cf i env st) fun y st => EX (idxD st x y) fun d => Q d st := w_idx
theorem l_slc {a lo hi : E} : WPE xq (ev Γ cf (.slc a lo hi) env st) Q ↔ WPE xq (ev Γ cf a env st) fun x st => WBE xq lo.nulB (.ok none st) ((ev Γ cf lo env st).bind fun d st => .of (bnd d) st : R (Option Int)) fun l st =>
    WBE xq hi.nulB (.ok none st) ((ev Γ cf hi env st).bind fun d st => .of (bnd d) st : R (Option Int)) fun h st => EX (slcD st x l h) fun d => Q d st := w_slc
theorem l_bi {b : BI} {es : List E} : WPE xq (ev Γ cf (.bi b es) env st) Q ↔ WPE xq (evs Γ cf es env st) fun ds st => EX (biD st b ds) fun d => Q d st := w_bi
theorem l_bm {m : BM} {a : E} {es : List E} : WPE xq (ev Γ cf (.bm m a es) env st) Q ↔ WPE xq (ev Γ cf a env st) fun x st => bmOn st m x = true ∧ WPE xq (evs Γ cf es env st) fun ds st => EX (bmD st m x ds) fun d => Q d st := w_bm
theorem l_rev {a : E} : WPE xq (ev Γ cf (.rev a) env st) Q ↔ WPE xq (ev Γ cf a env st) fun x st => EX (revD st x) fun d => Q d st := by simp only [ev, WP_bind, WP_ofE]
theorem x_rev_t {xs : List D} {P : D → Prop} : EX (revD st (.tup xs)) P ↔ P (.tup xs.reverse) := EX_eq rfl
theorem x_rev_l {xs : List D} {P : D → Prop} : EX (revD st (.lst xs)) P ↔ P (.lst xs.reverse) := EX_eq rfl
theorem l_xnew {c : Nat} {es : List E} : WPE xq (ev Γ cf (.xnew c es) env st) Q ↔ WPE xq (evs Γ cf es env st) fun ds st => EX (Γ.exf c ds) fun fs => Q (.ref st.length) (st ++ [.exc c fs]) := by
  simp only [ev, WP_bind]
  refine iff_of_eq (congrArg _ (funext fun ds => funext fun st => ?_))
  cases Γ.exf c ds with
  | none => simp [WPE, EX]
  | some fs => simp [WPE, EX]
/-- an error's field -/
def xfldD (Γ : Tx) (st : Store) (x : D) (f : Nat) : Option D := match x with
  | .ref k => match st[k]? with
    | some (.exc c fs) => if Γ.xfl c f = true then fs.lookup f else none
    | _ => none
  | _ => none
theorem l_xfld {a : E} {f : Nat} : WPE xq (ev Γ cf (.xfld a f) env st) Q ↔ WPE xq (ev Γ cf a env st) fun x st => EX (xfldD Γ st x f) fun d => Q d st := by
  simp only [ev, WP_bind]
  refine iff_of_eq (congrArg _ (funext fun x => funext fun st => ?_))
  rw [← WP_ofE (xq := xq)]
  congr 1
  cases x <;> first | rfl | skip
  rename_i k
  simp only [xfldD]
  cases st[k]? with
  | none => rfl
  | some o =>
    cases o <;> first | rfl | skip
    rename_i c fs
    dsimp only
    split <;> rfl
theorem l_raise {c : Nat} {es : List E} : WSE xq (run Γ cf (.raise c es) env st) N V ↔ WPE xq (evs Γ cf es env st) fun ds st => EX (Γ.exf c ds) fun fs => xq c fs st := s_raise
theorem l_tri {t : Tg} {e : E} {c i j : Nat} : WSE xq (run Γ cf (.tri [.asg t e] c i j) env st) N V ↔
    WPE (fun c' fs s => EX (Γ.sub c' c) fun b => (b = true → N (((env.set i (some (.ref s.length))).set j (some (.ref s.length))).set i none) (s ++ [.exc c' fs])) ∧ (b = false → xq c' fs s)) (ev Γ cf e env st) fun d st => EX (asgT st t d env) fun env' => N env' st := s_tri
theorem WPE.impE {r : R α} {xq' : XQ} {Q Q' : α → Store → Prop} (h : WPE xq r Q) (hx : ∀ c fs st, xq c fs st → xq' c fs st) (hq : ∀ a st, Q a st → Q' a st) : WPE xq' r Q' := by
  cases r with
  | ok a st => exact hq a st h
  | ex c fs st => exact hx c fs st h
  | stk => exact h
theorem WSE.impE {r : SR} {xq' : XQ} {N' : Env → Store → Prop} {V' : D → Store → Prop} (h : WSE xq r N V) (hx : ∀ c fs st, xq c fs st → xq' c fs st) (hn : ∀ e st, N e st → N' e st) (hv : ∀ d st, V d st → V' d st) : WSE xq' r N' V' := by
  cases r with
  | nx e st => exact hn e st h
  | rt d st => exact hv d st h
  | ex c fs env st => exact hx c fs st h
  | stk => exact h
theorem l_isi {a : E} {t : Ty} : WPE xq (ev Γ cf (.isi a t) env st) Q ↔ WPE xq (ev Γ cf a env st) fun x st => EX (isiD Γ.sub Γ.ve st x t) fun r => Q (.bl r) st := w_isi
theorem l_and1 {e : E} {es : List E} {Q : Bool → Store → Prop} : WPE xq (evAnd Γ cf (e :: es) env st) Q ↔ WPE xq (ev Γ cf e env st) fun d st => EB d fun r => WBE xq r (evAnd Γ cf es env st) (.ok false st) Q := w_and1
theorem l_or1 {e : E} {es : List E} {Q : Bool → Store → Prop} : WPE xq (evOr Γ cf (e :: es) env st) Q ↔ WPE xq (ev Γ cf e env st) fun d st => EB d fun r => WBE xq r (.ok true st) (evOr Γ cf es env st) Q := w_or1
theorem l_asg {t : Tg} {e : E} : WSE xq (run Γ cf (.asg t e) env st) N V ↔ WPE xq (ev Γ cf e env st) fun d st => EX (asgT st t d env) fun env' => N env' st := s_asg
theorem l_site {c : E} {a b : List S} : WSE xq (run Γ cf (.ite c a b) env st) N V ↔ WPE xq (ev Γ cf c env st) fun d st => EB d fun r => SBE xq r (runs Γ cf a env st) (runs Γ cf b env st) N V := s_ite
theorem l_ssub {a i e : E} : WSE xq (run Γ cf (.ssub a i e) env st) N V ↔ WPE xq (ev Γ cf e env st) fun d st => WPE xq (ev Γ cf a env st) fun x st => WPE xq (ev Γ cf i env st) fun y st => EX (ssubD st x y d) fun st' => N env st' := s_ssubD
theorem l_app {a e : E} : WPE xq (ev Γ cf (.app a e) env st) Q ↔ WPE xq (ev Γ cf a env st) fun x st => (lstD st x).isSome = true ∧ WPE xq (ev Γ cf e env st) fun d st => EX (appS st x d) fun st' => Q .non st' := w_appD
/-! data -/
theorem x_g0 {x : α} {xs : List α} {P : α → Prop} : EX (x :: xs)[0]? P ↔ P x := ex_some
theorem x_gs {x : α} {xs : List α} {i : Nat} {P : α → Prop} : EX (x :: xs)[i + 1]? P ↔ EX xs[i]? P := Iff.rfl
theorem x_at0 {x : α} {xs : List α} {P : α → Prop} : EX (L2.atI (x :: xs) 0) P ↔ P x := EX_eq (by rw [atI_nat (by decide) (by simp)] <;> rfl)
theorem x_at1 {x y : α} {xs : List α} {P : α → Prop} : EX (L2.atI (x :: y :: xs) 1) P ↔ P y := EX_eq (by rw [atI_nat (by decide) (by simp)] <;> rfl)
theorem x_at2 {x y z : α} {xs : List α} {P : α → Prop} : EX (L2.atI (x :: y :: z :: xs) 2) P ↔ P z := EX_eq (by rw [atI_nat (by decide) (by simp)] <;> rfl)
theorem x_a0 {d : D} {x : Option D} {xs : Env} {P : Env → Prop} : EX (asgT st (.nm 0) d (x :: xs)) P ↔ P (some d :: xs) := EX_eq (by unfold asgT; rfl)
theorem x_as {d : D} {x : Option D} {xs : Env} {i : Nat} {P : Env → Prop} : EX (asgT st (.nm (i + 1)) d (x :: xs)) P ↔ EX (asgT st (.nm i) d xs) fun e => P (x :: e) := by
  have e1 : asgT st (.nm (i + 1)) d (x :: xs) = some (x :: xs.set i (some d)) := by unfold asgT; rfl
  have e2 : asgT st (.nm i) d xs = some (xs.set i (some d)) := by unfold asgT; rfl
  rw [e1, e2, EX_some, EX_some]
theorem x_atup2 {i j : Nat} {a b : D} {P : Env → Prop} : EX (asgT st (.tup [.nm i, .nm j]) (.tup [a, b]) env) P ↔ EX (asgT st (.nm i) a env) fun e => EX (asgT st (.nm j) b e) P := by
  rw [asg_tup2, asg_nm, EX_some, EX_some, asg_nm, EX_some]
theorem x_atup4 {i j k l : Nat} {a b c d : D} {P : Env → Prop} : EX (asgT st (.tup [.nm i, .nm j, .nm k, .nm l]) (.tup [a, b, c, d]) env) P ↔ EX (asgT st (.nm i) a env) fun e => EX (asgT st (.nm j) b e) fun e => EX (asgT st (.nm k) c e) fun e => EX (asgT st (.nm l) d e) P := by
  have e1 : asgT st (.tup [.nm i, .nm j, .nm k, .nm l]) (.tup [a, b, c, d]) env = some ((((env.set i (some a)).set j (some b)).set k (some c)).set l (some d)) := by
    simp only [asgT, asgTs, List.length_cons, List.length_nil, if_true]
  rw [e1, asg_nm, EX_some, EX_some, asg_nm, EX_some, asg_nm, EX_some, asg_nm, EX_some]
theorem x_alst4 {i j k l : Nat} {a b c d : D} {P : Env → Prop} : EX (asgT st (.tup [.nm i, .nm j, .nm k, .nm l]) (.lst [a, b, c, d]) env) P ↔ EX (asgT st (.nm i) a env) fun e => EX (asgT st (.nm j) b e) fun e => EX (asgT st (.nm k) c e) fun e => EX (asgT st (.nm l) d e) P := by
  have e1 : asgT st (.tup [.nm i, .nm j, .nm k, .nm l]) (.lst [a, b, c, d]) env = some ((((env.set i (some a)).set j (some b)).set k (some c)).set l (some d)) := by
    simp only [asgT, asgTs, List.length_cons, List.length_nil, if_true]
  rw [e1, asg_nm, EX_some, EX_some, asg_nm, EX_some, asg_nm, EX_some, asg_nm, EX_some]
theorem x_atup3 {i j k : Nat} {a b c : D} {P : Env → Prop} : EX (asgT st (.tup [.nm i, .nm j, .nm k]) (.tup [a, b, c]) env) P ↔ EX (asgT st (.nm i) a env) fun e => EX (asgT st (.nm j) b e) fun e => EX (asgT st (.nm k) c e) P := by
  rw [asg_tup3, asg_nm, EX_some, EX_some, asg_nm, EX_some, asg_nm, EX_some]
section
variable {i j : Int} {x y : Str} {xs ys : List D} {P : D → Prop} {B : Bool → Prop}
theorem x_mod_i : EX (binD st .mod (.int i) (.int j)) P ↔ ¬ j = 0 ∧ P (.int (i.fmod j)) := by rw [b_mod_i, EX_ite]

theorem x_add_i : EX (binD st .add (.int i) (.int j)) P ↔ P (.int (i + j)) := EX_eq rfl
theorem x_sub_i : EX (binD st .sub (.int i) (.int j)) P ↔ P (.int (i - j)) := EX_eq rfl
theorem x_mul_i : EX (binD st .mul (.int i) (.int j)) P ↔ ((-(2 ^ 64) < i ∧ i < 2 ^ 64) ∨ (-(2 ^ 64) < j ∧ j < 2 ^ 64)) ∧ P (.int (i * j)) := EX_ite
theorem x_div_i : EX (binD st .fdiv (.int i) (.int j)) P ↔ (j ≠ 0 ∧ j.natAbs < 1073741824) ∧ P (.int (i.fdiv j)) := EX_ite
theorem x_pow_i : EX (binD st .pow (.int i) (.int j)) P ↔ (0 ≤ j ∧ j ≤ 1000 ∧ i.natAbs < 2 ^ 64) ∧ P (.int (i ^ j.toNat)) := EX_ite
theorem x_add_s : EX (binD st .add (.str x) (.str y)) P ↔ x.length + y.length ≤ 16777216 ∧ P (.str (x ++ y)) := EX_ite
theorem x_add_t : EX (binD st .add (.tup xs) (.tup ys)) P ↔ xs.length + ys.length ≤ 16777216 ∧ P (.tup (xs ++ ys)) := EX_ite
theorem x_add_l : EX (binD st .add (.lst xs) (.lst ys)) P ↔ xs.length + ys.length ≤ 16777216 ∧ P (.lst (xs ++ ys)) := EX_ite
theorem x_mul_s : EX (binD st .mul (.str x) (.int j)) P ↔ (-(2 ^ 31) ≤ j ∧ j < 2 ^ 31 ∧ x.length * j.toNat ≤ 16777216) ∧ P (.str (strMul x j)) := EX_ite
theorem x_mul_t : EX (binD st .mul (.tup xs) (.int j)) P ↔ (-(2 ^ 31) ≤ j ∧ j < 2 ^ 31 ∧ xs.length * j.toNat ≤ 16777216) ∧ P (.tup (List.replicate j.toNat xs).flatten) := EX_ite
theorem x_mul_l : EX (binD st .mul (.lst xs) (.int j)) P ↔ (-(2 ^ 31) ≤ j ∧ j < 2 ^ 31 ∧ xs.length * j.toNat ≤ 16777216) ∧ P (.lst (List.replicate j.toNat xs).flatten) := EX_ite
theorem x_lt_i : EX (cmpD st .lt (.int i) (.int j)) B ↔ B (decide (i < j)) := EX_eq (c_lt_i)
theorem x_le_i : EX (cmpD st .le (.int i) (.int j)) B ↔ B (decide (i ≤ j)) := EX_eq (c_le_i)
theorem x_gt_i : EX (cmpD st .gt (.int i) (.int j)) B ↔ B (decide (j < i)) := EX_eq (c_gt_i)
theorem x_ge_i : EX (cmpD st .ge (.int i) (.int j)) B ↔ B (decide (j ≤ i)) := EX_eq (c_ge_i)
theorem x_lt_s : EX (cmpD st .lt (.str x) (.str y)) B ↔ B (ltStr x y) := EX_eq (c_lt_s)
theorem x_le_s : EX (cmpD st .le (.str x) (.str y)) B ↔ B (!ltStr y x) := EX_eq (c_le_s)
theorem x_eq_i : EX (cmpD st .eq (.int i) (.int j)) B ↔ B (decide (i = j)) := EX_eq (c_eq_i)
theorem x_ne_i : EX (cmpD st .ne (.int i) (.int j)) B ↔ B (!decide (i = j)) := EX_eq (c_ne_i)
theorem x_eq_s : EX (cmpD st .eq (.str x) (.str y)) B ↔ B (decide (x = y)) := EX_eq (c_eq_s)
theorem x_ne_s : EX (cmpD st .ne (.str x) (.str y)) B ↔ B (!decide (x = y)) := EX_eq (c_ne_s)
theorem x_eq_nil : EX (cmpD st .eq (.lst xs) (.lst [])) B ↔ B xs.isEmpty := EX_eq (eq_nilL xs)
theorem x_ne_nil : EX (cmpD st .ne (.lst xs) (.lst [])) B ↔ B (!xs.isEmpty) := EX_eq (ne_nilL xs)
theorem x_in_s : EX (cmpD st .isin (.str x) (.str y)) B ↔ B (subStr x y) := EX_eq (rfl)
theorem x_nin_s : EX (cmpD st .nin (.str x) (.str y)) B ↔ B (!subStr x y) := EX_eq (rfl)
theorem x_len_l : EX (biD st .len [.lst xs]) P ↔ P (.int xs.length) := EX_eq rfl
theorem x_len_t : EX (biD st .len [.tup xs]) P ↔ P (.int xs.length) := EX_eq rfl
theorem x_len_s : EX (biD st .len [.str x]) P ↔ P (.int x.length) := EX_eq rfl
theorem x_tuple_l : EX (biD st .tuple [.lst xs]) P ↔ P (.tup xs) := EX_eq rfl
theorem x_tuple_t : EX (biD st .tuple [.tup xs]) P ↔ P (.tup xs) := EX_eq rfl
theorem x_list_t : EX (biD st .list [.tup xs]) P ↔ P (.lst xs) := EX_eq rfl
theorem x_list_l : EX (biD st .list [.lst xs]) P ↔ P (.lst xs) := EX_eq rfl
theorem x_list_s : EX (biD st .list [.str x]) P ↔ P (.lst (x.cps.toList.map one)) := EX_eq rfl
theorem x_int_i : EX (biD st .int [.int i]) P ↔ P (.int i) := EX_eq rfl
theorem x_int_b {b : Bool} : EX (biD st .int [.bl b]) P ↔ P (.int (if b then 1 else 0)) := EX_eq rfl
theorem x_abs : EX (biD st .abs [.int i]) P ↔ P (.int (if i < 0 then -i else i)) := EX_eq rfl
theorem x_str_s : EX (biD st .str [.str x]) P ↔ P (.str x) := EX_eq rfl
theorem x_slc_t {lo hi : Option Int} : EX (slcD st (.tup xs) lo hi) P ↔ P (.tup (cutL xs lo hi)) := EX_eq rfl
theorem x_slc_l {lo hi : Option Int} : EX (slcD st (.lst xs) lo hi) P ↔ P (.lst (cutL xs lo hi)) := EX_eq rfl
theorem x_slc_s {lo hi : Option Int} : EX (slcD st (.str x) lo hi) P ↔ P (.str (L2.cutS x lo hi)) := EX_eq rfl
theorem x_idx_t : EX (idxD st (.tup xs) (.int i)) P ↔ EX (L2.atI xs i) P := EX_iff rfl
theorem x_idx_l : EX (idxD st (.lst xs) (.int i)) P ↔ EX (L2.atI xs i) P := EX_iff rfl
theorem x_bnd {P : Option Int → Prop} : EX (bnd (.int i)) P ↔ P (some i) := ex_some
theorem x_str_i : EX (biD st .str [.int i]) P ↔ i.natAbs.log2 < 1920 ∧ P (.str (toString i)) := by
  have e : biD st .str [.int i] = if i.natAbs.log2 < 1920 then some (.str (toString i)) else none := by
    show (showI i).map D.str = _
    unfold showI
    split <;> rfl
  rw [e, EX_ite]
theorem x_str_b {b : Bool} : EX (biD st .str [.bl b]) P ↔ P (.str (if b then "True" else "False")) := EX_eq rfl
theorem x_upper : EX (bmD st .upper (.str x) []) P ↔ (x.length ≤ 5592405 ∧ (Txt.upper x).length ≤ 16777216) ∧ P (.str (Txt.upper x)) := EX_ite
theorem bools_mapG (f : α → Bool) : ∀ xs : List α, bools (xs.map fun x => .bl (f x)) = some (xs.map f)
  | [] => rfl
  | x :: xs => by simp only [List.map_cons, bools, bools_mapG f xs, Option.map_some]
theorem x_all {f : D → Bool} : EX (biD st .all [.lst (xs.map fun x => .bl (f x))]) P ↔ P (.bl (xs.all f)) := EX_eq (by
  simp only [biD, bi1, lstD, Option.bind_some, bools_mapG, Option.map_some, List.all_map, Function.comp_def, id])
theorem x_any {f : D → Bool} : EX (biD st .any [.lst (xs.map fun x => .bl (f x))]) P ↔ P (.bl (xs.any f)) := EX_eq (by
  simp only [biD, bi1, lstD, Option.bind_some, bools_mapG, Option.map_some, List.any_map, Function.comp_def, id])
theorem sum_mapG (f : α → Int) : ∀ xs : List α, sumL (xs.map fun x => .int (f x)) = some ((xs.map f).sum)
  | [] => rfl
  | x :: xs => by
    show (sumL (xs.map fun x => .int (f x))).map (f x + ·) = _
    rw [sum_mapG f xs] <;> rfl
theorem x_sum {f : D → Int} : EX (biD st .sum [.lst (xs.map fun x => .int (f x))]) P ↔ P (.int ((xs.map f).sum)) := EX_eq (by
  simp only [biD, bi1, lstD, Option.bind_some, sum_mapG, Option.map_some])
theorem filt_nilG (f : α → Bool) (xs : List α) : (xs.filter fun x => !f x).isEmpty = xs.all f := by
  induction xs with
  | nil => rfl
  | cons x xs ih =>
    rw [List.filter_cons, List.all_cons]
    cases e : f x with
    | true => simpa using ih
    | false => simp
theorem emp_flt {f : D → Bool} {g : D → D} : ((xs.filter fun x => !f x).map g).isEmpty = xs.all f := by rw [List.isEmpty_map, filt_nilG]
end
theorem sz : sizeLine = 16777216 := by decide
theorem nb_nul {x y : R α} {Q : α → Store → Prop} : WBE xq (E.nulB (.nul)) x y Q ↔ WPE xq x Q := Iff.rfl
theorem nb_int {i : Int} {x y : R α} {Q : α → Store → Prop} : WBE xq (E.nulB (.int i)) x y Q ↔ WPE xq y Q := Iff.rfl
theorem nb_var {i : Nat} {x y : R α} {Q : α → Store → Prop} : WBE xq (E.nulB (.var i)) x y Q ↔ WPE xq y Q := Iff.rfl
theorem nb_con {i : Nat} {x y : R α} {Q : α → Store → Prop} : WBE xq (E.nulB (.con i)) x y Q ↔ WPE xq y Q := Iff.rfl
theorem nb_bin {o : BOp} {a b : E} {x y : R α} {Q : α → Store → Prop} : WBE xq (E.nulB (.bin o a b)) x y Q ↔ WPE xq y Q := Iff.rfl
theorem nb_neg {a : E} {x y : R α} {Q : α → Store → Prop} : WBE xq (E.nulB (.neg a)) x y Q ↔ WPE xq y Q := Iff.rfl
theorem nb_idx {a b : E} {x y : R α} {Q : α → Store → Prop} : WBE xq (E.nulB (.idx a b)) x y Q ↔ WPE xq y Q := Iff.rfl
theorem nb_call {f : Nat} {es : List E} {x y : R α} {Q : α → Store → Prop} : WBE xq (E.nulB (.call f es)) x y Q ↔ WPE xq y Q := Iff.rfl
theorem nb_bi {f : BI} {es : List E} {x y : R α} {Q : α → Store → Prop} : WBE xq (E.nulB (.bi f es)) x y Q ↔ WPE xq y Q := Iff.rfl
theorem on_join {x : Str} : bmOn st .join (.str x) = true := rfl
theorem on_split {x : Str} : bmOn st .split (.str x) = true := rfl
theorem on_upper {x : Str} : bmOn st .upper (.str x) = true := rfl
theorem on_count {x : Str} : bmOn st .count (.str x) = true := rfl
theorem on_rstrip {x : Str} : bmOn st .rstrip (.str x) = true := rfl
theorem on_part {x : Str} : bmOn st .part (.str x) = true := rfl
theorem on_sindex {x : Str} : bmOn st .sindex (.str x) = true := rfl
theorem on_tindex {xs : List D} : bmOn st .tindex (.tup xs) = true := rfl
/-- [e for .. in ..], [.. if c], by values -/
theorem lc_G {own : List Nat} {t : Tg} {k : IK} {its : List E} {c e : E} {ds xs : List D} (p : D → Bool) (g : D → D) (h : evs Γ cf its env st = .ok ds st) (hw : walkD st k ds = some xs) (hl : xs.length ≤ 16777216) (hc : c.nulB = false)
    (hx : ∀ x ∈ xs, EX (asgT st t x (wipeE env own)) fun env' => ev Γ cf c env' st = .ok (.bl (p x)) st ∧ (p x = true → ev Γ cf e env' st = .ok (g x) st)) : ev Γ cf (.lc own t k its c e) env st = .ok (.lst ((xs.filter p).map g)) st := by
  have key : WPE xF (ev Γ cf (.lc own t k its c e) env st) fun d s => d = .lst ((xs.filter p).map g) ∧ s = st := by
    refine w_lcP (P0 := fun ds' s' => ds' = ds ∧ s' = st) ?_ p g fun ds' s' hp => ?_
    · rw [h]
      exact ⟨rfl, rfl⟩
    · obtain ⟨rfl, rfl⟩ := hp
      refine ⟨xs, hw, by rw [sz]; exact hl, fun x hm => ?_, rfl, rfl⟩
      obtain ⟨env', h1, h2, h3⟩ := hx x hm
      exact ⟨env', h1, .inr ⟨hc, h2⟩, fun hp => h3 hp⟩
  obtain ⟨a, s, e, rfl, rfl⟩ := WP_get key
  exact e
theorem lc_M {own : List Nat} {t : Tg} {k : IK} {its : List E} {e : E} {ds xs : List D} (g : D → D) (h : evs Γ cf its env st = .ok ds st) (hw : walkD st k ds = some xs) (hl : xs.length ≤ 16777216)
    (hx : ∀ x ∈ xs, EX (asgT st t x (wipeE env own)) fun env' => ev Γ cf e env' st = .ok (g x) st) : ev Γ cf (.lc own t k its .nul e) env st = .ok (.lst (xs.map g)) st := by
  have key : WPE xF (ev Γ cf (.lc own t k its .nul e) env st) fun d s => d = .lst (xs.map g) ∧ s = st := by
    refine w_lcP (P0 := fun ds' s' => ds' = ds ∧ s' = st) ?_ (fun _ => true) g fun ds' s' hp => ?_
    · rw [h]
      exact ⟨rfl, rfl⟩
    · obtain ⟨rfl, rfl⟩ := hp
      refine ⟨xs, hw, by rw [sz]; exact hl, fun x hm => ?_, ?_⟩
      · obtain ⟨env', h1, h2⟩ := hx x hm
        exact ⟨env', h1, .inl ⟨rfl, rfl⟩, fun _ => h2⟩
      · rw [show xs.filter (fun _ => true) = xs from List.filter_eq_self.mpr fun _ _ => rfl]
        exact ⟨rfl, rfl⟩
  obtain ⟨a, s, e, rfl, rfl⟩ := WP_get key
  exact e
/-- what comes to a value and leaves the store -/
def Is (r : R D) (v : D) (st : Store) : Prop := WPE xF r fun d s => d = v ∧ s = st
theorem Is.eq {r : R D} {v : D} {st : Store} (h : Is r v st) : r = .ok v st := by
  obtain ⟨a, s, e, rfl, rfl⟩ := WP_get h
  exact e
theorem evs_i1 {e : E} {v : D} (h : ev Γ cf e env st = .ok v st) : evs Γ cf [e] env st = .ok [v] st := by
  simp only [evs, h, R.bind]
theorem evs_i2 {e e' : E} {v w : D} (h : ev Γ cf e env st = .ok v st) (h' : ev Γ cf e' env st = .ok w st) : evs Γ cf [e, e'] env st = .ok [v, w] st := by
  simp only [evs, h, h', R.bind]
end
theorem x_isi_nb {sub : Nat → Nat → Option Bool} {ve : Nat → Option Bool} {st : Store} {B : Bool → Prop} : EX (isiD sub ve st (.non) .bool) B ↔ B false := EX_eq rfl
theorem x_isi_ni {sub : Nat → Nat → Option Bool} {ve : Nat → Option Bool} {st : Store} {B : Bool → Prop} : EX (isiD sub ve st (.non) .int) B ↔ B false := EX_eq rfl
theorem x_isi_ns {sub : Nat → Nat → Option Bool} {ve : Nat → Option Bool} {st : Store} {B : Bool → Prop} : EX (isiD sub ve st (.non) .str) B ↔ B false := EX_eq rfl
theorem x_isi_nt {sub : Nat → Nat → Option Bool} {ve : Nat → Option Bool} {st : Store} {B : Bool → Prop} : EX (isiD sub ve st (.non) .tuple) B ↔ B false := EX_eq rfl
theorem x_isi_nl {sub : Nat → Nat → Option Bool} {ve : Nat → Option Bool} {st : Store} {B : Bool → Prop} : EX (isiD sub ve st (.non) .list) B ↔ B false := EX_eq rfl
theorem x_isi_nd {sub : Nat → Nat → Option Bool} {ve : Nat → Option Bool} {st : Store} {B : Bool → Prop} : EX (isiD sub ve st (.non) .dict) B ↔ B false := EX_eq rfl
theorem x_isi_bb {sub : Nat → Nat → Option Bool} {ve : Nat → Option Bool} {st : Store} {b : Bool} {B : Bool → Prop} : EX (isiD sub ve st (.bl b) .bool) B ↔ B true := EX_eq rfl
theorem x_isi_bi {sub : Nat → Nat → Option Bool} {ve : Nat → Option Bool} {st : Store} {b : Bool} {B : Bool → Prop} : EX (isiD sub ve st (.bl b) .int) B ↔ B true := EX_eq rfl
theorem x_isi_bs {sub : Nat → Nat → Option Bool} {ve : Nat → Option Bool} {st : Store} {b : Bool} {B : Bool → Prop} : EX (isiD sub ve st (.bl b) .str) B ↔ B false := EX_eq rfl
theorem x_isi_bt {sub : Nat → Nat → Option Bool} {ve : Nat → Option Bool} {st : Store} {b : Bool} {B : Bool → Prop} : EX (isiD sub ve st (.bl b) .tuple) B ↔ B false := EX_eq rfl
theorem x_isi_bl {sub : Nat → Nat → Option Bool} {ve : Nat → Option Bool} {st : Store} {b : Bool} {B : Bool → Prop} : EX (isiD sub ve st (.bl b) .list) B ↔ B false := EX_eq rfl
theorem x_isi_bd {sub : Nat → Nat → Option Bool} {ve : Nat → Option Bool} {st : Store} {b : Bool} {B : Bool → Prop} : EX (isiD sub ve st (.bl b) .dict) B ↔ B false := EX_eq rfl
theorem x_isi_ib {sub : Nat → Nat → Option Bool} {ve : Nat → Option Bool} {st : Store} {i : Int} {B : Bool → Prop} : EX (isiD sub ve st (.int i) .bool) B ↔ B false := EX_eq rfl
theorem x_isi_ii {sub : Nat → Nat → Option Bool} {ve : Nat → Option Bool} {st : Store} {i : Int} {B : Bool → Prop} : EX (isiD sub ve st (.int i) .int) B ↔ B true := EX_eq rfl
theorem x_isi_is {sub : Nat → Nat → Option Bool} {ve : Nat → Option Bool} {st : Store} {i : Int} {B : Bool → Prop} : EX (isiD sub ve st (.int i) .str) B ↔ B false := EX_eq rfl
theorem x_isi_it {sub : Nat → Nat → Option Bool} {ve : Nat → Option Bool} {st : Store} {i : Int} {B : Bool → Prop} : EX (isiD sub ve st (.int i) .tuple) B ↔ B false := EX_eq rfl
theorem x_isi_il {sub : Nat → Nat → Option Bool} {ve : Nat → Option Bool} {st : Store} {i : Int} {B : Bool → Prop} : EX (isiD sub ve st (.int i) .list) B ↔ B false := EX_eq rfl
theorem x_isi_id {sub : Nat → Nat → Option Bool} {ve : Nat → Option Bool} {st : Store} {i : Int} {B : Bool → Prop} : EX (isiD sub ve st (.int i) .dict) B ↔ B false := EX_eq rfl
theorem x_isi_sb {sub : Nat → Nat → Option Bool} {ve : Nat → Option Bool} {st : Store} {x : Str} {B : Bool → Prop} : EX (isiD sub ve st (.str x) .bool) B ↔ B false := EX_eq rfl
theorem x_isi_si {sub : Nat → Nat → Option Bool} {ve : Nat → Option Bool} {st : Store} {x : Str} {B : Bool → Prop} : EX (isiD sub ve st (.str x) .int) B ↔ B false := EX_eq rfl
theorem x_isi_ss {sub : Nat → Nat → Option Bool} {ve : Nat → Option Bool} {st : Store} {x : Str} {B : Bool → Prop} : EX (isiD sub ve st (.str x) .str) B ↔ B true := EX_eq rfl
theorem x_isi_st {sub : Nat → Nat → Option Bool} {ve : Nat → Option Bool} {st : Store} {x : Str} {B : Bool → Prop} : EX (isiD sub ve st (.str x) .tuple) B ↔ B false := EX_eq rfl
theorem x_isi_sl {sub : Nat → Nat → Option Bool} {ve : Nat → Option Bool} {st : Store} {x : Str} {B : Bool → Prop} : EX (isiD sub ve st (.str x) .list) B ↔ B false := EX_eq rfl
theorem x_isi_sd {sub : Nat → Nat → Option Bool} {ve : Nat → Option Bool} {st : Store} {x : Str} {B : Bool → Prop} : EX (isiD sub ve st (.str x) .dict) B ↔ B false := EX_eq rfl
theorem x_isi_tb {sub : Nat → Nat → Option Bool} {ve : Nat → Option Bool} {st : Store} {xs : List D} {B : Bool → Prop} : EX (isiD sub ve st (.tup xs) .bool) B ↔ B false := EX_eq rfl
theorem x_isi_ti {sub : Nat → Nat → Option Bool} {ve : Nat → Option Bool} {st : Store} {xs : List D} {B : Bool → Prop} : EX (isiD sub ve st (.tup xs) .int) B ↔ B false := EX_eq rfl
theorem x_isi_ts {sub : Nat → Nat → Option Bool} {ve : Nat → Option Bool} {st : Store} {xs : List D} {B : Bool → Prop} : EX (isiD sub ve st (.tup xs) .str) B ↔ B false := EX_eq rfl
theorem x_isi_tt {sub : Nat → Nat → Option Bool} {ve : Nat → Option Bool} {st : Store} {xs : List D} {B : Bool → Prop} : EX (isiD sub ve st (.tup xs) .tuple) B ↔ B true := EX_eq rfl
theorem x_isi_tl {sub : Nat → Nat → Option Bool} {ve : Nat → Option Bool} {st : Store} {xs : List D} {B : Bool → Prop} : EX (isiD sub ve st (.tup xs) .list) B ↔ B false := EX_eq rfl
theorem x_isi_td {sub : Nat → Nat → Option Bool} {ve : Nat → Option Bool} {st : Store} {xs : List D} {B : Bool → Prop} : EX (isiD sub ve st (.tup xs) .dict) B ↔ B false := EX_eq rfl
theorem x_isi_lb {sub : Nat → Nat → Option Bool} {ve : Nat → Option Bool} {st : Store} {xs : List D} {B : Bool → Prop} : EX (isiD sub ve st (.lst xs) .bool) B ↔ B false := EX_eq rfl
theorem x_isi_li {sub : Nat → Nat → Option Bool} {ve : Nat → Option Bool} {st : Store} {xs : List D} {B : Bool → Prop} : EX (isiD sub ve st (.lst xs) .int) B ↔ B false := EX_eq rfl
theorem x_isi_ls {sub : Nat → Nat → Option Bool} {ve : Nat → Option Bool} {st : Store} {xs : List D} {B : Bool → Prop} : EX (isiD sub ve st (.lst xs) .str) B ↔ B false := EX_eq rfl
theorem x_isi_lt {sub : Nat → Nat → Option Bool} {ve : Nat → Option Bool} {st : Store} {xs : List D} {B : Bool → Prop} : EX (isiD sub ve st (.lst xs) .tuple) B ↔ B false := EX_eq rfl
theorem x_isi_ll {sub : Nat → Nat → Option Bool} {ve : Nat → Option Bool} {st : Store} {xs : List D} {B : Bool → Prop} : EX (isiD sub ve st (.lst xs) .list) B ↔ B true := EX_eq rfl
theorem x_isi_ld {sub : Nat → Nat → Option Bool} {ve : Nat → Option Bool} {st : Store} {xs : List D} {B : Bool → Prop} : EX (isiD sub ve st (.lst xs) .dict) B ↔ B false := EX_eq rfl
theorem x_isi_db {sub : Nat → Nat → Option Bool} {ve : Nat → Option Bool} {st : Store} {ks : List Key} {vs : List D} {B : Bool → Prop} : EX (isiD sub ve st (.dct ks vs) .bool) B ↔ B false := EX_eq rfl
theorem x_isi_di {sub : Nat → Nat → Option Bool} {ve : Nat → Option Bool} {st : Store} {ks : List Key} {vs : List D} {B : Bool → Prop} : EX (isiD sub ve st (.dct ks vs) .int) B ↔ B false := EX_eq rfl
theorem x_isi_ds {sub : Nat → Nat → Option Bool} {ve : Nat → Option Bool} {st : Store} {ks : List Key} {vs : List D} {B : Bool → Prop} : EX (isiD sub ve st (.dct ks vs) .str) B ↔ B false := EX_eq rfl
theorem x_isi_dt {sub : Nat → Nat → Option Bool} {ve : Nat → Option Bool} {st : Store} {ks : List Key} {vs : List D} {B : Bool → Prop} : EX (isiD sub ve st (.dct ks vs) .tuple) B ↔ B false := EX_eq rfl
theorem x_isi_dl {sub : Nat → Nat → Option Bool} {ve : Nat → Option Bool} {st : Store} {ks : List Key} {vs : List D} {B : Bool → Prop} : EX (isiD sub ve st (.dct ks vs) .list) B ↔ B false := EX_eq rfl
theorem x_isi_dd {sub : Nat → Nat → Option Bool} {ve : Nat → Option Bool} {st : Store} {ks : List Key} {vs : List D} {B : Bool → Prop} : EX (isiD sub ve st (.dct ks vs) .dict) B ↔ B true := EX_eq rfl
end Cip

set_option maxHeartbeats 4000000
/-! Cip30: pop, extend as steps; loops and comprehensions by what stays true; lists of the store. -/
namespace Cip
open PySem
variable {xq : XQ}
def popS (st : Store) (x : D) : Option (D × Store) := match x with
  | .ref k => match st[k]? with
    | some (.lst xs) => match xs[xs.length - 1]? with
      | some d => some (d, st.set k (.lst xs.dropLast))
      | none => none
    | _ => none
  | _ => none
def popiS (st : Store) (x y : D) : Option (D × Store) := match x with
  | .ref k => match st[k]? with
    | some (.lst xs) => match y with
      | .int i => match L2.ixN xs.length i with
        | some j => match xs[j]? with
          | some d => some (d, st.set k (.lst (xs.eraseIdx j)))
          | none => none
        | none => none
      | _ => none
    | _ => none
  | _ => none
def extS (st : Store) (x d : D) : Option Store := match x with
  | .ref k => match st[k]? with
    | some (.lst xs) => match seqD st d with
      | some ys => if xs.length + ys.length ≤ sizeLine then some (st.set k (.lst (xs ++ ys))) else none
      | none => none
    | _ => none
  | _ => none
section
variable {Γ : Tx} {cf : CF} {env : Env} {st : Store} {Q : D → Store → Prop}
theorem pop_eq {x : D} : popD st x = match popS st x with
  | some p => .ok p.1 p.2
  | none => .stk := by
  unfold popD popS
  cases x with
  | ref k =>
    dsimp only
    cases st[k]? with
    | none => rfl
    | some m => cases m with
      | lst xs =>
        dsimp only
        cases xs[xs.length - 1]? <;> rfl
      | _ => rfl
  | _ => rfl
theorem popi_eq {x y : D} : popiD st x y = match popiS st x y with
  | some p => .ok p.1 p.2
  | none => .stk := by
  unfold popiD popiS
  cases x with
  | ref k =>
    dsimp only
    cases st[k]? with
    | none => rfl
    | some m => cases m with
      | lst xs => cases y with
        | int i =>
          dsimp only
          cases L2.ixN xs.length i with
          | none => rfl
          | some j =>
            dsimp only
            cases xs[j]? <;> rfl
        | _ => rfl
      | _ => rfl
  | _ => rfl
theorem ext_eq {x d : D} : extD st x d = match extS st x d with
  | some s => .ok .non s
  | none => .stk := by
  unfold extD extS
  cases x with
  | ref k =>
    dsimp only
    cases st[k]? with
    | none => rfl
    | some m => cases m with
      | lst xs =>
        dsimp only
        cases seqD st d with
        | none => rfl
        | some ys =>
          dsimp only
          split <;> rfl
      | _ => rfl
  | _ => rfl
theorem wp_optP {o : Option (D × Store)} : WPE xq (match o with
  | some p => R.ok p.1 p.2
  | none => .stk) Q ↔ EX o fun p => Q p.1 p.2 := by
  cases o with
  | none => exact ⟨fun h => h.elim, fun ⟨_, e, _⟩ => (nomatch e)⟩
  | some p => rw [EX_some]; exact Iff.rfl
theorem wp_optS {o : Option Store} : WPE xq (match o with
  | some s => R.ok D.non s
  | none => .stk) Q ↔ EX o fun s => Q .non s := by
  cases o with
  | none => exact ⟨fun h => h.elim, fun ⟨_, e, _⟩ => (nomatch e)⟩
  | some p => rw [EX_some]; exact Iff.rfl
theorem guard_wp {b : Bool} {r : R D} : WPE xq (if b = true then r else .stk) Q ↔ b = true ∧ WPE xq r Q := by
  cases b with
  | true => simp
  | false => simp [WPE]
theorem l_pop {a : E} : WPE xq (ev Γ cf (.pop a) env st) Q ↔ WPE xq (ev Γ cf a env st) fun x st => (lstD st x).isSome = true ∧ EX (popS st x) fun p => Q p.1 p.2 := by
  simp only [ev, WP_bind, guard_wp, pop_eq, wp_optP]
theorem l_popi {a i : E} : WPE xq (ev Γ cf (.popi a i) env st) Q ↔ WPE xq (ev Γ cf a env st) fun x st => (lstD st x).isSome = true ∧ WPE xq (ev Γ cf i env st) fun y st => EX (popiS st x y) fun p => Q p.1 p.2 := by
  simp only [ev, WP_bind, guard_wp, popi_eq, wp_optP]
theorem l_ext {a e : E} : WPE xq (ev Γ cf (.ext a e) env st) Q ↔ WPE xq (ev Γ cf a env st) fun x st => (lstD st x).isSome = true ∧ WPE xq (ev Γ cf e env st) fun d st => EX (extS st x d) fun st' => Q .non st' := by
  simp only [ev, WP_bind, guard_wp, ext_eq, wp_optS]
theorem lst_ref {k : Nat} {ds : List D} (h : st[k]? = some (.lst ds)) : lstD st (.ref k) = some ds := by simp only [lstD, h]
theorem isl_ref {k : Nat} {ds : List D} (h : st[k]? = some (.lst ds)) : (lstD st (.ref k)).isSome = true := by rw [lst_ref h] <;> rfl
theorem add_ref {k : Nat} {ds es : List D} (h : st[k]? = some (.lst ds)) (hl : ds.length + es.length ≤ 16777216) : binD st .add (.ref k) (.lst es) = some (.lst (ds ++ es)) := by
  show addD st (.ref k) (.lst es) = _
  unfold addD
  simp only [lstD, h, if_pos (show ds.length + es.length ≤ sizeLine by rw [sz]; exact hl)]
theorem app_ref {k : Nat} {ds : List D} {d : D} (h : st[k]? = some (.lst ds)) (hl : ds.length < 16777216) : appS st (.ref k) d = some (st.set k (.lst (ds ++ [d]))) := by
  simp only [appS, h, if_pos (show ds.length < sizeLine by rw [sz]; exact hl)]
theorem ext_ref {k : Nat} {ds es : List D} {d : D} (h : st[k]? = some (.lst ds)) (hd : seqD st d = some es) (hl : ds.length + es.length ≤ 16777216) : extS st (.ref k) d = some (st.set k (.lst (ds ++ es))) := by
  simp only [extS, h, hd, if_pos (show ds.length + es.length ≤ sizeLine by rw [sz]; exact hl)]
theorem pop_ref {k : Nat} {ds : List D} {d : D} (h : st[k]? = some (.lst ds)) (hd : ds[ds.length - 1]? = some d) : popS st (.ref k) = some (d, st.set k (.lst ds.dropLast)) := by
  simp only [popS, h, hd]
theorem popi_ref {k j : Nat} {i : Int} {ds : List D} {d : D} (h : st[k]? = some (.lst ds)) (hj : L2.ixN ds.length i = some j) (hd : ds[j]? = some d) : popiS st (.ref k) (.int i) = some (d, st.set k (.lst (ds.eraseIdx j))) := by
  simp only [popiS, h, hj, hd]
theorem gc_keep {st0 st : Store} {k : Nat} (h : st0.length ≤ k) : gc st0 [.ref k] st = st := by
  unfold gc
  rw [if_neg]
  intro hl
  have h1 : max (k + 1) 0 ≤ st0.length := hl.1
  omega
theorem gc_app {st0 new : Store} {d : D} (hd : d.mx ≤ st0.length) : gc st0 [d] (st0 ++ new) = st0 :=
  gc_drop rfl (by show max d.mx 0 ≤ _; omega) fun k hk => .inl rfl
/-- [e for .. in ..]: J stays true of the store, P holds of each value -/
theorem w_lcJ {own : List Nat} {t : Tg} {k : IK} {its : List E} {e : E} {ds xs : List D} (J : Store → Prop) (P : D → Prop) (h : evs Γ cf its env st = .ok ds st) (hw : walkD st k ds = some xs) (hr : refsOf ds = []) (hl : xs.length ≤ 16777216) (hJ : J st)
    (hx : ∀ x ∈ xs, ∀ s, J s → EX (asgT s t x (wipeE env own)) fun env' => WPE xF (ev Γ cf e env' s) fun d s' => J s' ∧ P d) (hq : ∀ rs s, J s → rs.length = xs.length → (∀ d ∈ rs, P d) → Q (.lst rs) s) : WPE xF (ev Γ cf (.lc own t k its .nul e) env st) Q := by
  rw [w_lcD, h, WP_ok]
  refine ⟨xs, hw, ?_⟩
  have hs : ∀ a b, still (refsOf ds) a b = true := fun a b => still_ok.mpr fun k hk => by rw [hr] at hk; cases hk
  refine lcL_J J P hJ (fun x hm s hs' => ?_) fun rs s q1 q2 q3 => ⟨hs _ _, by rw [sz]; omega, hq rs s q1 q2 q3⟩
  obtain ⟨env', h1, h2⟩ := hx x hm s hs'
  rw [if_pos (hs _ _), h1]
  unfold lcTurn
  simp only [E.nulB, if_true]
  show WPE xF ((ev Γ cf e env' s).bind fun d st => .ok (some d) st) _
  rw [WP_bind]
  exact h2.imp fun d s'' ⟨z1, z2⟩ => ⟨z1, d, rfl, z2⟩
/-- for .. in ..: I holds of what is left -/
theorem s_forI {t : Tg} {k : IK} {its : List E} {body : List S} {N : Env → Store → Prop} {V : D → Store → Prop} {ds xs : List D} (I : List D → Env → Store → Prop) (h : evs Γ cf its env st = .ok ds st) (hw : walkD st k ds = some xs) (hs : ∀ rest e s, I rest e s → still (refsOf ds) st s = true) (hI : I xs env st)
    (hx : ∀ x rest env s, I (x :: rest) env s → EX (asgT s t x env) fun env' => WSE xq (runs Γ cf body env' s) (fun e s => I rest e s) V) (hn : ∀ e s, I [] e s → N e s) : WSE xq (run Γ cf (.for t k its body) env st) N V := by
  rw [s_forD, h, WP_ok]
  refine ⟨xs, hw, WS_loop I hs (fun x rest e s hi => ?_) hn xs env st hI⟩
  obtain ⟨env', h3, h4⟩ := hx x rest e s hi
  simp only [h3]
  exact h4
theorem still_none {ds : List D} {a b : Store} (h : refsOf ds = []) : still (refsOf ds) a b = true := still_ok.mpr fun k hk => by rw [h] at hk; cases hk
/-- for .. in ..: by the number of what is left -/
theorem s_forJ {t : Tg} {k : IK} {its : List E} {body : List S} {N : Env → Store → Prop} {V : D → Store → Prop} {ds xs : List D} (I : Nat → Env → Store → Prop) (h : evs Γ cf its env st = .ok ds st) (hw : walkD st k ds = some xs) (hr : refsOf ds = []) (hI : I xs.length env st)
    (hx : ∀ x ∈ xs, ∀ m env s, I (m + 1) env s → EX (asgT s t x env) fun env' => WSE xq (runs Γ cf body env' s) (fun e s => I m e s) V) (hn : ∀ e s, I 0 e s → N e s) : WSE xq (run Γ cf (.for t k its body) env st) N V := by
  refine s_forI (fun rest e s => I rest.length e s ∧ ∀ x ∈ rest, x ∈ xs) h hw (fun _ _ _ _ => still_none hr) ⟨hI, fun _ h => h⟩ (fun x rest e s ⟨h1, h2⟩ => ?_) fun e s h => hn e s h.1
  exact EX_imp (hx x (h2 x (by simp)) rest.length e s h1) fun env' h4 => h4.imp (fun e s q => ⟨q, fun y hy => h2 y (List.mem_cons_of_mem _ hy)⟩) fun _ _ q => q
end
end Cip

set_option maxHeartbeats 4000000
/-! Cip31: objects of own classes and op=, as steps. -/
namespace Cip
open PySem
variable {xq : XQ}
def fldS (st : Store) (c : Nat) (x : D) (f : Nat) : Option D := match x with
  | .ref k => match st[k]? with
    | some (.ins c' fs) => if c' = c then fs.lookup f else none
    | _ => none
  | _ => none
def insB (st : Store) (c : Nat) (x : D) : Bool := match x with
  | .ref k => match st[k]? with
    | some (.ins c' _) => decide (c' = c)
    | _ => false
  | _ => false
def sfldS (st : Store) (c : Nat) (x : D) (f : Nat) (d : D) : Option Store := match x with
  | .ref k => match st[k]? with
    | some (.ins c' fs) => if c' = c ∧ fs.length < 900 then some (st.set k (.ins c (setF f d fs))) else none
    | _ => none
  | _ => none
section
variable {Γ : Tx} {cf : CF} {env : Env} {st : Store} {Q : D → Store → Prop} {N : Env → Store → Prop} {V : D → Store → Prop}
theorem fld_eq {x : D} {c f : Nat} : (match x with
    | .ref k => match st[k]? with
      | some (.ins c' fs) => if c' = c then .of (fs.lookup f) st else .stk
      | _ => .stk
    | _ => .stk : R D) = R.of (fldS st c x f) st := by
  unfold fldS
  cases x with
  | ref k =>
    dsimp only
    cases st[k]? with
    | none => rfl
    | some m => cases m with
      | ins c' fs =>
        dsimp only
        by_cases h : c' = c
        · rw [if_pos h, if_pos h]
        · rw [if_neg h, if_neg h] <;> rfl
      | _ => rfl
  | _ => rfl
theorem l_fld {c f : Nat} {a : E} : WPE xq (ev Γ cf (.fld c a f) env st) Q ↔ WPE xq (ev Γ cf a env st) fun x st => EX (fldS st c x f) fun d => Q d st := by
  have key : ∀ (x : D) (st : Store), WPE xq (R.of (fldS st c x f) st) Q ↔ EX (fldS st c x f) fun d => Q d st := fun x st => WP_ofE
  simp only [← fld_eq] at key
  simp only [ev, WP_bind]
  exact ⟨fun h => h.imp fun x s q => (key x s).mp q, fun h => h.imp fun x s q => (key x s).mpr q⟩
theorem l_mth {c f : Nat} {a : E} {es : List E} : WPE xq (ev Γ cf (.mth c a f es) env st) Q ↔ WPE xq (ev Γ cf a env st) fun x st => insB st c x = true ∧ WPE xq (evs Γ cf es env st) fun ds st => WPE xq (cf f (x :: ds) st) Q := by
  simp only [ev, WP_bind]
  constructor
  · intro h
    refine h.imp fun x s q => ?_
    unfold insB
    cases x with
    | ref k =>
      dsimp only at q ⊢
      cases hk : s[k]? with
      | none => rw [hk] at q; exact q.elim
      | some m =>
        rw [hk] at q
        cases m with
        | ins c' fs =>
          dsimp only at q ⊢
          by_cases e : c' = c
          · rw [if_pos e, WP_bind] at q
            exact ⟨decide_eq_true e, q⟩
          · rw [if_neg e] at q
            exact q.elim
        | _ => exact q.elim
    | _ => exact q.elim
  · intro h
    refine h.imp fun x s ⟨q1, q⟩ => ?_
    unfold insB at q1
    cases x with
    | ref k =>
      dsimp only at q1 ⊢
      cases hk : s[k]? with
      | none => rw [hk] at q1; cases q1
      | some m =>
        rw [hk] at q1
        cases m with
        | ins c' fs =>
          dsimp only at q1 ⊢
          rw [if_pos (of_decide_eq_true q1), WP_bind]
          exact q
        | _ => cases q1
    | _ => cases q1
theorem l_new {c f : Nat} {es : List E} : WPE xq (ev Γ cf (.new c f es) env st) Q ↔ WPE xq (evs Γ cf es env st) fun ds st => WPE xq (cf f (.ref st.length :: ds) (st ++ [.ins c []])) fun r st' => r = .non ∧ Q (.ref st.length) st' := by
  simp only [ev, WP_bind]
  constructor
  · intro h
    refine h.imp fun ds s q => q.imp fun r s' q => ?_
    cases r with
    | non => exact ⟨rfl, q⟩
    | _ => exact q.elim
  · intro h
    refine h.imp fun ds s q => q.imp fun r s' ⟨e, q⟩ => ?_
    subst e
    exact q
theorem sfld_eq {x d : D} {c f : Nat} : (match x with
    | .ref k => match st[k]? with
      | some (.ins c' fs) => if c' = c ∧ fs.length < 900 then .nx env (st.set k (.ins c (setF f d fs))) else .stk
      | _ => .stk
    | _ => .stk : SR) = match sfldS st c x f d with
  | some s => .nx env s
  | none => .stk := by
  unfold sfldS
  cases x with
  | ref k =>
    dsimp only
    cases st[k]? with
    | none => rfl
    | some m => cases m with
      | ins c' fs =>
        dsimp only
        by_cases h : c' = c ∧ fs.length < 900
        · rw [if_pos h, if_pos h]
        · rw [if_neg h, if_neg h]
      | _ => rfl
  | _ => rfl
theorem ws_opt {o : Option Store} : WSE xq (match o with
  | some s => SR.nx env s
  | none => .stk) N V ↔ EX o fun s => N env s := by
  cases o with
  | none => exact ⟨fun h => h.elim, fun ⟨_, e, _⟩ => (nomatch e)⟩
  | some p => rw [EX_some]; exact Iff.rfl
theorem l_sfld {c f : Nat} {a e : E} : WSE xq (run Γ cf (.sfld c a f e) env st) N V ↔ WPE xq (ev Γ cf e env st) fun d st => WPE xq (ev Γ cf a env st) fun x st => EX (sfldS st c x f d) fun st' => N env st' := by
  have key : ∀ (x d : D) (st : Store), WSE xq (match sfldS st c x f d with
    | some s => SR.nx env s
    | none => .stk) N V ↔ EX (sfldS st c x f d) fun st' => N env st' := fun x d st => ws_opt
  simp only [← sfld_eq] at key
  simp only [run, WS_s]
  exact ⟨fun h => h.imp fun d s q => q.imp fun x s q => (key x d s).mp q, fun h => h.imp fun d s q => q.imp fun x s q => (key x d s).mpr q⟩
theorem ws_optA {o : Option D} {i : Nat} : WSE xq (match o with
  | some r => SR.nx (env.set i (some r)) st
  | none => .stk) N V ↔ EX o fun r => N (env.set i (some r)) st := by
  cases o with
  | none => exact ⟨fun h => h.elim, fun ⟨_, e, _⟩ => (nomatch e)⟩
  | some p => rw [EX_some]; exact Iff.rfl
theorem l_aug {i : Nat} {o : BOp} {e : E} : WSE xq (run Γ cf (.aug i o e) env st) N V ↔ EX env[i]? fun x => EX x fun x => WPE xq (ev Γ cf e env st) fun d st => EX (augD o x d) fun r => EX (asgT st (.nm i) r env) fun e => N e st := by
  simp only [run]
  cases h : env[i]? with
  | none => rw [EX_none]; exact Iff.rfl
  | some x =>
    rw [EX_some]
    cases x with
    | none => rw [EX_none]; exact Iff.rfl
    | some d =>
      rw [EX_some]
      simp only [WS_s, asg_nm, EX_some]
      exact ⟨fun h => h.imp fun x s q => ws_optA.mp q, fun h => h.imp fun x s q => ws_optA.mpr q⟩
theorem l_augf {c f : Nat} {o : BOp} {a e : E} : WSE xq (run Γ cf (.augf c a f o e) env st) N V ↔ WPE xq (ev Γ cf a env st) fun x st => EX (fldS st c x f) fun v => WPE xq (ev Γ cf e env st) fun d st => EX (augD o v d) fun r => EX (sfldS st c x f r) fun st' => N env st' := by
  simp only [run, WS_s]
  have key : ∀ (x : D) (s : Store), WSE xq (match x with
    | .ref k => match s[k]? with
      | some (.ins c' fs) => if c' = c then match fs.lookup f with
        | some v => (ev Γ cf e env s).s env fun d st => match augD o v d with
          | some r => match st[k]? with
            | some (.ins c'' fs') => if c'' = c ∧ fs'.length < 900 then .nx env (st.set k (.ins c (setF f r fs'))) else .stk
            | _ => .stk
          | none => .stk
        | none => .stk
        else .stk
      | _ => .stk
    | _ => .stk : SR) N V ↔ EX (fldS s c x f) fun v => WPE xq (ev Γ cf e env s) fun d st => EX (augD o v d) fun r => EX (sfldS st c x f r) fun st' => N env st' := by
    intro x s
    unfold fldS
    cases x with
    | ref k =>
      dsimp only
      cases s[k]? with
      | none => dsimp only; rw [EX_none]; exact Iff.rfl
      | some m => cases m with
        | ins c' fs =>
          dsimp only
          by_cases h : c' = c
          · rw [if_pos h, if_pos h]
            cases fs.lookup f with
            | none => dsimp only; rw [EX_none]; exact Iff.rfl
            | some v =>
              dsimp only
              rw [EX_some, WS_s]
              have e1 : ∀ (d : D) (st : Store), WSE xq (match augD o v d with
                | some r => match st[k]? with
                  | some (.ins c'' fs') => if c'' = c ∧ fs'.length < 900 then SR.nx env (st.set k (.ins c (setF f r fs'))) else .stk
                  | _ => .stk
                | none => .stk) N V ↔ EX (augD o v d) fun r => EX (sfldS st c (.ref k) f r) fun st' => N env st' := fun d st => by
                cases augD o v d with
                | none => dsimp only; rw [EX_none]; exact Iff.rfl
                | some r =>
                  dsimp only
                  rw [EX_some, ← ws_opt (env := env) (V := V), ← sfld_eq]
              refine ⟨fun h => h.imp fun d s q => (e1 d s).mp q, fun h => h.imp fun d s q => (e1 d s).mpr q⟩
          · rw [if_neg h, if_neg h, EX_none]
            exact Iff.rfl
        | _ => dsimp only; rw [EX_none]; exact Iff.rfl
    | _ => dsimp only; rw [EX_none]; exact Iff.rfl
  exact ⟨fun h => h.imp fun x s q => (key x s).mp q, fun h => h.imp fun x s q => (key x s).mpr q⟩
theorem x_aug_i {i j : Int} {P : D → Prop} : EX (augD .add (.int i) (.int j)) P ↔ P (.int (i + j)) := EX_eq rfl
theorem x_aug_d {i j : Int} {P : D → Prop} : EX (augD .sub (.int i) (.int j)) P ↔ P (.int (i - j)) := EX_eq rfl
theorem x_aug_s {x y : Str} {P : D → Prop} : EX (augD .add (.str x) (.str y)) P ↔ x.length + y.length ≤ 16777216 ∧ P (.str (x ++ y)) := EX_ite
theorem fld_of {k c f : Nat} {fs : List (Nat × D)} {d : D} (h : st[k]? = some (.ins c fs)) (hf : fs.lookup f = some d) : fldS st c (.ref k) f = some d := by
  simp only [fldS, h, if_true, hf]
theorem ins_of {k c : Nat} {fs : List (Nat × D)} (h : st[k]? = some (.ins c fs)) : insB st c (.ref k) = true := by
  simp only [insB, h, decide_true]
theorem sfld_of {k c f : Nat} {fs : List (Nat × D)} {d : D} (h : st[k]? = some (.ins c fs)) (hl : fs.length < 900) : sfldS st c (.ref k) f d = some (st.set k (.ins c (setF f d fs))) := by
  simp only [sfldS, h]
  exact if_pos (by first | exact ⟨rfl, hl⟩ | exact ⟨trivial, hl⟩)
end
end Cip

set_option maxHeartbeats 4000000
namespace Cip
open PySem
local macro_rules | `(tactic| walk_at "cip") => `(tactic| simp only [s_cons, s_nil, s_asg, s_ret, s_ite, s_exp, s_pass, w_non, w_bl, w_int, w_str, w_var, w_con, w_bin, w_neg, w_cmp, w_isn, w_notn, w_and, w_or, w_not, w_ite, w_tup, w_lst, w_idx, w_call, s_ssubD, s_forD, s_whlD, w_mutD, w_appD, mut_lst, asg_tup2, asg_tup3, int_i, len_l, len_t, len_s, idx_l, idx_t, tuple_l, w_bi, w_isi, w_evs, w_evs0, w_and0, w_and1, w_or0, w_or1, asg_nm, ex_some, ex_var, ex_int, ex_bl, startE, List.length_cons, List.length_nil, List.map_cons, List.map_nil, List.getElem?_cons_zero, List.getElem?_cons_succ, List.set_cons_zero, List.set_cons_succ, List.cons_append, List.nil_append, List.replicate, ex_ite, b_add_i, b_sub_i, b_mul_i, b_mod_i, b_div_i, b_pow_i, b_add_s, b_add_t, b_add_l, b_mul_s, b_mul_t, b_mul_l, c_lt_i, c_le_i, c_gt_i, c_ge_i, c_lt_s, c_le_s, c_eq_i, c_ne_i, c_eq_s, c_ne_s, WP_ok, WS_nx, WS_rt, true_and, and_true])
local macro_rules | `(tactic| walk_at "cip2") => `(tactic| simp only [s_cons, s_nil, s_asg, s_ret, s_ite, s_exp, s_pass, w_non, w_bl, w_int, w_str, w_var, w_con, w_bin, w_neg, w_cmp, w_isn, w_notn, w_and, w_or, w_not, w_ite, w_tup, w_lst, w_idx, w_call, s_ssubD, s_forD, s_whlD, w_mutD, w_appD, mut_lst, asg_tup2, asg_tup3, int_i, len_l, len_t, len_s, idx_l, idx_t, tuple_l, w_bi, w_isi, w_evs, w_evs0, w_and0, w_and1, w_or0, w_or1, asg_nm, ex_some, ex_var, ex_int, ex_bl, startE, List.length_cons, List.length_nil, List.map_cons, List.map_nil, List.getElem?_cons_zero, List.getElem?_cons_succ, List.set_cons_zero, List.set_cons_succ, List.cons_append, List.nil_append, List.replicate, ex_ite, b_add_i, b_sub_i, b_mul_i, b_mod_i, b_div_i, b_pow_i, b_add_s, b_add_t, b_add_l, b_mul_s, b_mul_t, b_mul_l, c_lt_i, c_le_i, c_gt_i, c_ge_i, c_lt_s, c_le_s, c_eq_i, c_ne_i, c_eq_s, c_ne_s, WP_ok, WS_nx, WS_rt, true_and, and_true, w_slc, E.nulB, eq_self, if_true, if_false, Bool.false_eq_true, WP_bind, WP_of, bnd_int, Bool.not_true, Bool.not_false])
local macro_rules | `(tactic| walk_at "cip3") => `(tactic| simp only [s_cons, s_nil, s_asg, s_ret, s_ite, s_exp, s_pass, w_non, w_bl, w_int, w_str, w_var, w_con, w_bin, w_neg, w_cmp, w_isn, w_notn, w_and, w_or, w_not, w_ite, w_tup, w_lst, w_idx, w_call, s_ssubD, s_forD, s_whlD, w_mutD, w_appD, mut_lst, asg_tup2, asg_tup3, int_i, len_l, len_t, len_s, idx_l, idx_t, tuple_l, w_bi, w_isi, w_evs, w_evs0, w_and0, w_and1, w_or0, w_or1, asg_nm, ex_some, ex_var, ex_int, ex_bl, startE, List.length_cons, List.length_nil, List.map_cons, List.map_nil, List.getElem?_cons_zero, List.getElem?_cons_succ, List.set_cons_zero, List.set_cons_succ, List.cons_append, List.nil_append, List.replicate, ex_ite, b_add_i, b_sub_i, b_mul_i, b_mod_i, b_div_i, b_pow_i, b_add_s, b_add_t, b_add_l, b_mul_s, b_mul_t, b_mul_l, c_lt_i, c_le_i, c_gt_i, c_ge_i, c_lt_s, c_le_s, c_eq_i, c_ne_i, c_eq_s, c_ne_s, WP_ok, WS_nx, WS_rt, true_and, and_true, w_slc, E.nulB, eq_self, if_true, if_false, Bool.false_eq_true, WP_bind, WP_of, bnd_int, Bool.not_true, Bool.not_false, w_chn])
local macro_rules | `(tactic| walk_at "z0") => `(tactic| simp only [startE, List.map_cons, List.map_nil, List.length_cons, List.length_nil, Nat.reduceAdd, Nat.reduceSub, List.replicate, List.cons_append, List.nil_append])

/-! Cip32: texts as lists of signs; lists of texts; comprehensions by images; loops by a measure. -/
--NOLAW
variable {xq : XQ}
def okW (c : Nat) : Bool := subStr ⟨#[c]⟩ "abcdefghijklmnopqrstuvwxyz0123456789"
def okC (c : Nat) : Bool := !ltStr ⟨#[c]⟩ " " && !ltStr "~" ⟨#[c]⟩
def isI (d : D) : Bool := match d with | .int _ => true | .bl _ => true | _ => false
def isB (d : D) : Bool := match d with | .bl _ => true | _ => false
def isS (d : D) : Bool := match d with | .str _ => true | _ => false
def isT (d : D) : Bool := match d with | .tup _ => true | _ => false
theorem isi_i {sub : Nat → Nat → Option Bool} {ve : Nat → Option Bool} {st : Store} {d : D} (h : Cl d = true) : isiD sub ve st d .int = some (isI d) := by
  cases d <;> first | rfl | cases h
theorem isi_b {sub : Nat → Nat → Option Bool} {ve : Nat → Option Bool} {st : Store} {d : D} (h : Cl d = true) : isiD sub ve st d .bool = some (isB d) := by
  cases d <;> first | rfl | cases h
theorem isi_s {sub : Nat → Nat → Option Bool} {ve : Nat → Option Bool} {st : Store} {d : D} (h : Cl d = true) : isiD sub ve st d .str = some (isS d) := by
  cases d <;> first | rfl | cases h
theorem isi_t {sub : Nat → Nat → Option Bool} {ve : Nat → Option Bool} {st : Store} {d : D} (h : Cl d = true) : isiD sub ve st d .tuple = some (isT d) := by
  cases d <;> first | rfl | cases h
theorem isI_n  : isI (.non) = false := rfl
theorem isI_b {b : Bool} : isI (.bl b) = true := rfl
theorem isI_i {i : Int} : isI (.int i) = true := rfl
theorem isI_s {x : Str} : isI (.str x) = false := rfl
theorem isI_t {xs : List D} : isI (.tup xs) = false := rfl
theorem isI_l {xs : List D} : isI (.lst xs) = false := rfl
theorem isI_d {ks : List Key} {vs : List D} : isI (.dct ks vs) = false := rfl
theorem isI_c {xs : List D} : isI (.scr xs) = false := rfl
theorem isI_r {k : Nat} : isI (.ref k) = false := rfl
theorem isB_n  : isB (.non) = false := rfl
theorem isB_b {b : Bool} : isB (.bl b) = true := rfl
theorem isB_i {i : Int} : isB (.int i) = false := rfl
theorem isB_s {x : Str} : isB (.str x) = false := rfl
theorem isB_t {xs : List D} : isB (.tup xs) = false := rfl
theorem isB_l {xs : List D} : isB (.lst xs) = false := rfl
theorem isB_d {ks : List Key} {vs : List D} : isB (.dct ks vs) = false := rfl
theorem isB_c {xs : List D} : isB (.scr xs) = false := rfl
theorem isB_r {k : Nat} : isB (.ref k) = false := rfl
theorem isS_n  : isS (.non) = false := rfl
theorem isS_b {b : Bool} : isS (.bl b) = false := rfl
theorem isS_i {i : Int} : isS (.int i) = false := rfl
theorem isS_s {x : Str} : isS (.str x) = true := rfl
theorem isS_t {xs : List D} : isS (.tup xs) = false := rfl
theorem isS_l {xs : List D} : isS (.lst xs) = false := rfl
theorem isS_d {ks : List Key} {vs : List D} : isS (.dct ks vs) = false := rfl
theorem isS_c {xs : List D} : isS (.scr xs) = false := rfl
theorem isS_r {k : Nat} : isS (.ref k) = false := rfl
theorem isT_n  : isT (.non) = false := rfl
theorem isT_b {b : Bool} : isT (.bl b) = false := rfl
theorem isT_i {i : Int} : isT (.int i) = false := rfl
theorem isT_s {x : Str} : isT (.str x) = false := rfl
theorem isT_t {xs : List D} : isT (.tup xs) = true := rfl
theorem isT_l {xs : List D} : isT (.lst xs) = false := rfl
theorem isT_d {ks : List Key} {vs : List D} : isT (.dct ks vs) = false := rfl
theorem isT_c {xs : List D} : isT (.scr xs) = false := rfl
theorem isT_r {k : Nat} : isT (.ref k) = false := rfl

theorem WB_isI {d : D} {α : Type} {x y : R α} {Q : α → Store → Prop} : WBE xq (isI d) x y Q ↔ (isI d = true → WPE xq x Q) ∧ (isI d = false → WPE xq y Q) := WB_if
theorem SB_isI {d : D} {x y : SR} {N : Env → Store → Prop} {V : D → Store → Prop} : SBE xq (isI d) x y N V ↔ (isI d = true → WSE xq x N V) ∧ (isI d = false → WSE xq y N V) := SB_if
theorem WB_isB {d : D} {α : Type} {x y : R α} {Q : α → Store → Prop} : WBE xq (isB d) x y Q ↔ (isB d = true → WPE xq x Q) ∧ (isB d = false → WPE xq y Q) := WB_if
theorem SB_isB {d : D} {x y : SR} {N : Env → Store → Prop} {V : D → Store → Prop} : SBE xq (isB d) x y N V ↔ (isB d = true → WSE xq x N V) ∧ (isB d = false → WSE xq y N V) := SB_if
theorem WB_isS {d : D} {α : Type} {x y : R α} {Q : α → Store → Prop} : WBE xq (isS d) x y Q ↔ (isS d = true → WPE xq x Q) ∧ (isS d = false → WPE xq y Q) := WB_if
theorem SB_isS {d : D} {x y : SR} {N : Env → Store → Prop} {V : D → Store → Prop} : SBE xq (isS d) x y N V ↔ (isS d = true → WSE xq x N V) ∧ (isS d = false → WSE xq y N V) := SB_if
theorem WB_isT {d : D} {α : Type} {x y : R α} {Q : α → Store → Prop} : WBE xq (isT d) x y Q ↔ (isT d = true → WPE xq x Q) ∧ (isT d = false → WPE xq y Q) := WB_if
theorem SB_isT {d : D} {x y : SR} {N : Env → Store → Prop} {V : D → Store → Prop} : SBE xq (isT d) x y N V ↔ (isT d = true → WSE xq x N V) ∧ (isT d = false → WSE xq y N V) := SB_if
theorem xi_i {d : D} (h : Cl d = true) : ∀ {sub : Nat → Nat → Option Bool} {ve : Nat → Option Bool} {st : Store} {B : Bool → Prop}, EX (isiD sub ve st d .int) B ↔ B (isI d) := EX_eq (isi_i h)
theorem xi_b {d : D} (h : Cl d = true) : ∀ {sub : Nat → Nat → Option Bool} {ve : Nat → Option Bool} {st : Store} {B : Bool → Prop}, EX (isiD sub ve st d .bool) B ↔ B (isB d) := EX_eq (isi_b h)
theorem xi_s {d : D} (h : Cl d = true) : ∀ {sub : Nat → Nat → Option Bool} {ve : Nat → Option Bool} {st : Store} {B : Bool → Prop}, EX (isiD sub ve st d .str) B ↔ B (isS d) := EX_eq (isi_s h)
theorem xi_t {d : D} (h : Cl d = true) : ∀ {sub : Nat → Nat → Option Bool} {ve : Nat → Option Bool} {st : Store} {B : Bool → Prop}, EX (isiD sub ve st d .tuple) B ↔ B (isT d) := EX_eq (isi_t h)
theorem ok_of {α : Type} {r : R α} {v : α} {st : Store} (h : WPE xF r fun a s => a = v ∧ s = st) : r = .ok v st := by
  obtain ⟨a, s, e, rfl, rfl⟩ := WP_get h
  exact e
theorem wp_run {α : Type} {r : R α} {v : α} {st : Store} {Q : α → Store → Prop} (h : r = .ok v st) (q : Q v st) : WPE xF r Q := by rw [h, WP_ok]; exact q
theorem py_strs {st : Store} (ss : List Str) : py st (.tup (ss.map .str)) = some (.tuple (ss.map PyData.str)) := by
  have key : ∀ ss : List Str, pysW (pyR 8 st) (ss.map .str) = some (ss.map PyData.str) := fun ss => by
    induction ss with
    | nil => rfl
    | cons s ss ih => simp only [List.map_cons, pysW, pyW, ih]
  show (pysW (pyR 8 st) (ss.map .str)).map PyData.tuple = _
  rw [key] <;> rfl
theorem in_names {st : Store} (x : Str) (ss : List Str) : inD st (.str x) (.tup (ss.map .str)) = some (decide (x ∈ ss)) := by
  have h1 : ∀ ss : List Str, PyData.plainAll (ss.map PyData.str) = true := fun ss => by
    induction ss with
    | nil => rfl
    | cons s ss ih => simp only [List.map_cons, PyData.plainAll, PyData.plain, ih, Bool.and_self]
  have h2 : ∀ ss : List Str, ((ss.map PyData.str).any fun y => PyData.eqv y (.str x)) = decide (x ∈ ss) := fun ss => by
    induction ss with
    | nil => rfl
    | cons s ss ih =>
      rw [List.map_cons, List.any_cons, ih]
      simp only [PyData.eqv]
      rw [Bool.eq_iff_iff, Bool.or_eq_true, decide_eq_true_eq, decide_eq_true_eq, beq_iff_eq, List.mem_cons]
      exact ⟨fun h => h.imp Eq.symm id, fun h => h.imp Eq.symm id⟩
  have e2 : py st (.str x) = some (.str x) := rfl
  show (match py st (.tup (ss.map .str)), py st (.str x) with
    | some (.list ps), some d => if d.plain && PyData.plainAll ps && decide (min (PyData.depthAll ps) d.depth ≤ 100) then some (ps.any fun y => PyData.eqv y d) else none
    | some (.tuple ps), some d => if d.plain && PyData.plainAll ps && decide (min (PyData.depthAll ps) d.depth ≤ 100) then some (ps.any fun y => PyData.eqv y d) else none
    | _, _ => none) = _
  rw [py_strs, e2]
  simp only [PyData.plain, h1, PyData.depth, h2]
  simp
theorem x_nin_names {st : Store} {x : Str} {ss : List Str} {B : Bool → Prop} : EX (cmpD st .nin (.str x) (.tup (ss.map .str))) B ↔ B (!decide (x ∈ ss)) := EX_eq (by
  show (inD st (.str x) (.tup (ss.map .str))).map (!·) = _
  rw [in_names] <;> rfl)
theorem get_top {st : Store} {o : MO} : (st ++ [o])[st.length]? = some o := by
  rw [List.getElem?_append_right (Nat.le_refl _)]
  simp
theorem set_top {st : Store} {o o' : MO} : (st ++ [o]).set st.length o' = st ++ [o'] := by
  rw [List.set_append_right _ _ (Nat.le_refl _)]
  simp
theorem lastN {α : Type} {xs : List α} {q : α} (h : xs.getLast? = some q) : L2.ixN xs.length (-1) = some (xs.length - 1) ∧ xs[xs.length - 1]? = some q := by
  have hne : xs ≠ [] := fun e => by rw [e] at h; cases h
  have hpos : 0 < xs.length := List.length_pos_iff.mpr hne
  refine ⟨?_, by rw [← List.getLast?_eq_getElem?, h]⟩
  unfold L2.ixN
  simp
  omega
/-- [e for .. in ..], by values, of the images of things -/
theorem lc_mapM {Γ : Tx} {cf : CF} {env : Env} {st : Store} {α : Type} {own : List Nat} {t : Tg} {k : IK} {its : List E} {e : E} {ds : List D} (f h : α → D) (as : List α) (he : evs Γ cf its env st = .ok ds st) (hw : walkD st k ds = some (as.map f)) (hl : as.length ≤ 16777216)
    (hx : ∀ a ∈ as, EX (asgT st t (f a) (wipeE env own)) fun env' => ev Γ cf e env' st = .ok (h a) st) : ev Γ cf (.lc own t k its .nul e) env st = .ok (.lst (as.map h)) st := by
  have key : ∀ (F : D → Store → R (Option D)) (as : List α), (∀ a ∈ as, F (f a) st = .ok (some (h a)) st) → lcL F (as.map f) st = .ok (as.map h) st := fun F as => by
    induction as with
    | nil => exact fun _ => rfl
    | cons a as ih =>
      intro hF
      rw [List.map_cons, lcL, hF a (by simp)]
      show (lcL F (as.map f) st).bind _ = _
      rw [ih fun b hb => hF b (List.mem_cons_of_mem _ hb)] <;> rfl
  have : WPE xF (ev Γ cf (.lc own t k its .nul e) env st) fun d s => d = .lst (as.map h) ∧ s = st := by
    rw [w_lcD, he, WP_ok]
    refine ⟨_, hw, ?_⟩
    rw [key _ as fun a ha => ?_, WP_ok]
    · exact ⟨still_refl, by rw [List.length_map, sz]; exact hl, rfl, rfl⟩
    · obtain ⟨env', h1, h2⟩ := hx a ha
      rw [if_pos still_refl, h1]
      unfold lcTurn
      simp only [E.nulB, if_true]
      show ((ev Γ cf e env' st).bind fun d st => .ok (some d) st) = _
      rw [h2] <;> rfl
  obtain ⟨a, s, e, rfl, rfl⟩ := WP_get this
  exact e
theorem cut_tail {α : Type} (a : α) (l : List α) : cutL (a :: l) (some 1) none = l := by
  have e : (1 : Int) = ((1 : Nat) : Int) := rfl
  unfold cutL
  rw [HT.sIx_none, e, HT.sIx_nat]
  have e2 : min 1 (a :: l).length = 1 := by simp only [List.length_cons]; omega
  rw [e2]
  exact List.take_of_length_le (by simp)
theorem get_mid {st new : Store} {o : MO} : (st ++ [o] ++ new)[st.length]? = some o := by
  rw [List.getElem?_append_left (by simp), get_top]
/-- [e for .. in .. if c], by values, of the images of things -/
theorem lc_filtM {Γ : Tx} {cf : CF} {env : Env} {st : Store} {α : Type} {own : List Nat} {t : Tg} {k : IK} {its : List E} {c e : E} {ds : List D} (f h : α → D) (p : α → Bool) (as : List α) (he : evs Γ cf its env st = .ok ds st) (hw : walkD st k ds = some (as.map f)) (hl : as.length ≤ 16777216) (hc : c.nulB = false)
    (hx : ∀ a ∈ as, EX (asgT st t (f a) (wipeE env own)) fun env' => ev Γ cf c env' st = .ok (.bl (p a)) st ∧ (p a = true → ev Γ cf e env' st = .ok (h a) st)) : ev Γ cf (.lc own t k its c e) env st = .ok (.lst ((as.filter p).map h)) st := by
  have key : ∀ (F : D → Store → R (Option D)) (as : List α), (∀ a ∈ as, F (f a) st = .ok (if p a = true then some (h a) else none) st) → lcL F (as.map f) st = .ok ((as.filter p).map h) st := fun F as => by
    induction as with
    | nil => exact fun _ => rfl
    | cons a as ih =>
      intro hF
      rw [List.map_cons, lcL, hF a (by simp)]
      show (lcL F (as.map f) st).bind _ = _
      rw [ih fun b hb => hF b (List.mem_cons_of_mem _ hb), List.filter_cons]
      cases p a <;> rfl
  have : WPE xF (ev Γ cf (.lc own t k its c e) env st) fun d s => d = .lst ((as.filter p).map h) ∧ s = st := by
    rw [w_lcD, he, WP_ok]
    refine ⟨_, hw, ?_⟩
    rw [key _ as fun a ha => ?_, WP_ok]
    · exact ⟨still_refl, by rw [List.length_map, sz]; exact Nat.le_trans (List.length_filter_le _ _) hl, rfl, rfl⟩
    · obtain ⟨env', h1, h2, h3⟩ := hx a ha
      rw [if_pos still_refl, h1]
      unfold lcTurn
      simp only [hc, Bool.false_eq_true, if_false]
      rw [h2]
      show (if p a = true then (ev Γ cf e env' st).bind fun d st => .ok (some d) st else .ok none st) = _
      cases hp : p a with
      | true => rw [if_pos rfl, if_pos rfl, h3 hp] <;> rfl
      | false => rfl
  obtain ⟨a, s, e, rfl, rfl⟩ := WP_get this
  exact e
/-- [e for .. in .. if c]: J stays true of the store, P holds of each value -/
theorem w_lcJC {Γ : Tx} {cf : CF} {env : Env} {st : Store} {Q : D → Store → Prop} {own : List Nat} {t : Tg} {k : IK} {its : List E} {c e : E} {ds xs : List D} (J : Store → Prop) (P : D → Prop) (h : evs Γ cf its env st = .ok ds st) (hw : walkD st k ds = some xs) (hr : refsOf ds = []) (hl : xs.length ≤ 16777216) (hc : c.nulB = false) (hJ : J st)
    (hx : ∀ x ∈ xs, ∀ s, J s → EX (asgT s t x (wipeE env own)) fun env' => WPE xF (ev Γ cf c env' s) fun d s' => EB d fun b => J s' ∧ (b = true → WPE xF (ev Γ cf e env' s') fun d s'' => J s'' ∧ P d)) (hq : ∀ rs s, J s → rs.length ≤ xs.length → (∀ d ∈ rs, P d) → Q (.lst rs) s) : WPE xF (ev Γ cf (.lc own t k its c e) env st) Q := by
  rw [w_lcD, h, WP_ok]
  refine ⟨xs, hw, ?_⟩
  have hs : ∀ a b, still (refsOf ds) a b = true := fun a b => still_ok.mpr fun k hk => by rw [hr] at hk; cases hk
  refine WP_lcL (fun rest acc s => J s ∧ acc.length + rest.length ≤ xs.length ∧ (∀ d ∈ acc, P d) ∧ ∀ x ∈ rest, x ∈ xs) (fun x rest acc s hh => ?_) xs [] st ⟨hJ, by simp, by simp, fun _ h => h⟩ fun acc s hh => ?_
  · obtain ⟨h1, h2, h3, h4⟩ := hh
    obtain ⟨env', g1, g2⟩ := hx x (h4 x (by simp)) s h1
    rw [if_pos (hs _ _), g1]
    unfold lcTurn
    simp only [hc, Bool.false_eq_true, if_false]
    rw [WP_bind, WP_test]
    refine g2.imp fun d s' ⟨b, e1, q1, q2⟩ => ⟨b, e1, ?_⟩
    simp only [List.length_cons] at h2
    cases b with
    | true =>
      rw [if_pos rfl, WP_bind]
      refine (q2 rfl).imp fun d2 s'' ⟨z1, z2⟩ => ⟨z1, by simp only [List.length_append, List.length_cons, List.length_nil]; omega, fun y hy => ?_, fun y hy => h4 y (List.mem_cons_of_mem _ hy)⟩
      rcases List.mem_append.mp hy with hy | hy
      · exact h3 y hy
      · rw [List.mem_singleton.mp hy]; exact z2
    | false => exact ⟨q1, by simp only [List.append_nil]; omega, fun y hy => h3 y (by simpa using hy), fun y hy => h4 y (List.mem_cons_of_mem _ hy)⟩
  · obtain ⟨h1, h2, h3, _⟩ := hh
    simp only [List.nil_append] at h2 h3
    have h2 : acc.length ≤ xs.length := by simpa using h2
    exact ⟨hs _ _, by rw [sz]; omega, hq acc s h1 h2 h3⟩
/-- [x for x in .. if c]: what comes stands in the same order -/
theorem w_lcS {Γ : Tx} {cf : CF} {env : Env} {st : Store} {Q : D → Store → Prop} {own : List Nat} {t : Tg} {k : IK} {its : List E} {c e : E} {ds xs : List D} (J : Store → Prop) (h : evs Γ cf its env st = .ok ds st) (hw : walkD st k ds = some xs) (hr : refsOf ds = []) (hl : xs.length ≤ 16777216) (hc : c.nulB = false) (hJ : J st)
    (hx : ∀ x ∈ xs, ∀ s, J s → EX (asgT s t x (wipeE env own)) fun env' => WPE xF (ev Γ cf c env' s) fun d s' => EB d fun b => J s' ∧ (b = true → WPE xF (ev Γ cf e env' s') fun d s'' => J s'' ∧ d = x)) (hq : ∀ rs s, J s → List.Sublist rs xs → Q (.lst rs) s) : WPE xF (ev Γ cf (.lc own t k its c e) env st) Q := by
  rw [w_lcD, h, WP_ok]
  refine ⟨xs, hw, ?_⟩
  have hs : ∀ a b, still (refsOf ds) a b = true := fun a b => still_ok.mpr fun k hk => by rw [hr] at hk; cases hk
  refine WP_lcL (fun rest acc s => J s ∧ ∃ dn, xs = dn ++ rest ∧ List.Sublist acc dn) (fun x rest acc s hh => ?_) xs [] st ⟨hJ, [], rfl, List.Sublist.slnil⟩ fun acc s hh => ?_
  · obtain ⟨h1, dn, h2, h3⟩ := hh
    obtain ⟨env', g1, g2⟩ := hx x (by rw [h2]; simp) s h1
    rw [if_pos (hs _ _), g1]
    unfold lcTurn
    simp only [hc, Bool.false_eq_true, if_false]
    rw [WP_bind, WP_test]
    refine g2.imp fun d s' ⟨b, e1, q1, q2⟩ => ⟨b, e1, ?_⟩
    cases b with
    | true =>
      rw [if_pos rfl, WP_bind]
      refine (q2 rfl).imp fun d2 s'' ⟨z1, z2⟩ => ?_
      subst z2
      exact ⟨z1, dn ++ [d2], by rw [h2]; simp, h3.append (List.Sublist.refl _)⟩
    | false => exact ⟨q1, dn ++ [x], by rw [h2]; simp, by simpa using h3.trans (List.sublist_append_left dn [x])⟩
  · obtain ⟨h1, dn, h2, h3⟩ := hh
    have h2 : xs = dn := by rw [h2]; simp
    have h3 : List.Sublist acc xs := by rw [h2]; simpa using h3
    exact ⟨hs _ _, by rw [sz]; exact Nat.le_trans h3.length_le hl, hq acc s h1 h3⟩
theorem x_in_names {st : Store} {x : Str} {ss : List Str} {B : Bool → Prop} : EX (cmpD st .isin (.str x) (.tup (ss.map .str))) B ↔ B (decide (x ∈ ss)) := EX_eq (in_names x ss)
theorem at_nat {α : Type} {xs : List α} {r : Int} (h0 : 0 ≤ r) (h1 : r < (xs.length : Int)) : L2.ixN xs.length r = some r.toNat ∧ ∃ x, xs[r.toNat]? = some x ∧ x ∈ xs := by
  have hl : r.toNat < xs.length := by omega
  refine ⟨?_, xs[r.toNat], List.getElem?_eq_getElem hl, List.getElem_mem hl⟩
  unfold L2.ixN
  simp [h0, h1]
theorem map_erase {α β : Type} (f : α → β) : ∀ (xs : List α) (n : Nat), (xs.map f).eraseIdx n = (xs.eraseIdx n).map f
  | [], _ => rfl
  | _ :: _, 0 => rfl
  | x :: xs, n + 1 => by simp only [List.map_cons, List.eraseIdx_cons_succ, map_erase f xs n]
theorem erase_perm {α : Type} : ∀ (xs : List α) (n : Nat) (h : n < xs.length), (xs[n] :: xs.eraseIdx n).Perm xs
  | x :: xs, 0, _ => List.Perm.refl _
  | x :: xs, n + 1, h => by
    simp only [List.length_cons] at h
    simp only [List.getElem_cons_succ, List.eraseIdx_cons_succ]
    exact (List.Perm.swap x xs[n] _).trans ((erase_perm xs n (by omega)).cons x)
theorem filt_sub {L l : List Str} (h : List.Sublist l L) : L.Nodup → L.filter (fun x => decide (x ∈ l)) = l := by
  induction h with
  | slnil => exact fun _ => rfl
  | cons a h ih =>
    intro nd
    obtain ⟨n1, n2⟩ := List.nodup_cons.mp nd
    rw [List.filter_cons_of_neg (by simpa using fun ha => n1 (h.subset ha))]
    exact ih n2
  | cons_cons a h ih =>
    rename_i l L
    intro nd
    obtain ⟨n1, n2⟩ := List.nodup_cons.mp nd
    rw [List.filter_cons_of_pos (by simp)]
    congr 1
    rw [List.filter_congr (q := fun x => decide (x ∈ l)) fun x hx => decide_eq_decide.mpr ?_]
    · exact ih n2
    · rw [List.mem_cons]
      exact ⟨fun h => h.elim (fun e => (n1 (e ▸ hx)).elim) id, .inr⟩
theorem idx_last {st : Store} {k : Nat} {xs : List D} {q : D} (hk : st[k]? = some (.lst xs)) (h : xs.getLast? = some q) : idxD st (.ref k) (.int (-1)) = some q := by
  obtain ⟨h1, h2⟩ := lastN h
  rw [idx_at hk]
  unfold L2.atI
  rw [h1]
  exact h2
theorem get_mid2 {st g : Store} {o : MO} : (st ++ o :: g)[st.length]? = some o := by
  rw [List.getElem?_append_right (Nat.le_refl _)]
  simp
theorem set_mid2 {st g : Store} {o o' : MO} : (st ++ o :: g).set st.length o' = st ++ o' :: g := by
  rw [List.set_append_right _ _ (Nat.le_refl _)]
  simp
theorem x_at3 {α : Type} {a b c d : α} {xs : List α} {P : α → Prop} : EX (L2.atI (a :: b :: c :: d :: xs) 3) P ↔ P d := EX_eq (by rw [atI_nat (by decide) (by simp)] <;> rfl)
theorem x_at4 {α : Type} {a b c d e : α} {xs : List α} {P : α → Prop} : EX (L2.atI (a :: b :: c :: d :: e :: xs) 4) P ↔ P e := EX_eq (by rw [atI_nat (by decide) (by simp)] <;> rfl)
theorem x_at5 {α : Type} {a b c d e f : α} {xs : List α} {P : α → Prop} : EX (L2.atI (a :: b :: c :: d :: e :: f :: xs) 5) P ↔ P f := EX_eq (by rw [atI_nat (by decide) (by simp)] <;> rfl)
theorem x_at6 {α : Type} {a b c d e f g : α} {xs : List α} {P : α → Prop} : EX (L2.atI (a :: b :: c :: d :: e :: f :: g :: xs) 6) P ↔ P g := EX_eq (by rw [atI_nat (by decide) (by simp)] <;> rfl)
theorem x_at7 {α : Type} {a b c d e f g h : α} {xs : List α} {P : α → Prop} : EX (L2.atI (a :: b :: c :: d :: e :: f :: g :: h :: xs) 7) P ↔ P h := EX_eq (by rw [atI_nat (by decide) (by simp)] <;> rfl)
theorem x_at8 {α : Type} {a b c d e f g h i : α} {xs : List α} {P : α → Prop} : EX (L2.atI (a :: b :: c :: d :: e :: f :: g :: h :: i :: xs) 8) P ↔ P i := EX_eq (by rw [atI_nat (by decide) (by simp)] <;> rfl)
def ST (l : List Nat) : Str := ⟨l.toArray⟩
theorem st_app (a b : List Nat) : ST a ++ ST b = ST (a ++ b) := PySem.Str.ext' (by rw [PySem.Str.cps_append]; simp [ST])
theorem st_len (l : List Nat) : (ST l).length = l.length := by show l.toArray.size = _; simp
theorem st_list (l : List Nat) : (ST l).cps.toList = l := by simp [ST]
theorem st_nil : Str.ofString "" = ST [] := rfl
theorem x_ne_b {st : Store} {a b : Bool} {B : Bool → Prop} : EX (cmpD st .ne (.bl a) (.bl b)) B ↔ B (!decide (a = b)) := EX_eq (by cases a <;> cases b <;> rfl)
theorem x_eq_b {st : Store} {a b : Bool} {B : Bool → Prop} : EX (cmpD st .eq (.bl a) (.bl b)) B ↔ B (decide (a = b)) := EX_eq (by cases a <;> cases b <;> rfl)
theorem join_st (s : List Nat) (ts : List (List Nat)) : Txt.join (ST s) (ts.map ST) = ST (TL.joinL s ts) := by
  have h : TL.tl (Txt.join (ST s) (ts.map ST)) = TL.joinL s ts := by
    rw [TL.join_eq, TL.tl_join]
    have e1 : TL.tl (ST s) = s := st_list s
    have e2 : (ts.map ST).map TL.tl = ts := by
      rw [List.map_map]
      conv => rhs; rw [← List.map_id ts]
      exact List.map_congr_left fun t _ => st_list t
    rw [e1, e2]
  rw [← h]
  exact (TL.mk_tl _).symm
theorem joinL_nil : ∀ ts : List (List Nat), TL.joinL [] ts = ts.flatten
  | [] => rfl
  | [t] => by simp [TL.joinL]
  | t :: t2 :: ts => by
    show t ++ ([] ++ TL.joinL [] (t2 :: ts)) = _
    rw [joinL_nil (t2 :: ts), List.nil_append, List.flatten_cons (l := t)]
theorem joinL_sum (s : List Nat) : ∀ ts : List (List Nat), (TL.joinL s ts).length ≤ (ts.map List.length).sum + ts.length * s.length
  | [] => Nat.zero_le _
  | [t] => by
    show t.length ≤ (t.length + 0) + _
    omega
  | t :: t2 :: ts => by
    have ih := joinL_sum s (t2 :: ts)
    have e : (t :: t2 :: ts).length * s.length = (t2 :: ts).length * s.length + s.length := by rw [List.length_cons (a := t), Nat.add_mul, Nat.one_mul]
    rw [e, List.map_cons, List.sum_cons]
    show (t ++ (s ++ TL.joinL s (t2 :: ts))).length ≤ _
    rw [List.length_append, List.length_append]
    omega
theorem strsD_st : ∀ ts : List (List Nat), strsD (ts.map fun t => D.str (ST t)) = some (ts.map ST)
  | [] => rfl
  | t :: ts => by simp only [List.map_cons, strsD, strsD_st ts, Option.map_some]
theorem join_bm {st : Store} {d : D} {s : List Nat} {ts : List (List Nat)} (h : seqD st d = some (ts.map fun t => D.str (ST t))) (hl : (ts.map List.length).sum + ts.length * s.length ≤ 16777216) : bmD st .join (.str (ST s)) [d] = some (.str (ST (TL.joinL s ts))) := by
  have h1 := joinL_sum s ts
  have h2 : ((ts.map ST).map (·.length)).sum = (ts.map List.length).sum := by
    rw [List.map_map]
    exact congrArg List.sum (List.map_congr_left fun t _ => st_len t)
  simp only [bmD, h, Option.bind_some, strsD_st, join_st]
  rw [if_pos]
  rw [Bool.and_eq_true]
  refine ⟨decide_eq_true ?_, decide_eq_true ?_⟩
  · rw [h2, List.length_map, st_len]
    exact hl
  · rw [st_len, sz]
    omega
theorem eq_nilP {st : Store} {c : Nat} {xs : List D} (h : st[c]? = some (.lst xs)) (hp : Pn1s xs = true) : cmpD st .eq (.ref c) (.lst []) = some xs.isEmpty := by
  have e : (eqD st (.ref c) (.lst [])).map (!·) = some (!xs.isEmpty) := ne_nilP h hp
  show eqD st (.ref c) (.lst []) = some xs.isEmpty
  cases h2 : eqD st (.ref c) (.lst []) with
  | none => rw [h2] at e; cases e
  | some b =>
    rw [h2] at e
    have e : (!b) = !xs.isEmpty := by simpa using e
    cases b <;> cases hx : xs.isEmpty <;> simp_all
theorem s_whlI {Γ : Cip.Tx} {cf : CF} {env : Env} {st : Store} {N : Env → Store → Prop} {V : D → Store → Prop} {c : E} {body : List S} (I : Nat → Env → Store → Prop) (m : Nat) (hm : m < 1000000) (h0 : I m env st)
    (step : ∀ m env st, I m env st → WPE xq (ev Γ cf c env st) fun d st' => EB d fun r => (r = true → WSE xq (runs Γ cf body env st') (fun e s => ∃ m', m' < m ∧ I m' e s) V) ∧ (r = false → N env st')) : WSE xq (run Γ cf (.whl c body) env st) N V := by
  rw [s_whlD]
  refine WS_while I (fun m env st h => ?_) 1000000 m env st hm h0
  rw [WP_test]
  refine (step m env st h).imp fun d s ⟨b, e, q⟩ => ⟨b, e, ?_⟩
  cases b with
  | true => rw [if_pos rfl]; exact q.1 rfl
  | false => rw [if_neg (by simp)]; exact q.2 rfl
theorem at_pre {α : Type} {pre cs : List α} {c : α} : (pre ++ c :: cs)[pre.length]? = some c := by
  rw [List.getElem?_append_right (Nat.le_refl _)]
  simp
theorem in_namesL {st : Store} (x : Str) (ss : List Str) : inD st (.str x) (.lst (ss.map .str)) = some (decide (x ∈ ss)) := by
  have e := in_names (st := st) x ss
  have key : ∀ ss : List Str, pysW (pyR 8 st) (ss.map .str) = some (ss.map PyData.str) := fun ss => by
    induction ss with
    | nil => rfl
    | cons s ss ih => simp only [List.map_cons, pysW, pyW, ih]
  have p1 : py st (.tup (ss.map .str)) = some (.tuple (ss.map PyData.str)) := py_strs ss
  have p2 : py st (.lst (ss.map .str)) = some (.list (ss.map PyData.str)) := by
    show (pysW (pyR 8 st) (ss.map .str)).map PyData.list = _
    rw [key] <;> rfl
  have e2 : py st (.str x) = some (.str x) := rfl
  show (match py st (.lst (ss.map .str)), py st (.str x) with
    | some (.list ps), some d => if d.plain && PyData.plainAll ps && decide (min (PyData.depthAll ps) d.depth ≤ 100) then some (ps.any fun y => PyData.eqv y d) else none
    | some (.tuple ps), some d => if d.plain && PyData.plainAll ps && decide (min (PyData.depthAll ps) d.depth ≤ 100) then some (ps.any fun y => PyData.eqv y d) else none
    | _, _ => none) = _
  rw [p2, e2]
  have e : (match py st (.tup (ss.map .str)), py st (.str x) with
    | some (.list ps), some d => if d.plain && PyData.plainAll ps && decide (min (PyData.depthAll ps) d.depth ≤ 100) then some (ps.any fun y => PyData.eqv y d) else none
    | some (.tuple ps), some d => if d.plain && PyData.plainAll ps && decide (min (PyData.depthAll ps) d.depth ≤ 100) then some (ps.any fun y => PyData.eqv y d) else none
    | _, _ => none) = some (decide (x ∈ ss)) := e
  rw [p1, e2] at e
  exact e
theorem st_ne {w : List Nat} : ST w = Str.ofString "" ↔ w = [] := by
  constructor
  · intro h
    have h2 : w = (Str.ofString "").cps.toList := by rw [← h, st_list]
    rw [h2]
    decide
  · intro h
    rw [h]
    rfl
theorem nb_fld {α : Type} {c f : Nat} {a : E} {x y : R α} {Q : α → Store → Prop} : WBE xq (E.nulB (.fld c a f)) x y Q ↔ WPE xq y Q := Iff.rfl
theorem idx_line {st : Store} {pre cs : List Nat} {c : Nat} {i : Int} (hi : i = pre.length) : idxD st (.str (ST (pre ++ c :: cs))) (.int i) = some (.str ⟨#[c]⟩) := by
  subst hi
  show (ixD (ST (pre ++ c :: cs)).cps.toList (pre.length : Int)).map (fun c => D.str ⟨#[c]⟩) = _
  rw [st_list]
  unfold ixD
  rw [atI_nat (by omega) (by simp), show ((pre.length : Int)).toNat = pre.length by omega, at_pre]
  rfl
theorem cut_line {l : List Nat} {i j : Int} {k : Nat} (hi : i = k) (hj : j = k + 1) : L2.cutS (ST l) (some i) (some j) = ST ((l.drop k).take 1) := by
  subst hi hj
  have e2 : ((k : Int) + 1) = ((k + 1 : Nat) : Int) := by omega
  unfold L2.cutS
  rw [e2, HT.sIx_nat, HT.sIx_nat, st_len, st_list]
  show ST _ = ST _
  congr 1
  by_cases h : k < l.length
  · rw [Nat.min_eq_left (by omega), Nat.min_eq_left (by omega), show k + 1 - k = 1 by omega]
  · rw [Nat.min_eq_right (by omega), Nat.min_eq_right (by omega), List.drop_of_length_le (l := l) (i := k) (by omega), List.drop_of_length_le (Nat.le_refl _)]
    simp
theorem take1 {l : List Nat} {d : Nat} {a : Nat} : (l.drop d).take 1 = [a] ↔ l[d]? = some a := by
  by_cases h : d < l.length
  · rw [List.drop_eq_getElem_cons h, List.getElem?_eq_getElem h, List.take_succ_cons, List.take_zero]
    exact ⟨fun e => by cases e; rfl, fun e => by cases e; rfl⟩
  · rw [List.drop_of_length_le (by omega), List.getElem?_eq_none (by omega)]
    simp
theorem x_in2 {st : Store} {x a b : Str} {B : Bool → Prop} : EX (cmpD st .isin (.str x) (.tup [.str a, .str b])) B ↔ B (decide (x ∈ [a, b])) := EX_eq (in_names (st := st) x [a, b])
theorem joinL_le {S : List Nat} : ∀ (ts : List (List Nat)) (t : List Nat), t ∈ ts → t.length ≤ (TL.joinL S ts).length
  | [], _, h => (List.not_mem_nil h).elim
  | [t], t', h => by rw [List.mem_singleton.mp h]; exact Nat.le_refl _
  | t :: t2 :: ts, t', h => by
    show _ ≤ (t ++ (S ++ TL.joinL S (t2 :: ts))).length
    rw [List.length_append, List.length_append]
    rcases List.mem_cons.mp h with rfl | h
    · omega
    · have := joinL_le (S := S) (t2 :: ts) t' h
      omega
theorem joinL_mem {P : Nat → Prop} {S : List Nat} (hS : ∀ c ∈ S, P c) : ∀ ts : List (List Nat), (∀ t ∈ ts, ∀ c ∈ t, P c) → ∀ c ∈ TL.joinL S ts, P c
  | [], _ => fun _ h => (List.not_mem_nil h).elim
  | [t], h => h t (by simp)
  | t :: t2 :: ts, h => fun c hc => by
    have hc : c ∈ t ++ (S ++ TL.joinL S (t2 :: ts)) := hc
    rcases List.mem_append.mp hc with hc | hc
    · exact h t (by simp) c hc
    · rcases List.mem_append.mp hc with hc | hc
      · exact hS c hc
      · exact joinL_mem hS (t2 :: ts) (fun t ht => h t (List.mem_cons_of_mem _ ht)) c hc
theorem joinL_len {S : List Nat} {b : Nat} : ∀ ts : List (List Nat), (∀ t ∈ ts, t.length ≤ b) → (TL.joinL S ts).length ≤ ts.length * (b + S.length)
  | [], _ => Nat.zero_le _
  | [t], h => by
    have := h t (by simp)
    show t.length ≤ 1 * _
    omega
  | t :: t2 :: ts, h => by
    have h1 := h t (by simp)
    have h2 := joinL_len (S := S) (b := b) (t2 :: ts) fun t ht => h t (List.mem_cons_of_mem _ ht)
    have e : (t :: t2 :: ts).length * (b + S.length) = (t2 :: ts).length * (b + S.length) + (b + S.length) := by
      rw [List.length_cons (a := t), Nat.add_mul, Nat.one_mul]
    rw [e]
    show (t ++ (S ++ TL.joinL S (t2 :: ts))).length ≤ _
    rw [List.length_append, List.length_append]
    omega
theorem in_list {st : Store} {k : Nat} (x : Str) {ss : List Str} (h : st[k]? = some (.lst (ss.map .str))) : inD st (.str x) (.ref k) = some (decide (x ∈ ss)) := by
  have e0 : ∀ ss : List Str, pysW (pyR 7 st) (ss.map .str) = some (ss.map PyData.str) := fun ss => by
    induction ss with
    | nil => rfl
    | cons s ss ih => simp only [List.map_cons, pysW, pyW, ih]
  have e1 : py st (.ref k) = some (.list (ss.map PyData.str)) := by
    show (match st[k]? with
      | some (.lst xs) => (pysW (pyR 7 st) xs).map PyData.list
      | some (.dct false [] _) => some (PyData.dict [])
      | _ => none) = _
    rw [h]
    simp only [e0, Option.map_some]
  have h1 : ∀ ss : List Str, PyData.plainAll (ss.map PyData.str) = true := fun ss => by
    induction ss with
    | nil => rfl
    | cons s ss ih => simp only [List.map_cons, PyData.plainAll, PyData.plain, ih, Bool.and_self]
  have h2 : ∀ ss : List Str, ((ss.map PyData.str).any fun y => PyData.eqv y (.str x)) = decide (x ∈ ss) := fun ss => by
    induction ss with
    | nil => rfl
    | cons s ss ih =>
      rw [List.map_cons, List.any_cons, ih]
      simp only [PyData.eqv]
      rw [Bool.eq_iff_iff, Bool.or_eq_true, decide_eq_true_eq, decide_eq_true_eq, beq_iff_eq, List.mem_cons]
      exact ⟨fun h => h.imp Eq.symm id, fun h => h.imp Eq.symm id⟩
  have e2 : py st (.str x) = some (.str x) := rfl
  show (match py st (.ref k), py st (.str x) with
    | some (.list ps), some d => if d.plain && PyData.plainAll ps && decide (min (PyData.depthAll ps) d.depth ≤ 100) then some (ps.any fun y => PyData.eqv y d) else none
    | some (.tuple ps), some d => if d.plain && PyData.plainAll ps && decide (min (PyData.depthAll ps) d.depth ≤ 100) then some (ps.any fun y => PyData.eqv y d) else none
    | _, _ => none) = _
  rw [e1, e2]
  simp only [PyData.plain, h1, PyData.depth, h2]
  simp
theorem strsD_map : ∀ ss : List Str, strsD (ss.map .str) = some ss
  | [] => rfl
  | s :: ss => by simp only [List.map_cons, strsD, strsD_map ss, Option.map_some]
theorem l_fst {Γ : Cip.Tx} {cf : CF} {env : Env} {st : Store} {Q : D → Store → Prop} {es : List E} : WPE xq (ev Γ cf (.fst es) env st) Q ↔ WPE xq (evF Γ cf es Str.empty env st) Q := by simp only [ev]
theorem l_fst0 {Γ : Cip.Tx} {cf : CF} {env : Env} {st : Store} {Q : D → Store → Prop} {acc : Str} : WPE xq (evF Γ cf [] acc env st) Q ↔ Q (.str acc) st := by simp only [evF, WP_ok]
theorem l_fst1 {Γ : Cip.Tx} {cf : CF} {env : Env} {st : Store} {Q : D → Store → Prop} {e : E} {es : List E} {acc : Str} : WPE xq (evF Γ cf (e :: es) acc env st) Q ↔ WPE xq (ev Γ cf e env st) fun d st => EX (strD d) fun y => (acc ++ y).length ≤ 16777216 ∧ WPE xq (evF Γ cf es (acc ++ y) env st) Q := by
  simp only [evF, WP_bind]
  have key : ∀ (d : D) (s : Store), WPE xq (match strD d with
    | some y => if (acc ++ y).length ≤ sizeLine then evF Γ cf es (acc ++ y) env s else .stk
    | none => .stk : R D) Q ↔ EX (strD d) fun y => (acc ++ y).length ≤ 16777216 ∧ WPE xq (evF Γ cf es (acc ++ y) env s) Q := fun d s => by
    cases strD d with
    | none => exact ⟨fun h => h.elim, fun ⟨_, e, _⟩ => (nomatch e)⟩
    | some y =>
      rw [EX_some]
      dsimp only
      rw [sz]
      by_cases h : (acc ++ y).length ≤ 16777216
      · rw [if_pos h]; simp [h]
      · rw [if_neg h]; simp [h, WPE]
  exact ⟨fun h => h.imp fun d s q => (key d s).mp q, fun h => h.imp fun d s q => (key d s).mpr q⟩
theorem x_sd_s {x : Str} {P : Str → Prop} : EX (strD (.str x)) P ↔ P x := EX_some
theorem x_int_s {st : Store} {x : Str} {P : D → Prop} : EX (biD st .int [.str x]) P ↔ x.length ≤ 640 ∧ EX (PySem.intText? x) fun i => P (.int i) := by
  show EX (if x.length ≤ 640 then (PySem.intText? x).map D.int else none) P ↔ _
  by_cases h : x.length ≤ 640
  · rw [if_pos h, EX_map]; simp [h]
  · rw [if_neg h, EX_none]; simp [h]
end Cip

set_option maxHeartbeats 0
namespace Cip
open PySem PySem.Spec PyProof.Rows L2
namespace Law
def cons : List (Str × D) := []
/-- _law_churned -/
def f0 : FT := ⟨"_law_churned", ["seed", "lap", "prime", "amount", "again"], 2, [
  .asg (.nm 2) (.int 2305843009213693921),
  .asg (.nm 3) (.bin .mod (.bin .add (.bin .add (.bin .mul (.var 0) (.int 6364136223846793005)) (.bin .mul (.var 1) (.int 1442695040888963407))) (.int 41)) (.var 2)),
  .for (.nm 4) .rng1 [(.int 4)] [.asg (.nm 3) (.bin .mod (.bin .add (.bin .add (.bin .add (.bin .mul (.var 3) (.var 3)) (.bin .mul (.int 7) (.var 3))) (.bin .mul (.int 8191) (.var 4))) (.var 1)) (.var 2))],
  .ret (.bin .add (.bin .mul (.var 3) (.var 2)) (.bin .mod (.bin .add (.bin .mul (.var 3) (.int 48271)) (.var 1)) (.var 2)))], none⟩
/-- _law_urn_of -/
def f1 : FT := ⟨"_law_urn_of", ["script", "cells", "place", "cell"], 1, [
  .asg (.nm 1) (.mut (.lc [3] (.nm 3) .val [(.slc (.var 0) .nul (.int 18))] .nul (.bi .abs [(.var 3)]))),
  .for (.tup [(.nm 2), (.nm 3)]) .enum [(.slc (.var 0) (.int 18) (.int 60))] [.ssub (.var 1) (.bin .mod (.var 2) (.int 18)) (.bin .add (.idx (.var 1) (.bin .mod (.var 2) (.int 18))) (.bi .abs [(.var 3)]))],
  .ret (.mut (.lst [(.var 1), (.int 0), (.int 0), (.int 0)]))], none⟩
/-- _law_upto -/
def f2 : FT := ⟨"_law_upto", ["urn", "bound", "cells", "place", "amount", "found"], 2, [
  .ite (.cmp .lt (.idx (.var 0) (.int 3)) (.var 1)) [.asg (.tup [(.nm 2), (.nm 3)]) (.tup [(.idx (.var 0) (.int 0)), (.idx (.var 0) (.int 1))]), .asg (.nm 4) (.ite (.cmp .ne (.var 2) (.lst [])) (.idx (.var 2) (.bin .mod (.var 3) (.bi .len [(.var 2)]))) (.int 0)), .ite (.or [(.cmp .ge (.var 3) (.bi .len [(.var 2)])), (.cmp .lt (.var 4) (.bin .pow (.int 10) (.int 16)))]) [.asg (.nm 4) (.call 0 [(.bin .mod (.bi .int [(.var 4)]) (.int 982451653)), (.var 3)])] [], .ssub (.var 0) (.int 1) (.bin .add (.var 3) (.int 1)), .ssub (.var 0) (.int 2) (.var 4), .ssub (.var 0) (.int 3) (.var 4)] [],
  .asg (.nm 5) (.bin .mod (.bi .int [(.idx (.var 0) (.int 2))]) (.var 1)),
  .ssub (.var 0) (.int 2) (.bin .fdiv (.idx (.var 0) (.int 2)) (.var 1)),
  .ssub (.var 0) (.int 3) (.bin .fdiv (.idx (.var 0) (.int 3)) (.var 1)),
  .ret (.var 5)], none⟩
/-- _law_choice -/
def f3 : FT := ⟨"_law_choice", ["urn", "items"], 2, [
  .ret (.idx (.var 1) (.call 2 [(.var 0), (.bi .len [(.var 1)])]))], none⟩
/-- _law_equal -/
def f4 : FT := ⟨"_law_equal", ["one", "other"], 2, [
  .ret (.cmp .eq (.bi .repr [(.var 0)]) (.bi .repr [(.var 1)]))], none⟩
/-- _law_kinds_of -/
def f5 : FT := ⟨"_law_kinds_of", ["caught", "found"], 1, [
  .asg (.nm 1) (.lst [(.isi (.var 0) (.cls 1001)), (.isi (.var 0) (.cls 1002)), (.isi (.var 0) (.cls 1003))]),
  .asg (.nm 1) (.bin .add (.var 1) (.lst [(.isi (.var 0) (.cls 1004)), (.isi (.var 0) (.cls 1005)), (.isi (.var 0) (.cls 1006))])),
  .asg (.nm 1) (.bin .add (.var 1) (.lst [(.isi (.var 0) (.cls 1007)), (.isi (.var 0) (.cls 1008)), (.isi (.var 0) (.cls 1009))])),
  .asg (.nm 1) (.bin .add (.var 1) (.lst [(.isi (.var 0) (.cls 1010)), (.isi (.var 0) (.cls 1011)), (.isi (.var 0) (.cls 1012))])),
  .asg (.nm 1) (.bin .add (.var 1) (.lst [(.isi (.var 0) (.cls 1013)), (.isi (.var 0) (.cls 1014)), (.isi (.var 0) (.cls 1015))])),
  .asg (.nm 1) (.bin .add (.var 1) (.lst [(.isi (.var 0) (.cls 1016)), (.isi (.var 0) (.cls 1017)), (.isi (.var 0) (.cls 1018))])),
  .asg (.nm 1) (.bin .add (.var 1) (.lst [(.isi (.var 0) (.cls 1019)), (.isi (.var 0) (.cls 1020))])),
  .asg (.nm 1) (.bin .add (.var 1) (.lst [(.isi (.var 0) (.cls 1021)), (.isi (.var 0) (.cls 1022))])),
  .ret (.bin .add (.var 1) (.lst [(.isi (.var 0) (.cls 1000)), (.isi (.var 0) .verr)]))], none⟩
/-- law -/
def f6 : FT := ⟨"law", ["script", "urn", "line", "column", "limit", "other", "text", "closed", "feature", "form", "built", "again", "place", "error", "found", "turn", "number"], 1, [
  .asg (.nm 1) (.call 1 [(.var 0)]),
  .asg (.tup [(.nm 2), (.nm 3), (.nm 4), (.nm 5)]) (.lc [15] (.nm 15) .rng1 [(.int 4)] .nul (.call 2 [(.var 1), (.bin .pow (.int 10) (.int 6))])),
  .asg (.tup [(.nm 6), (.nm 7)]) (.tup [(.call 3 [(.var 1), (.lst [(.str ""), (.str "no"), (.str "a message")])]), (.slc (.tup [(.str "a"), (.str "b")]) .nul (.call 2 [(.var 1), (.int 3)]))]),
  .asg (.tup [(.nm 8), (.nm 9)]) (.tup [(.call 3 [(.var 1), (.lst [(.str "cells"), (.str "slant")])]), (.call 3 [(.var 1), (.lst [(.str "plain"), (.str "f1")])])]),
  .asg (.nm 10) (.mut (.lst [(.xnew 1001 [(.var 2), (.var 3)]), (.xnew 1002 [(.var 8)]), (.xnew 1003 [(.var 9), (.var 7)]), (.xnew 1004 [(.var 7)]), (.xnew 1005 [(.var 4)])])),
  .asg (.nm 10) (.mut (.bin .add (.var 10) (.lst [(.xnew 1006 [(.var 6)]), (.xnew 1007 [(.var 6)]), (.xnew 1008 [(.var 6)]), (.xnew 1009 [(.var 6)]), (.xnew 1010 [(.var 6)]), (.xnew 1011 [(.var 6)])]))),
  .asg (.nm 10) (.mut (.bin .add (.var 10) (.lst [(.xnew 1012 [(.var 6)]), (.xnew 1013 [(.var 6)]), (.xnew 1014 [(.var 6)]), (.xnew 1015 [(.var 6)]), (.xnew 1016 [(.var 6)])]))),
  .asg (.nm 10) (.mut (.bin .add (.var 10) (.lst [(.xnew 1017 [(.var 6)]), (.xnew 1018 [(.var 6)]), (.xnew 1019 [(.var 6)]), (.xnew 1020 [(.var 6)]), (.xnew 1021 [(.var 6)])]))),
  .exp (.app (.var 10) (.xnew 1022 [(.var 6)])),
  .asg (.nm 11) (.lst [(.xnew 1001 [(.var 5), (.var 4)]), (.xnew 1002 [(.str "bold")]), (.xnew 1003 [(.str "x"), (.tup [])]), (.xnew 1004 [(.tup [(.str "z")])]), (.xnew 1005 [(.var 5)])]),
  .for (.tup [(.nm 12), (.nm 13)]) .enum [(.var 10)] [.ite (.cmp .ne (.call 5 [(.var 13)]) (.bin .add (.lc [16] (.nm 16) .rng1 [(.int 22)] .nul (.cmp .eq (.var 16) (.var 12))) (.lst [(.bl true), (.bl true)]))) [.ret (.bl false)] []],
  .asg (.nm 14) (.lst [(.xfld (.idx (.var 10) (.int 0)) 0), (.xfld (.idx (.var 10) (.int 0)) 1), (.xfld (.idx (.var 10) (.int 1)) 2), (.xfld (.idx (.var 10) (.int 2)) 3), (.xfld (.idx (.var 10) (.int 2)) 4), (.xfld (.idx (.var 10) (.int 3)) 4)]),
  .ite (.cmp .ne (.bin .add (.var 14) (.lst [(.xfld (.idx (.var 10) (.int 4)) 5)])) (.lst [(.var 2), (.var 3), (.var 8), (.var 9), (.var 7), (.var 7), (.var 4)])) [.ret (.bl false)] [],
  .asg (.nm 14) (.lst [(.xfld (.idx (.var 11) (.int 0)) 0), (.xfld (.idx (.var 11) (.int 0)) 1), (.xfld (.idx (.var 11) (.int 1)) 2), (.xfld (.idx (.var 11) (.int 2)) 3), (.xfld (.idx (.var 11) (.int 2)) 4), (.xfld (.idx (.var 11) (.int 3)) 4)]),
  .ite (.cmp .ne (.bin .add (.var 14) (.lst [(.xfld (.idx (.var 11) (.int 4)) 5)])) (.lst [(.var 5), (.var 4), (.str "bold"), (.str "x"), (.tup []), (.tup [(.str "z")]), (.var 5)])) [.ret (.bl false)] [],
  .ret (.cmp .eq (.call 5 [(.xnew 1000 [(.var 6)])]) (.bin .add (.bin .mul (.lst [(.bl false)]) (.int 22)) (.lst [(.bl true), (.bl true)])))], none⟩
def tab : List FT := [f0, f1, f2, f3, f4, f5, f6]
abbrev sAt (i : Nat) : Stmt := (PySem.Challenge.pw_clipforms_k06_errors).main.body.getD i (.Pass ⟨0, 0, 0, 0⟩)
abbrev sIn (i j : Nat) : Stmt := clsSt (sAt i) j
def sts : List Stmt := [sAt 25, sAt 26, sAt 27, sAt 28, sAt 29, sAt 30, sAt 31]
def clss : ClS := { fl := ["line", "column", "feature", "form", "closed", "limit"], cs := [], xs := [("ClipError", [0]), ("SyntaxProblem", [1, 0]), ("NotCarried", [2, 0]), ("NotMakable", [3, 0]), ("Gone", [4, 0]), ("TooMany", [5, 0]), ("NoContent", [6, 0]), ("NoForm", [7, 0]), ("NoMaker", [8, 0]), ("NoProgram", [9, 0]), ("NoDocument", [10, 0]), ("NoEntry", [11, 0]), ("NoPlace", [12, 0]), ("NoMark", [13, 0]), ("NotOffered", [14, 0]), ("NameTaken", [15, 0]), ("TooLarge", [16, 0]), ("NothingToUndo", [17, 0]), ("EditedSince", [18, 0]), ("HistoryFull", [19, 0]), ("InvalidCommand", [20, 0]), ("NoDesk", [21, 0]), ("NoLink", [22, 0])], xd := [(1001, ⟨2, (.fst [(.str "line "), (.var 1), (.str ", column "), (.var 2)]), [(0, 0), (1, 1)]⟩), (1002, ⟨1, (.fst [(.str "the form does not carry "), (.var 1)]), [(2, 0)]⟩), (1003, ⟨2, (.fst [(.str "no chain leads to "), (.var 1)]), [(3, 0), (4, 1)]⟩), (1004, ⟨1, (.str "no text at hand gives the form"), [(4, 0)]⟩), (1005, ⟨1, (.fst [(.str "more than "), (.var 1)]), [(5, 0)]⟩)], file := "/claim/cut.py" }

end Law
end Cip

set_option maxHeartbeats 4000000
namespace Cip
open PySem
local macro_rules | `(tactic| walk_at "cip") => `(tactic| simp only [s_cons, s_nil, s_asg, s_ret, s_ite, s_exp, s_pass, w_non, w_bl, w_int, w_str, w_var, w_con, w_bin, w_neg, w_cmp, w_isn, w_notn, w_and, w_or, w_not, w_ite, w_tup, w_lst, w_idx, w_call, s_ssubD, s_forD, s_whlD, w_mutD, w_appD, mut_lst, asg_tup2, asg_tup3, int_i, len_l, len_t, len_s, idx_l, idx_t, tuple_l, w_bi, w_isi, w_evs, w_evs0, w_and0, w_and1, w_or0, w_or1, asg_nm, ex_some, ex_var, ex_int, ex_bl, startE, List.length_cons, List.length_nil, List.map_cons, List.map_nil, List.getElem?_cons_zero, List.getElem?_cons_succ, List.set_cons_zero, List.set_cons_succ, List.cons_append, List.nil_append, List.replicate, ex_ite, b_add_i, b_sub_i, b_mul_i, b_mod_i, b_div_i, b_pow_i, b_add_s, b_add_t, b_add_l, b_mul_s, b_mul_t, b_mul_l, c_lt_i, c_le_i, c_gt_i, c_ge_i, c_lt_s, c_le_s, c_eq_i, c_ne_i, c_eq_s, c_ne_s, WP_ok, WS_nx, WS_rt, true_and, and_true])
namespace Law
noncomputable abbrev cf (n : Nat) : CF := callN (txOf cons clss) (fnOfTab tab) n
theorem fmod_rng (a b : Int) (hb : 0 < b) : 0 ≤ a.fmod b ∧ a.fmod b < b := ⟨Int.fmod_nonneg_of_pos a hb, Int.fmod_lt_of_pos a hb⟩
theorem churned {n : Nat} {s l : Int} {st : Store} {Q : D → Store → Prop} (hs : -(2 ^ 64) < s ∧ s < 2 ^ 64) (hq : ∀ r, Q (.int r) st) : WPE xF (cf (n + 1) 0 [.int s, .int l] st) Q := by
  refine call_same (ft := f0) rfl rfl ?_
  unfold f0
  walk_at "cip"
  refine ⟨.inl hs, .inr (by decide), by decide, rngL 0 4, rfl, WS_loop (fun rest env st' => st' = st ∧ (∀ d ∈ rest, ∃ i, d = .int i) ∧ ∃ x a, env = [some (D.int s), some (D.int l), some (D.int 2305843009213693921), some (D.int a), x] ∧ 0 ≤ a ∧ a < 2305843009213693921)
    (fun rest env st' h => ?_) (fun x rest env st' h => ?_) (fun env st' h => ?_) _ _ _ ⟨rfl, ?_, _, _, rfl, fmod_rng _ _ (by decide)⟩⟩
  · obtain ⟨rfl, _⟩ := h
    exact still_refl
  · obtain ⟨rfl, h1, y, a, rfl, h2, h3⟩ := h
    obtain ⟨i, rfl⟩ := h1 x (by simp)
    walk_at "cip"
    have e : (2 : Int) ^ 64 = 18446744073709551616 := by decide
    exact ⟨.inl ⟨by omega, by omega⟩, .inl (by decide), .inl (by decide), by decide, fun d hd => h1 d (List.mem_cons_of_mem _ hd), _, _, rfl, fmod_rng _ _ (by decide)⟩
  · obtain ⟨rfl, _, y, a, rfl, h2, h3⟩ := h
    walk_at "cip"
    have e : (2 : Int) ^ 64 = 18446744073709551616 := by decide
    exact ⟨.inl ⟨by omega, by omega⟩, .inl ⟨by omega, by omega⟩, by decide, hq _⟩
  · intro d hd
    obtain ⟨j, hj⟩ := List.getElem?_of_mem hd
    obtain ⟨_, h⟩ := rngL_get 4 0 j d hj
    exact ⟨_, h⟩
/-- an urn stands at u, its cells at c -/
def UrnC (st : Store) (u c : Nat) : Prop := ∃ (ns : List Int) (p a l : Int), st[u]? = some (.lst [.ref c, .int p, .int a, .int l]) ∧ c ≠ u ∧ st[c]? = some (.lst (ns.map .int)) ∧ 0 ≤ p
def Urn (st : Store) (u : Nat) : Prop := ∃ c, UrnC st u c
/-- only the urn has changed -/
def Drawn (u : Nat) (st st' : Store) : Prop := st'.length = st.length ∧ (∀ k, k ≠ u → st'[k]? = st[k]?) ∧ ∃ c, UrnC st u c ∧ UrnC st' u c
theorem Drawn.refl {u : Nat} {st : Store} (h : Urn st u) : Drawn u st st := ⟨rfl, fun _ _ => rfl, h.elim fun c q => ⟨c, q, q⟩⟩
theorem Drawn.urn {u : Nat} {st st' : Store} (h : Drawn u st st') : Urn st' u := let ⟨_, _, c, _, q⟩ := h; ⟨c, q⟩
theorem UrnC.inj {u c d : Nat} {st : Store} (h : UrnC st u c) (g : UrnC st u d) : c = d := by
  obtain ⟨_, _, _, _, h1, _⟩ := h
  obtain ⟨_, _, _, _, g1, _⟩ := g
  rw [h1] at g1
  cases g1
  rfl
theorem Drawn.trans {u : Nat} {a b c : Store} (h : Drawn u a b) (g : Drawn u b c) : Drawn u a c := by
  obtain ⟨h1, h2, x, h3, h4⟩ := h
  obtain ⟨g1, g2, y, g3, g4⟩ := g
  have e := h4.inj g3
  subst e
  exact ⟨g1.trans h1, fun k hk => (g2 k hk).trans (h2 k hk), x, h3, g4⟩
theorem UrnC.lt {u c : Nat} {st : Store} (h : UrnC st u c) : u < st.length ∧ c < st.length := by
  obtain ⟨_, _, _, _, h1, _, h2, _⟩ := h
  exact ⟨(List.getElem?_eq_some_iff.mp h1).1, (List.getElem?_eq_some_iff.mp h2).1⟩
theorem UrnC.push {u c : Nat} {st new : Store} (h : UrnC st u c) : UrnC (st ++ new) u c := by
  obtain ⟨l1, l2⟩ := h.lt
  obtain ⟨ns, p, a, l, h1, h2, h3, h4⟩ := h
  exact ⟨ns, p, a, l, by rw [List.getElem?_append_left l1]; exact h1, h2, by rw [List.getElem?_append_left l2]; exact h3, h4⟩
theorem Urn.push {u : Nat} {st new : Store} (h : Urn st u) : Urn (st ++ new) u := h.elim fun c q => ⟨c, q.push⟩
/-- what was drawn with something behind -/
theorem Drawn.split {u : Nat} {a b new : Store} (hU : Urn a u) (h : Drawn u (a ++ new) b) : ∃ a', b = a' ++ new ∧ Drawn u a a' := by
  obtain ⟨c0, hc⟩ := hU
  obtain ⟨l1, l2⟩ := hc.lt
  obtain ⟨h1, h2, c, h3, h4⟩ := h
  have e := h3.inj hc.push
  subst e
  rw [List.length_append] at h1
  refine ⟨b.take a.length, ?_, ?_, fun k hk => ?_, c, hc, ?_⟩
  · apply List.ext_getElem?
    intro k
    by_cases hk : k < a.length
    · rw [List.getElem?_append_left (by rw [List.length_take]; omega), List.getElem?_take_of_lt hk]
    · rw [List.getElem?_append_right (by rw [List.length_take]; omega), h2 k (by omega), List.getElem?_append_right (by omega), List.length_take, Nat.min_eq_left (by omega)]
  · rw [List.length_take]; omega
  · by_cases hk2 : k < a.length
    · rw [List.getElem?_take_of_lt hk2, h2 k hk, List.getElem?_append_left hk2]
    · rw [List.getElem?_eq_none (by rw [List.length_take]; omega), List.getElem?_eq_none (by omega)]
  · obtain ⟨ns, p, x, l, q1, q2, q3, q4⟩ := h4
    exact ⟨ns, p, x, l, by rw [List.getElem?_take_of_lt l1]; exact q1, q2, by rw [List.getElem?_take_of_lt l2]; exact q3, q4⟩
theorem upto {n u : Nat} {b : Int} {st : Store} {Q : D → Store → Prop} (hU : Urn st u) (hb : 1 ≤ b ∧ b < 1073741824) (hq : ∀ r st', 0 ≤ r → r < b → Drawn u st st' → Q (.int r) st') : WPE xF (cf (n + 2) 2 [.ref u, .int b] st) Q := by
  obtain ⟨c, ns, p, a, l, h1, h2, h3, h4⟩ := hU
  have hU0 : UrnC st u c := ⟨ns, p, a, l, h1, h2, h3, h4⟩
  have hu : u < st.length := (List.getElem?_eq_some_iff.mp h1).1
  have i0 := idx_at (i := 0) h1
  have i1 := idx_at (i := 1) h1
  have i2 := idx_at (i := 2) h1
  have i3 := idx_at (i := 3) h1
  have a0 : ∀ a b c d : D, L2.atI [a, b, c, d] 0 = some a := fun _ _ _ _ => rfl
  have a1 : ∀ a b c d : D, L2.atI [a, b, c, d] 1 = some b := fun _ _ _ _ => rfl
  have a2 : ∀ a b c d : D, L2.atI [a, b, c, d] 2 = some c := fun _ _ _ _ => rfl
  have a3 : ∀ a b c d : D, L2.atI [a, b, c, d] 3 = some d := fun _ _ _ _ => rfl
  refine call_same (ft := f2) rfl rfl ?_
  unfold f2
  walk_at "cip"
  simp only [i3, a3]
  walk_at "cip"
  -- behind the filling: an urn with its own numbers
  refine WS.imp (N := fun e s => ∃ p' a' l' x y z, e = [some (.ref u), some (.int b), x, y, z, none] ∧ s = st.set u (.lst [.ref c, .int p', .int a', .int l']) ∧ 0 ≤ p') (V := fun _ _ => False) ?_ ?_ (fun _ _ h => h.elim)
  · by_cases hl : l < b
    · rw [if_pos (by simpa using hl)]
      walk_at "cip"
      simp only [i0, i1, a0, a1]
      walk_at "cip"
      refine ⟨by decide, by decide, _, ne_nil h3, ?_⟩
      refine WP.imp (Q := fun d s => st = s ∧ ∃ a' : Int, d = .int a') ?_ ?_
      · cases hn : ns with
        | nil =>
          rw [if_neg (by simp)]
          walk_at "cip"
          exact ⟨0, rfl⟩
        | cons m ms =>
          rw [if_pos (by simp)]
          walk_at "cip"
          simp only [len_at h3]
          walk_at "cip"
          have hl : 0 < ((ns.map D.int).length : Int) := by rw [hn]; simp
          obtain ⟨r1, r2⟩ := fmod_rng p _ hl
          refine ⟨by omega, ?_⟩
          rw [idx_at h3, atI_nat r1 (by omega), List.getElem?_map]
          have hlen : (ns.map D.int).length = ns.length := List.length_map ..
          have hlt : (p.fmod ((ns.map D.int).length : Int)).toNat < ns.length := by omega
          rw [List.getElem?_eq_getElem hlt]
          exact ⟨_, rfl, _, rfl⟩
      · rintro d _ ⟨rfl, a', rfl⟩
        refine ⟨_, len_at h3, _, c_ge_i, ?_⟩
        refine WP.imp (Q := fun (_ : Bool) s => st = s) ?_ ?_
        · split
          · exact rfl
          · walk_at "cip"
            refine ⟨by decide, ?_⟩
            split <;> walk_at "cip"
        · rintro b1 _ rfl
          refine WS.imp (N := fun e s => st = s ∧ ∃ a'' : Int, e = [some (.ref u), some (.int b), some (.ref c), some (.int p), some (.int a''), none]) (V := fun _ _ => False) ?_ ?_ (fun _ _ h => h.elim)
          · cases b1 with
            | true =>
              rw [if_pos rfl]
              walk_at "cip"
              refine ⟨by decide, churned ?_ fun r => ?_⟩
              · have := fmod_rng a' 982451653 (by decide)
                have e : (2 : Int) ^ 64 = 18446744073709551616 := by decide
                omega
              · walk_at "cip"
                exact ⟨r, rfl⟩
            | false =>
              rw [if_neg (by simp)]
              walk_at "cip"
              exact ⟨a', rfl⟩
          · rintro e _ ⟨rfl, a'', rfl⟩
            walk_at "cip"
            have g0 : ∀ xs : List D, (st.set u (.lst xs))[u]? = some (.lst xs) := fun xs => get_set hu
            have gl : ∀ xs : List D, u < (st.set u (.lst xs)).length := fun xs => by rw [List.length_set]; exact hu
            refine ⟨_, ssub_at (j := 1) h1 rfl, _, ssub_at (j := 2) (get_set hu) rfl, _, ssub_at (j := 3) (get_set (gl _)) rfl, p + 1, a'', a'', some (.ref c), some (.int p), some (.int a''), rfl, ?_, by omega⟩
            simp only [List.set_set, List.set_cons_zero, List.set_cons_succ]
    · rw [if_neg (by simpa using hl)]
      walk_at "cip"
      refine ⟨p, a, l, none, none, none, rfl, ?_, h4⟩
      apply List.ext_getElem?
      intro k
      by_cases hk : u = k
      · subst hk
        rw [get_set hu, h1]
      · rw [get_ne hk]
  · rintro e s ⟨p', a', l', x, y, z, rfl, rfl, hp⟩
    have g1 := get_set (st := st) (u := u) (o := .lst [.ref c, .int p', .int a', .int l']) hu
    walk_at "cip"
    simp only [idx_at g1, a0, a1, a2, a3]
    walk_at "cip"
    have gl : ∀ o : MO, u < (st.set u o).length := fun o => by rw [List.length_set]; exact hu
    have g2 := get_set (st := st.set u (.lst [.ref c, .int p', .int a', .int l'])) (u := u) (o := .lst [.ref c, .int p', .int (a'.fdiv b), .int l']) (gl _)
    obtain ⟨r1, r2⟩ := fmod_rng a' b (by omega)
    refine ⟨by omega, ⟨by omega, by omega⟩, _, ssub_at (j := 2) g1 rfl, ?_⟩
    simp only [List.set_cons_zero, List.set_cons_succ]
    simp only [idx_at g2, a0, a1, a2, a3]
    walk_at "cip"
    refine ⟨⟨by omega, by omega⟩, _, ssub_at (j := 3) g2 rfl, by simp only [List.length_set], hq _ _ r1 r2 ⟨by simp only [List.length_set], fun k hk => ?_, c, hU0, ns, p', a'.fdiv b, l'.fdiv b, ?_, h2, ?_, hp⟩⟩
    · simp only [List.set_set]
      rw [get_ne (fun e => hk e.symm)]
    · simp only [List.set_set, List.set_cons_zero, List.set_cons_succ]
      rw [get_set hu]
    · simp only [List.set_set]
      rw [get_ne (fun e => h2 e.symm)]
      exact h3
theorem choice {n u : Nat} {xs : List D} {st : Store} {Q : D → Store → Prop} (hU : Urn st u) (hl : 1 ≤ xs.length ∧ xs.length < 1073741824) (hq : ∀ x st', x ∈ xs → Drawn u st st' → Q x st') : WPE xF (cf (n + 3) 3 [.ref u, .lst xs] st) Q := by
  refine call_wp (ft := f3) rfl rfl ?_
  unfold f3
  walk_at "cip"
  refine upto hU ⟨by omega, by omega⟩ fun r st' h0 h1 h2 => ?_
  rw [idx_l, atI_nat h0 (by omega), List.getElem?_eq_getElem (by omega)]
  refine ⟨_, rfl, ?_⟩
  rw [gc_same h2.1]
  exact hq _ st' (List.getElem_mem _) h2
end Law
end Cip

set_option maxHeartbeats 4000000
namespace Cip
open PySem
local macro_rules | `(tactic| walk_at "cip") => `(tactic| simp only [s_cons, s_nil, s_asg, s_ret, s_ite, s_exp, s_pass, w_non, w_bl, w_int, w_str, w_var, w_con, w_bin, w_neg, w_cmp, w_isn, w_notn, w_and, w_or, w_not, w_ite, w_tup, w_lst, w_idx, w_call, s_ssubD, s_forD, s_whlD, w_mutD, w_appD, mut_lst, asg_tup2, asg_tup3, int_i, len_l, len_t, len_s, idx_l, idx_t, tuple_l, w_bi, w_isi, w_evs, w_evs0, w_and0, w_and1, w_or0, w_or1, asg_nm, ex_some, ex_var, ex_int, ex_bl, startE, List.length_cons, List.length_nil, List.map_cons, List.map_nil, List.getElem?_cons_zero, List.getElem?_cons_succ, List.set_cons_zero, List.set_cons_succ, List.cons_append, List.nil_append, List.replicate, ex_ite, b_add_i, b_sub_i, b_mul_i, b_mod_i, b_div_i, b_pow_i, b_add_s, b_add_t, b_add_l, b_mul_s, b_mul_t, b_mul_l, c_lt_i, c_le_i, c_gt_i, c_ge_i, c_lt_s, c_le_s, c_eq_i, c_ne_i, c_eq_s, c_ne_s, WP_ok, WS_nx, WS_rt, true_and, and_true])
local macro_rules | `(tactic| walk_at "cip2") => `(tactic| simp only [s_cons, s_nil, s_asg, s_ret, s_ite, s_exp, s_pass, w_non, w_bl, w_int, w_str, w_var, w_con, w_bin, w_neg, w_cmp, w_isn, w_notn, w_and, w_or, w_not, w_ite, w_tup, w_lst, w_idx, w_call, s_ssubD, s_forD, s_whlD, w_mutD, w_appD, mut_lst, asg_tup2, asg_tup3, int_i, len_l, len_t, len_s, idx_l, idx_t, tuple_l, w_bi, w_isi, w_evs, w_evs0, w_and0, w_and1, w_or0, w_or1, asg_nm, ex_some, ex_var, ex_int, ex_bl, startE, List.length_cons, List.length_nil, List.map_cons, List.map_nil, List.getElem?_cons_zero, List.getElem?_cons_succ, List.set_cons_zero, List.set_cons_succ, List.cons_append, List.nil_append, List.replicate, ex_ite, b_add_i, b_sub_i, b_mul_i, b_mod_i, b_div_i, b_pow_i, b_add_s, b_add_t, b_add_l, b_mul_s, b_mul_t, b_mul_l, c_lt_i, c_le_i, c_gt_i, c_ge_i, c_lt_s, c_le_s, c_eq_i, c_ne_i, c_eq_s, c_ne_s, WP_ok, WS_nx, WS_rt, true_and, and_true, w_slc, E.nulB, eq_self, if_true, if_false, Bool.false_eq_true, WP_bind, WP_of, bnd_int, Bool.not_true, Bool.not_false])
namespace Law
theorem cut_map {α β : Type} (f : α → β) (xs : List α) (lo hi : Option Int) : cutL (xs.map f) lo hi = (cutL xs lo hi).map f := by
  unfold cutL
  rw [List.length_map, List.map_take, List.map_drop]
theorem cut_le {α : Type} (xs : List α) (lo hi : Option Int) : (cutL xs lo hi).length ≤ xs.length := by
  unfold cutL
  rw [List.length_take, List.length_drop]
  omega
theorem cut_ge {α : Type} (xs : List α) (h : cutL xs (some 18) (some 60) ≠ []) : (cutL xs none (some 18)).length = 18 := by
  have hl : 18 ≤ xs.length := by
    refine Nat.le_of_not_lt fun hlt => h ?_
    unfold cutL
    have e : HT.sIx xs.length 0 (some 18) = xs.length := by
      show (if (18 : Int) < 0 then ((18 : Int) + (xs.length : Int)).toNat else min (18 : Int).toNat xs.length) = _
      rw [if_neg (by decide)]
      have : (18 : Int).toNat = 18 := rfl
      omega
    rw [e, List.drop_length]
    simp
  unfold cutL
  have e : HT.sIx xs.length xs.length (some 18) = 18 := by
    show (if (18 : Int) < 0 then ((18 : Int) + (xs.length : Int)).toNat else min (18 : Int).toNat xs.length) = _
    rw [if_neg (by decide)]
    have : (18 : Int).toNat = 18 := rfl
    omega
  rw [e]
  show ((xs.drop 0).take (18 - 0)).length = 18
  rw [List.drop_zero, List.length_take]
  omega
theorem abs_d {i : Int} {st : Store} : biD st .abs [.int i] = some (.int (if i < 0 then -i else i)) := rfl
def absD : D → D
  | .int i => .int (if i < 0 then -i else i)
  | d => d
theorem abs_map (ns : List Int) : (ns.map D.int).map absD = (ns.map fun i => if i < 0 then -i else i).map D.int := by
  rw [List.map_map, List.map_map]
  rfl
theorem enum_ints : ∀ (ns : List Int) (k : Nat) (d : D), d ∈ enumL k (ns.map D.int) → ∃ (i : Nat) (v : Int), d = .tup [.int i, .int v]
  | [], _, _, h => (List.not_mem_nil h).elim
  | n :: ns, k, d, h => by
    simp only [List.map_cons, enumL] at h
    rcases List.mem_cons.mp h with h | h
    · exact ⟨k, n, h⟩
    · exact enum_ints ns (k + 1) d h
theorem urn_of {n : Nat} {ns : List Int} {st : Store} {Q : D → Store → Prop} (hl : ns.length ≤ 1000) (hq : ∀ st', st'.length = st.length + 2 → (∀ k, k < st.length → st'[k]? = st[k]?) → UrnC st' (st.length + 1) st.length → Q (.ref (st.length + 1)) st') :
    WPE xF (cf (n + 1) 1 [.scr (ns.map .int)] st) Q := by
  have hz : sizeLine = 16777216 := by decide
  refine call_wp (ft := f1) rfl rfl ?_
  unfold f1
  simp only [s_cons, s_asg, w_mutD]
  have c1 : ∀ s : Store, slcD s (.scr (ns.map .int)) none (some 18) = some (.lst ((cutL ns none (some 18)).map .int)) := fun s => by
    rw [← cut_map]
    rfl
  have c2 : ∀ s : Store, slcD s (.scr (ns.map .int)) (some 18) (some 60) = some (.lst ((cutL ns (some 18) (some 60)).map .int)) := fun s => by
    rw [← cut_map]
    rfl
  have len1 : (cutL ns none (some 18)).length ≤ 1000 := Nat.le_trans (cut_le _ _ _) hl
  refine w_lcP (P0 := fun ds s => ds = [.lst ((cutL ns none (some 18)).map .int)] ∧ st = s) ?_ (fun _ => true) absD ?_
  · try walk_at "cip2"
    simp only [c1, ex_some]
    try walk_at "cip2"
  · rintro _ _ ⟨rfl, rfl⟩
    refine ⟨(cutL ns none (some 18)).map .int, rfl, by rw [List.length_map]; omega, fun x hx => ?_, ?_⟩
    · obtain ⟨i, _, rfl⟩ := List.mem_map.mp hx
      refine ⟨_, asg_nm, .inl ⟨rfl, rfl⟩, fun _ => ?_⟩
      simp only [ev, evs, wipeE, startE, List.length_cons, List.length_nil, List.map_cons, List.map_nil, List.cons_append, List.nil_append, List.replicate, List.set_cons_zero, List.set_cons_succ, List.getElem?_cons_zero, List.getElem?_cons_succ, R.bind]
      rfl
    · rw [List.filter_eq_self.mpr (fun _ _ => rfl), abs_map, mut_lst]
      generalize hcs : ((cutL ns none (some 18)).map fun i => if i < 0 then -i else i) = cs
      have hcl : cs.length = (cutL ns none (some 18)).length := by rw [← hcs, List.length_map]
      try walk_at "cip2"
      simp only [c2, ex_some]
      try walk_at "cip2"
      refine ⟨_, rfl, WS_loop (fun rest env s => ∃ (cs' : List Int) (x y : Option D), cs'.length = cs.length ∧ s = st ++ [MO.lst (cs'.map .int)] ∧ env = [some (.scr (ns.map .int)), some (.ref st.length), x, y] ∧ (rest ≠ [] → cs.length = 18) ∧ ∀ d ∈ rest, ∃ (i : Nat) (v : Int), d = .tup [.int i, .int v])
        (fun rest env s h => ?_) (fun x rest env s h => ?_) (fun env s h => ?_) _ _ _ ⟨cs, none, none, rfl, rfl, rfl, fun hne => ?_, fun d hd => enum_ints _ _ d hd⟩⟩
      · exact still_ok.mpr fun k hk => by cases hk
      · obtain ⟨cs', a, b, h1, rfl, rfl, h2, h3⟩ := h
        obtain ⟨i, v, rfl⟩ := h3 x (by simp)
        have h18 := h2 (by simp)
        have gF : (st ++ [MO.lst (cs'.map D.int)])[st.length]? = some (.lst (cs'.map .int)) := by
          rw [List.getElem?_append_right (Nat.le_refl _)]
          simp
        try walk_at "cip2"
        obtain ⟨r1, r2⟩ := fmod_rng (i : Int) 18 (by decide)
        have hlt : ((i : Int).fmod 18).toNat < (cs'.map D.int).length := by rw [List.length_map]; omega
        have hlt' : ((i : Int).fmod 18).toNat < cs'.length := by omega
        refine ⟨by decide, ?_⟩
        rw [idx_at gF, atI_nat r1 hlt, List.getElem?_map, List.getElem?_eq_getElem hlt']
        simp only [Option.map_some, ex_some, abs_d]
        try walk_at "cip2"
        refine ⟨by decide, _, ssub_at (j := ((i : Int).fmod 18).toNat) gF ?_, cs'.set ((i : Int).fmod 18).toNat (cs'[((i : Int).fmod 18).toNat] + if v < 0 then -v else v), _, _, by rw [List.length_set]; exact h1, ?_, rfl, fun _ => h18, fun d hd => h3 d (List.mem_cons_of_mem _ hd)⟩
        · unfold L2.ixN
          rw [List.length_map]
          have : (i : Int).fmod 18 < (cs'.length : Int) := by omega
          simp [r1, this]
        · rw [List.set_append_right _ _ (Nat.le_refl _), List.map_set]
          simp
      · obtain ⟨cs', a, b, h1, rfl, rfl, h2, h3⟩ := h
        try walk_at "cip2"
        refine ⟨by decide, ?_⟩
        have e : st ++ [MO.lst (cs'.map D.int)] ++ [MO.lst [.ref st.length, .int 0, .int 0, .int 0]] = st ++ [MO.lst (cs'.map D.int), MO.lst [.ref st.length, .int 0, .int 0, .int 0]] := by simp
        have hlen : (st ++ [MO.lst (cs'.map D.int)]).length = st.length + 1 := by simp
        rw [e, hlen]
        have hg : gc st [.ref (st.length + 1)] (st ++ [MO.lst (cs'.map D.int), MO.lst [.ref st.length, .int 0, .int 0, .int 0]]) = st ++ [MO.lst (cs'.map D.int), MO.lst [.ref st.length, .int 0, .int 0, .int 0]] := by
          unfold gc
          rw [if_neg]
          intro hL
          have := hL.1
          simp only [D.mxs, D.mx] at this
          omega
        rw [hg]
        refine hq _ (by simp) (fun k hk => by rw [List.getElem?_append_left hk]) ⟨cs', 0, 0, 0, ?_, by omega, ?_, by decide⟩
        · rw [List.getElem?_append_right (by omega)]
          simp
        · rw [List.getElem?_append_right (Nat.le_refl _)]
          simp
      · rw [hcl]
        refine cut_ge ns fun e => hne ?_
        rw [e]
        rfl
end Law
end Cip

set_option maxHeartbeats 4000000
namespace Cip
open PySem
local macro_rules | `(tactic| walk_at "cip") => `(tactic| simp only [s_cons, s_nil, s_asg, s_ret, s_ite, s_exp, s_pass, w_non, w_bl, w_int, w_str, w_var, w_con, w_bin, w_neg, w_cmp, w_isn, w_notn, w_and, w_or, w_not, w_ite, w_tup, w_lst, w_idx, w_call, s_ssubD, s_forD, s_whlD, w_mutD, w_appD, mut_lst, asg_tup2, asg_tup3, int_i, len_l, len_t, len_s, idx_l, idx_t, tuple_l, w_bi, w_isi, w_evs, w_evs0, w_and0, w_and1, w_or0, w_or1, asg_nm, ex_some, ex_var, ex_int, ex_bl, startE, List.length_cons, List.length_nil, List.map_cons, List.map_nil, List.getElem?_cons_zero, List.getElem?_cons_succ, List.set_cons_zero, List.set_cons_succ, List.cons_append, List.nil_append, List.replicate, ex_ite, b_add_i, b_sub_i, b_mul_i, b_mod_i, b_div_i, b_pow_i, b_add_s, b_add_t, b_add_l, b_mul_s, b_mul_t, b_mul_l, c_lt_i, c_le_i, c_gt_i, c_ge_i, c_lt_s, c_le_s, c_eq_i, c_ne_i, c_eq_s, c_ne_s, WP_ok, WS_nx, WS_rt, true_and, and_true])
local macro_rules | `(tactic| walk_at "cip2") => `(tactic| simp only [s_cons, s_nil, s_asg, s_ret, s_ite, s_exp, s_pass, w_non, w_bl, w_int, w_str, w_var, w_con, w_bin, w_neg, w_cmp, w_isn, w_notn, w_and, w_or, w_not, w_ite, w_tup, w_lst, w_idx, w_call, s_ssubD, s_forD, s_whlD, w_mutD, w_appD, mut_lst, asg_tup2, asg_tup3, int_i, len_l, len_t, len_s, idx_l, idx_t, tuple_l, w_bi, w_isi, w_evs, w_evs0, w_and0, w_and1, w_or0, w_or1, asg_nm, ex_some, ex_var, ex_int, ex_bl, startE, List.length_cons, List.length_nil, List.map_cons, List.map_nil, List.getElem?_cons_zero, List.getElem?_cons_succ, List.set_cons_zero, List.set_cons_succ, List.cons_append, List.nil_append, List.replicate, ex_ite, b_add_i, b_sub_i, b_mul_i, b_mod_i, b_div_i, b_pow_i, b_add_s, b_add_t, b_add_l, b_mul_s, b_mul_t, b_mul_l, c_lt_i, c_le_i, c_gt_i, c_ge_i, c_lt_s, c_le_s, c_eq_i, c_ne_i, c_eq_s, c_ne_s, WP_ok, WS_nx, WS_rt, true_and, and_true, w_slc, E.nulB, eq_self, if_true, if_false, Bool.false_eq_true, WP_bind, WP_of, bnd_int, Bool.not_true, Bool.not_false])
local macro_rules | `(tactic| walk_at "cip3") => `(tactic| simp only [s_cons, s_nil, s_asg, s_ret, s_ite, s_exp, s_pass, w_non, w_bl, w_int, w_str, w_var, w_con, w_bin, w_neg, w_cmp, w_isn, w_notn, w_and, w_or, w_not, w_ite, w_tup, w_lst, w_idx, w_call, s_ssubD, s_forD, s_whlD, w_mutD, w_appD, mut_lst, asg_tup2, asg_tup3, int_i, len_l, len_t, len_s, idx_l, idx_t, tuple_l, w_bi, w_isi, w_evs, w_evs0, w_and0, w_and1, w_or0, w_or1, asg_nm, ex_some, ex_var, ex_int, ex_bl, startE, List.length_cons, List.length_nil, List.map_cons, List.map_nil, List.getElem?_cons_zero, List.getElem?_cons_succ, List.set_cons_zero, List.set_cons_succ, List.cons_append, List.nil_append, List.replicate, ex_ite, b_add_i, b_sub_i, b_mul_i, b_mod_i, b_div_i, b_pow_i, b_add_s, b_add_t, b_add_l, b_mul_s, b_mul_t, b_mul_l, c_lt_i, c_le_i, c_gt_i, c_ge_i, c_lt_s, c_le_s, c_eq_i, c_ne_i, c_eq_s, c_ne_s, WP_ok, WS_nx, WS_rt, true_and, and_true, w_slc, E.nulB, eq_self, if_true, if_false, Bool.false_eq_true, WP_bind, WP_of, bnd_int, Bool.not_true, Bool.not_false, w_chn])
local macro_rules | `(tactic| walk_at "z0") => `(tactic| simp only [startE, List.map_cons, List.map_nil, List.length_cons, List.length_nil, Nat.reduceAdd, Nat.reduceSub, List.replicate, List.cons_append, List.nil_append])

namespace Law
/-! V03: errors: what they are of. -/
/-- an error of the class c is of the class j -/
def kd (c j : Nat) : Bool := (clss.xs.getD (c - 1000) (Str.empty, [])).2.contains (j - 1000)
theorem sub_kd {c j : Nat} (hc : clss.hasX c = true) (hj : clss.hasX j = true) : (txOf cons clss).sub c j = some (kd c j) := by
  show (if (clss.hasX c && clss.hasX j) = true then some ((clss.xs.getD (c - 1000) (Str.empty, [])).2.contains (j - 1000)) else none) = _
  rw [hc, hj]
  rfl
theorem xi_k {k c j : Nat} {fs : List (Nat × D)} {st : Store} (hk : st[k]? = some (.exc c fs)) (hc : clss.hasX c = true) (hj : clss.hasX j = true) : ∀ (B : Bool → Prop), EX (isiD (txOf cons clss).sub (txOf cons clss).ve st (.ref k) (.cls j)) B ↔ B (kd c j) := fun B => EX_eq (by
  simp only [isiD, hk]
  exact sub_kd hc hj)
theorem xi_v {k c : Nat} {fs : List (Nat × D)} {st : Store} (hk : st[k]? = some (.exc c fs)) (hc : clss.hasX c = true) : ∀ (B : Bool → Prop), EX (isiD (txOf cons clss).sub (txOf cons clss).ve st (.ref k) .verr) B ↔ B true := fun B => EX_eq (by
  simp only [isiD, hk]
  show (if clss.hasX c = true then some true else none) = some true
  rw [hc]
  rfl)
def kl (c : Nat) : List D := [.bl (kd c 1001), .bl (kd c 1002), .bl (kd c 1003), .bl (kd c 1004), .bl (kd c 1005), .bl (kd c 1006), .bl (kd c 1007), .bl (kd c 1008), .bl (kd c 1009), .bl (kd c 1010), .bl (kd c 1011), .bl (kd c 1012), .bl (kd c 1013), .bl (kd c 1014), .bl (kd c 1015), .bl (kd c 1016), .bl (kd c 1017), .bl (kd c 1018), .bl (kd c 1019), .bl (kd c 1020), .bl (kd c 1021), .bl (kd c 1022), .bl (kd c 1000), .bl true]
theorem kinds {n k c : Nat} {fs : List (Nat × D)} {st : Store} {Q : D → Store → Prop} (hk : st[k]? = some (.exc c fs)) (hc : clss.hasX c = true) (hq : Q (.lst (kl c)) st) : WPE xF (cf (n + 1) 5 [.ref k] st) Q := by
  have q1000 := xi_k hk hc (j := 1000) rfl
  have q1001 := xi_k hk hc (j := 1001) rfl
  have q1002 := xi_k hk hc (j := 1002) rfl
  have q1003 := xi_k hk hc (j := 1003) rfl
  have q1004 := xi_k hk hc (j := 1004) rfl
  have q1005 := xi_k hk hc (j := 1005) rfl
  have q1006 := xi_k hk hc (j := 1006) rfl
  have q1007 := xi_k hk hc (j := 1007) rfl
  have q1008 := xi_k hk hc (j := 1008) rfl
  have q1009 := xi_k hk hc (j := 1009) rfl
  have q1010 := xi_k hk hc (j := 1010) rfl
  have q1011 := xi_k hk hc (j := 1011) rfl
  have q1012 := xi_k hk hc (j := 1012) rfl
  have q1013 := xi_k hk hc (j := 1013) rfl
  have q1014 := xi_k hk hc (j := 1014) rfl
  have q1015 := xi_k hk hc (j := 1015) rfl
  have q1016 := xi_k hk hc (j := 1016) rfl
  have q1017 := xi_k hk hc (j := 1017) rfl
  have q1018 := xi_k hk hc (j := 1018) rfl
  have q1019 := xi_k hk hc (j := 1019) rfl
  have q1020 := xi_k hk hc (j := 1020) rfl
  have q1021 := xi_k hk hc (j := 1021) rfl
  have q1022 := xi_k hk hc (j := 1022) rfl
  have qv := xi_v hk hc
  refine call_same (ft := f5) rfl rfl ?_
  unfold f5
  walk_at "z0"
  simp only [↓s_cons, ↓s_nil, ↓l_asg, ↓s_ret, ↓l_site, ↓s_exp, ↓s_pass, ↓w_non, ↓w_bl, ↓w_int, ↓w_str, ↓l_var, ↓l_con, ↓l_bin, ↓l_neg, ↓l_cmp, ↓l_chn, ↓w_isn, ↓w_notn, ↓w_and, ↓w_or, ↓l_not, ↓l_ite, ↓l_tup, ↓l_lst, ↓w_dct, ↓w_mutD, ↓mut_lst, ↓mut_dct, ↓l_idx, ↓l_slc, ↓nb_nul, ↓nb_int, ↓nb_var, ↓nb_con, ↓nb_bin, ↓nb_neg, ↓nb_idx, ↓nb_call, ↓nb_bi, ↓w_call, ↓l_bi, ↓l_bm, ↓l_isi, ↓l_xnew, ↓l_xfld, ↓l_raise, ↓l_tri, ↓l_rev, ↓x_rev_t, ↓x_rev_l, ↓w_evs, ↓w_evs0, ↓w_and0, ↓l_and1, ↓w_or0, ↓l_or1, ↓l_ssub, ↓s_whlD, ↓l_app, ↓WP_ok, ↓WS_nx, ↓WS_rt, ↓WP_bind, ↓WP_ofE, ↓WB_t, ↓WB_f, ↓WB_n, ↓WB_dec, ↓WB_all, ↓WB_any, ↓WB_lt, ↓WB_sub, ↓WB_emp, ↓WB_eqv, ↓WB_and, ↓WB_or, ↓SB_t, ↓SB_f, ↓SB_n, ↓SB_dec, ↓SB_all, ↓SB_any, ↓SB_lt, ↓SB_sub, ↓SB_emp, ↓SB_eqv, ↓SB_and, ↓SB_or, ↓EX_some, ↓EX_none, ↓EX_map, ↓EB_bl, ↓EI_int, ↓x_g0, ↓x_gs, ↓x_at0, ↓x_at1, ↓x_at2, ↓x_a0, ↓x_as, ↓x_atup2, ↓x_atup3, ↓x_atup4, ↓x_alst4, ↓x_mod_i, ↓x_bnd, ↓x_str_i, ↓x_str_b, ↓x_upper, ↓x_all, ↓x_any, ↓x_sum, ↓x_add_i, ↓x_sub_i, ↓x_mul_i, ↓x_div_i, ↓x_pow_i, ↓x_add_s, ↓x_add_t, ↓x_add_l, ↓x_mul_s, ↓x_mul_t, ↓x_mul_l, ↓x_lt_i, ↓x_le_i, ↓x_gt_i, ↓x_ge_i, ↓x_lt_s, ↓x_le_s, ↓x_eq_i, ↓x_ne_i, ↓x_eq_s, ↓x_ne_s, ↓x_eq_nil, ↓x_ne_nil, ↓x_in_s, ↓x_nin_s, ↓x_len_l, ↓x_len_t, ↓x_len_s, ↓x_tuple_l, ↓x_tuple_t, ↓x_list_t, ↓x_list_l, ↓x_list_s, ↓x_int_i, ↓x_int_b, ↓x_abs, ↓x_str_s, ↓x_slc_t, ↓x_slc_l, ↓x_slc_s, ↓x_idx_t, ↓x_idx_l, ↓x_isi_nb, ↓x_isi_ni, ↓x_isi_ns, ↓x_isi_nt, ↓x_isi_nl, ↓x_isi_nd, ↓x_isi_bb, ↓x_isi_bi, ↓x_isi_bs, ↓x_isi_bt, ↓x_isi_bl, ↓x_isi_bd, ↓x_isi_ib, ↓x_isi_ii, ↓x_isi_is, ↓x_isi_it, ↓x_isi_il, ↓x_isi_id, ↓x_isi_sb, ↓x_isi_si, ↓x_isi_ss, ↓x_isi_st, ↓x_isi_sl, ↓x_isi_sd, ↓x_isi_tb, ↓x_isi_ti, ↓x_isi_ts, ↓x_isi_tt, ↓x_isi_tl, ↓x_isi_td, ↓x_isi_lb, ↓x_isi_li, ↓x_isi_ls, ↓x_isi_lt, ↓x_isi_ll, ↓x_isi_ld, ↓x_isi_db, ↓x_isi_di, ↓x_isi_ds, ↓x_isi_dt, ↓x_isi_dl, ↓x_isi_dd, Bool.not_true, Bool.not_false, emp_flt, List.length_cons, List.length_nil, on_join, on_split, on_upper, on_count, on_rstrip, on_sindex, on_part, on_tindex, true_and, and_true, eq_self, Nat.reduceAdd, Nat.reduceLeDiff, Nat.zero_add, ↓l_pop, ↓l_popi, ↓l_ext, ↓l_fld, ↓l_mth, ↓l_new, ↓l_sfld, ↓l_aug, ↓l_augf, ↓x_aug_i, ↓x_aug_d, ↓x_aug_s, ↓x_at3, ↓x_at4, ↓x_at5, ↓x_at6, ↓x_at7, ↓x_at8, ↓x_ne_b, ↓x_eq_b, ↓nb_fld, ↓l_fst, ↓l_fst0, ↓l_fst1, ↓x_sd_s, ↓x_int_s, ↓x_in_names, ↓x_nin_names, isI_n, isI_b, isI_i, isI_s, isI_t, isI_l, isI_d, isI_c, isI_r, isB_n, isB_b, isB_i, isB_s, isB_t, isB_l, isB_d, isB_c, isB_r, isS_n, isS_b, isS_i, isS_s, isS_t, isS_l, isS_d, isS_c, isS_r, isT_n, isT_b, isT_i, isT_s, isT_t, isT_l, isT_d, isT_c, isT_r, ↓WB_isI, ↓WB_isB, ↓WB_isS, ↓WB_isT, ↓SB_isI, ↓SB_isB, ↓SB_isS, ↓SB_isT, ↓q1000, ↓q1001, ↓q1002, ↓q1003, ↓q1004, ↓q1005, ↓q1006, ↓q1007, ↓q1008, ↓q1009, ↓q1010, ↓q1011, ↓q1012, ↓q1013, ↓q1014, ↓q1015, ↓q1016, ↓q1017, ↓q1018, ↓q1019, ↓q1020, ↓q1021, ↓q1022, ↓qv]
  repeat refine ⟨Nat.le_of_ble_eq_true rfl, ?_⟩
  exact hq
/-! the errors' fields -/
theorem show_small {a : Int} (h : 0 ≤ a ∧ a < 1000000) : ∃ y, showI a = some y ∧ y.length ≤ 7 := by
  have h1 : a.natAbs < 10 ^ 6 := by
    have : (10 : Nat) ^ 6 = 1000000 := by decide
    omega
  have h2 : a.natAbs.log2 < 1920 := by
    by_cases h0 : a.natAbs = 0
    · rw [h0]
      decide
    · have e1 : (2 : Nat) ^ 64 = 18446744073709551616 := by decide
      have e2 : (10 : Nat) ^ 6 = 1000000 := by decide
      have := (Nat.log2_lt h0 (k := 64)).mpr (by omega)
      omega
  refine ⟨Str.ofString (toString a), ?_, ?_⟩
  · unfold showI
    rw [if_pos h2]
  · rw [ofString_length]
    exact int_text_length_le10 (by decide) h1
theorem msgF_s {ds : List D} {x acc : Str} {es : List E} (h : acc.length + x.length ≤ 16777216) : msgF ds (.str x :: es) acc = msgF ds es (acc ++ x) := by
  have hz : sizeLine = 16777216 := by decide
  simp only [msgF, partD, strD, Option.bind_some, Str.len_append, hz]
  rw [if_pos h]
theorem msgF_v {ds : List D} {y acc : Str} {d : D} {i : Nat} {es : List E} (hp : partD ds (.var i) = some d) (hs : strD d = some y) (h : acc.length + y.length ≤ 16777216) : msgF ds (.var i :: es) acc = msgF ds es (acc ++ y) := by
  have hz : sizeLine = 16777216 := by decide
  simp only [msgF, hp, hs, Option.bind_some, Str.len_append, hz]
  rw [if_pos h]
theorem msgF_n {ds : List D} {acc : Str} : msgF ds [] acc = some acc := by
  simp only [msgF]
theorem exfX_ok {x : XD} {ds : List D} {es : List E} {y : Str} (hm : x.msg = .fst es) (hn : ds.length = x.n) (h : msgF ds es Str.empty = some y) : exfX x ds = fsD ds x.fs [] := by
  unfold exfX
  rw [if_pos]
  refine ⟨hn, ?_⟩
  rw [hm]
  simp only [msgOk, h]
  rfl
theorem exf1 {a b : Int} (ha : 0 ≤ a ∧ a < 1000000) (hb : 0 ≤ b ∧ b < 1000000) : (txOf cons clss).exf 1001 [.int a, .int b] = some [(1, .int b), (0, .int a)] := by
  obtain ⟨x, hx, lx⟩ := show_small ha
  obtain ⟨y, hy, ly⟩ := show_small hb
  have l0 : (Str.empty : Str).length = 0 := rfl
  have l1 : ("line " : Str).length = 5 := by decide
  have l2 : (", column " : Str).length = 9 := by decide
  show exfX ⟨2, .fst [.str "line ", .var 1, .str ", column ", .var 2], [(0, 0), (1, 1)]⟩ [.int a, .int b] = _
  have h : msgF [.int a, .int b] [.str "line ", .var 1, .str ", column ", .var 2] Str.empty = some (Str.empty ++ "line " ++ x ++ ", column " ++ y) := by
    rw [msgF_s (by omega), msgF_v (d := .int a) (y := x) rfl hx (by rw [Str.len_append]; omega), msgF_s (by rw [Str.len_append, Str.len_append]; omega), msgF_v (d := .int b) (y := y) rfl hy (by rw [Str.len_append, Str.len_append, Str.len_append]; omega), msgF_n]
  exact exfX_ok rfl rfl h
theorem exf2 {x : Str} (hx : x.length ≤ 1000) : (txOf cons clss).exf 1002 [.str x] = some [(2, .str x)] := by
  have l0 : (Str.empty : Str).length = 0 := rfl
  have l1 : ("the form does not carry " : Str).length = 24 := by decide
  show exfX ⟨1, .fst [.str "the form does not carry ", .var 1], [(2, 0)]⟩ [.str x] = _
  have h : msgF [.str x] [.str "the form does not carry ", .var 1] Str.empty = some (Str.empty ++ "the form does not carry " ++ x) := by
    rw [msgF_s (by omega), msgF_v (d := .str x) (y := x) rfl rfl (by rw [Str.len_append]; omega), msgF_n]
  exact exfX_ok rfl rfl h
theorem exf3 {x : Str} {d : D} (hx : x.length ≤ 1000) : (txOf cons clss).exf 1003 [.str x, d] = some [(4, d), (3, .str x)] := by
  have l0 : (Str.empty : Str).length = 0 := rfl
  have l1 : ("no chain leads to " : Str).length = 18 := by decide
  show exfX ⟨2, .fst [.str "no chain leads to ", .var 1], [(3, 0), (4, 1)]⟩ [.str x, d] = _
  have h : msgF [.str x, d] [.str "no chain leads to ", .var 1] Str.empty = some (Str.empty ++ "no chain leads to " ++ x) := by
    rw [msgF_s (by omega), msgF_v (d := .str x) (y := x) rfl rfl (by rw [Str.len_append]; omega), msgF_n]
  exact exfX_ok rfl rfl h
theorem exf4 {d : D} : (txOf cons clss).exf 1004 [d] = some [(4, d)] := rfl
theorem exf5 {a : Int} (ha : 0 ≤ a ∧ a < 1000000) : (txOf cons clss).exf 1005 [.int a] = some [(5, .int a)] := by
  obtain ⟨x, hx, lx⟩ := show_small ha
  have l0 : (Str.empty : Str).length = 0 := rfl
  have l1 : ("more than " : Str).length = 10 := by decide
  show exfX ⟨1, .fst [.str "more than ", .var 1], [(5, 0)]⟩ [.int a] = _
  have h : msgF [.int a] [.str "more than ", .var 1] Str.empty = some (Str.empty ++ "more than " ++ x) := by
    rw [msgF_s (by omega), msgF_v (d := .int a) (y := x) rfl hx (by rw [Str.len_append]; omega), msgF_n]
  exact exfX_ok rfl rfl h
theorem exf_1000 {d : D} {P : List (Nat × D) → Prop} : EX ((txOf cons clss).exf 1000 [d]) P ↔ P [] := EX_eq rfl
theorem exf_1006 {d : D} {P : List (Nat × D) → Prop} : EX ((txOf cons clss).exf 1006 [d]) P ↔ P [] := EX_eq rfl
theorem exf_1007 {d : D} {P : List (Nat × D) → Prop} : EX ((txOf cons clss).exf 1007 [d]) P ↔ P [] := EX_eq rfl
theorem exf_1008 {d : D} {P : List (Nat × D) → Prop} : EX ((txOf cons clss).exf 1008 [d]) P ↔ P [] := EX_eq rfl
theorem exf_1009 {d : D} {P : List (Nat × D) → Prop} : EX ((txOf cons clss).exf 1009 [d]) P ↔ P [] := EX_eq rfl
theorem exf_1010 {d : D} {P : List (Nat × D) → Prop} : EX ((txOf cons clss).exf 1010 [d]) P ↔ P [] := EX_eq rfl
theorem exf_1011 {d : D} {P : List (Nat × D) → Prop} : EX ((txOf cons clss).exf 1011 [d]) P ↔ P [] := EX_eq rfl
theorem exf_1012 {d : D} {P : List (Nat × D) → Prop} : EX ((txOf cons clss).exf 1012 [d]) P ↔ P [] := EX_eq rfl
theorem exf_1013 {d : D} {P : List (Nat × D) → Prop} : EX ((txOf cons clss).exf 1013 [d]) P ↔ P [] := EX_eq rfl
theorem exf_1014 {d : D} {P : List (Nat × D) → Prop} : EX ((txOf cons clss).exf 1014 [d]) P ↔ P [] := EX_eq rfl
theorem exf_1015 {d : D} {P : List (Nat × D) → Prop} : EX ((txOf cons clss).exf 1015 [d]) P ↔ P [] := EX_eq rfl
theorem exf_1016 {d : D} {P : List (Nat × D) → Prop} : EX ((txOf cons clss).exf 1016 [d]) P ↔ P [] := EX_eq rfl
theorem exf_1017 {d : D} {P : List (Nat × D) → Prop} : EX ((txOf cons clss).exf 1017 [d]) P ↔ P [] := EX_eq rfl
theorem exf_1018 {d : D} {P : List (Nat × D) → Prop} : EX ((txOf cons clss).exf 1018 [d]) P ↔ P [] := EX_eq rfl
theorem exf_1019 {d : D} {P : List (Nat × D) → Prop} : EX ((txOf cons clss).exf 1019 [d]) P ↔ P [] := EX_eq rfl
theorem exf_1020 {d : D} {P : List (Nat × D) → Prop} : EX ((txOf cons clss).exf 1020 [d]) P ↔ P [] := EX_eq rfl
theorem exf_1021 {d : D} {P : List (Nat × D) → Prop} : EX ((txOf cons clss).exf 1021 [d]) P ↔ P [] := EX_eq rfl
theorem exf_1022 {d : D} {P : List (Nat × D) → Prop} : EX ((txOf cons clss).exf 1022 [d]) P ↔ P [] := EX_eq rfl
end Law
end Cip

set_option maxHeartbeats 4000000
namespace Cip
open PySem
local macro_rules | `(tactic| walk_at "cip") => `(tactic| simp only [s_cons, s_nil, s_asg, s_ret, s_ite, s_exp, s_pass, w_non, w_bl, w_int, w_str, w_var, w_con, w_bin, w_neg, w_cmp, w_isn, w_notn, w_and, w_or, w_not, w_ite, w_tup, w_lst, w_idx, w_call, s_ssubD, s_forD, s_whlD, w_mutD, w_appD, mut_lst, asg_tup2, asg_tup3, int_i, len_l, len_t, len_s, idx_l, idx_t, tuple_l, w_bi, w_isi, w_evs, w_evs0, w_and0, w_and1, w_or0, w_or1, asg_nm, ex_some, ex_var, ex_int, ex_bl, startE, List.length_cons, List.length_nil, List.map_cons, List.map_nil, List.getElem?_cons_zero, List.getElem?_cons_succ, List.set_cons_zero, List.set_cons_succ, List.cons_append, List.nil_append, List.replicate, ex_ite, b_add_i, b_sub_i, b_mul_i, b_mod_i, b_div_i, b_pow_i, b_add_s, b_add_t, b_add_l, b_mul_s, b_mul_t, b_mul_l, c_lt_i, c_le_i, c_gt_i, c_ge_i, c_lt_s, c_le_s, c_eq_i, c_ne_i, c_eq_s, c_ne_s, WP_ok, WS_nx, WS_rt, true_and, and_true])
local macro_rules | `(tactic| walk_at "cip2") => `(tactic| simp only [s_cons, s_nil, s_asg, s_ret, s_ite, s_exp, s_pass, w_non, w_bl, w_int, w_str, w_var, w_con, w_bin, w_neg, w_cmp, w_isn, w_notn, w_and, w_or, w_not, w_ite, w_tup, w_lst, w_idx, w_call, s_ssubD, s_forD, s_whlD, w_mutD, w_appD, mut_lst, asg_tup2, asg_tup3, int_i, len_l, len_t, len_s, idx_l, idx_t, tuple_l, w_bi, w_isi, w_evs, w_evs0, w_and0, w_and1, w_or0, w_or1, asg_nm, ex_some, ex_var, ex_int, ex_bl, startE, List.length_cons, List.length_nil, List.map_cons, List.map_nil, List.getElem?_cons_zero, List.getElem?_cons_succ, List.set_cons_zero, List.set_cons_succ, List.cons_append, List.nil_append, List.replicate, ex_ite, b_add_i, b_sub_i, b_mul_i, b_mod_i, b_div_i, b_pow_i, b_add_s, b_add_t, b_add_l, b_mul_s, b_mul_t, b_mul_l, c_lt_i, c_le_i, c_gt_i, c_ge_i, c_lt_s, c_le_s, c_eq_i, c_ne_i, c_eq_s, c_ne_s, WP_ok, WS_nx, WS_rt, true_and, and_true, w_slc, E.nulB, eq_self, if_true, if_false, Bool.false_eq_true, WP_bind, WP_of, bnd_int, Bool.not_true, Bool.not_false])
local macro_rules | `(tactic| walk_at "cip3") => `(tactic| simp only [s_cons, s_nil, s_asg, s_ret, s_ite, s_exp, s_pass, w_non, w_bl, w_int, w_str, w_var, w_con, w_bin, w_neg, w_cmp, w_isn, w_notn, w_and, w_or, w_not, w_ite, w_tup, w_lst, w_idx, w_call, s_ssubD, s_forD, s_whlD, w_mutD, w_appD, mut_lst, asg_tup2, asg_tup3, int_i, len_l, len_t, len_s, idx_l, idx_t, tuple_l, w_bi, w_isi, w_evs, w_evs0, w_and0, w_and1, w_or0, w_or1, asg_nm, ex_some, ex_var, ex_int, ex_bl, startE, List.length_cons, List.length_nil, List.map_cons, List.map_nil, List.getElem?_cons_zero, List.getElem?_cons_succ, List.set_cons_zero, List.set_cons_succ, List.cons_append, List.nil_append, List.replicate, ex_ite, b_add_i, b_sub_i, b_mul_i, b_mod_i, b_div_i, b_pow_i, b_add_s, b_add_t, b_add_l, b_mul_s, b_mul_t, b_mul_l, c_lt_i, c_le_i, c_gt_i, c_ge_i, c_lt_s, c_le_s, c_eq_i, c_ne_i, c_eq_s, c_ne_s, WP_ok, WS_nx, WS_rt, true_and, and_true, w_slc, E.nulB, eq_self, if_true, if_false, Bool.false_eq_true, WP_bind, WP_of, bnd_int, Bool.not_true, Bool.not_false, w_chn])
local macro_rules | `(tactic| walk_at "z0") => `(tactic| simp only [startE, List.map_cons, List.map_nil, List.length_cons, List.length_nil, Nat.reduceAdd, Nat.reduceSub, List.replicate, List.cons_append, List.nil_append])

namespace Law
/-! V04: the law. -/
/-- what the inner list comes to -/
def gI (i : Nat) : D → D
  | .int j => .bl (decide (j = (i : Int)))
  | d => d
def rl (i : Nat) : List D := (rngL 0 22).map (gI i) ++ [.bl true, .bl true]
theorem ne_i {st : Store} : ∀ i, i < 22 → cmpD st .ne (.lst (kl (1001 + i))) (.lst (rl i)) = some false
  | 0, _ => rfl
  | 1, _ => rfl
  | 2, _ => rfl
  | 3, _ => rfl
  | 4, _ => rfl
  | 5, _ => rfl
  | 6, _ => rfl
  | 7, _ => rfl
  | 8, _ => rfl
  | 9, _ => rfl
  | 10, _ => rfl
  | 11, _ => rfl
  | 12, _ => rfl
  | 13, _ => rfl
  | 14, _ => rfl
  | 15, _ => rfl
  | 16, _ => rfl
  | 17, _ => rfl
  | 18, _ => rfl
  | 19, _ => rfl
  | 20, _ => rfl
  | 21, _ => rfl
  | i + 22, h => absurd h (by omega)
theorem eq_z {st : Store} : cmpD st .eq (.lst (kl 1000)) (.lst ((List.replicate 22 (D.bl false)) ++ [.bl true, .bl true])) = some true := rfl
abbrev lEnv (s : D) (x1 x2 x3 x4 x5 x6 x7 x8 x9 x10 x11 x12 x13 x14 : Option D) : Env := [some s, x1, x2, x3, x4, x5, x6, x7, x8, x9, x10, x11, x12, x13, x14, none, none]
/-- the four numbers -/
theorem four {n : Nat} {s0 : D} {st : Store} {N : Env → Store → Prop} {V : D → Store → Prop} (hU : Urn st 1)
    (hN : ∀ a b c d s, Drawn 1 st s → 0 ≤ a ∧ a < 1000000 → 0 ≤ b ∧ b < 1000000 → 0 ≤ c ∧ c < 1000000 → 0 ≤ d ∧ d < 1000000 → N (lEnv s0 (some (.ref 1)) (some (.int a)) (some (.int b)) (some (.int c)) (some (.int d)) none none none none none none none none none) s) :
    WSE xF (run (txOf cons clss) (cf (n + 2)) (.asg (.tup [(.nm 2), (.nm 3), (.nm 4), (.nm 5)]) (.lc [15] (.nm 15) .rng1 [(.int 4)] .nul (.call 2 [(.var 1), (.bin .pow (.int 10) (.int 6))]))) (lEnv s0 (some (.ref 1)) none none none none none none none none none none none none none) st) N V := by
  rw [l_asg]
  refine w_lcJ (ds := [.int 4]) (xs := rngL 0 4) (fun s => Drawn 1 st s) (fun d => ∃ r : Int, d = .int r ∧ 0 ≤ r ∧ r < 1000000) (by simp only [evs, ev, R.bind]) rfl rfl (by decide) (Drawn.refl hU) (fun x hx s hs => ?_) fun rs s hs hn hr => ?_
  · simp only [wipeE, List.set_cons_zero, List.set_cons_succ, ↓x_a0, ↓x_as, ↓x_atup2, ↓x_atup3, ↓x_atup4, ↓x_alst4]
    simp only [↓s_cons, ↓s_nil, ↓l_asg, ↓s_ret, ↓l_site, ↓s_exp, ↓s_pass, ↓w_non, ↓w_bl, ↓w_int, ↓w_str, ↓l_var, ↓l_con, ↓l_bin, ↓l_neg, ↓l_cmp, ↓l_chn, ↓w_isn, ↓w_notn, ↓w_and, ↓w_or, ↓l_not, ↓l_ite, ↓l_tup, ↓l_lst, ↓w_dct, ↓w_mutD, ↓mut_lst, ↓mut_dct, ↓l_idx, ↓l_slc, ↓nb_nul, ↓nb_int, ↓nb_var, ↓nb_con, ↓nb_bin, ↓nb_neg, ↓nb_idx, ↓nb_call, ↓nb_bi, ↓w_call, ↓l_bi, ↓l_bm, ↓l_isi, ↓l_xnew, ↓l_xfld, ↓l_raise, ↓l_tri, ↓l_rev, ↓x_rev_t, ↓x_rev_l, ↓w_evs, ↓w_evs0, ↓w_and0, ↓l_and1, ↓w_or0, ↓l_or1, ↓l_ssub, ↓s_whlD, ↓l_app, ↓WP_ok, ↓WS_nx, ↓WS_rt, ↓WP_bind, ↓WP_ofE, ↓WB_t, ↓WB_f, ↓WB_n, ↓WB_dec, ↓WB_all, ↓WB_any, ↓WB_lt, ↓WB_sub, ↓WB_emp, ↓WB_eqv, ↓WB_and, ↓WB_or, ↓SB_t, ↓SB_f, ↓SB_n, ↓SB_dec, ↓SB_all, ↓SB_any, ↓SB_lt, ↓SB_sub, ↓SB_emp, ↓SB_eqv, ↓SB_and, ↓SB_or, ↓EX_some, ↓EX_none, ↓EX_map, ↓EB_bl, ↓EI_int, ↓x_g0, ↓x_gs, ↓x_at0, ↓x_at1, ↓x_at2, ↓x_a0, ↓x_as, ↓x_atup2, ↓x_atup3, ↓x_atup4, ↓x_alst4, ↓x_mod_i, ↓x_bnd, ↓x_str_i, ↓x_str_b, ↓x_upper, ↓x_all, ↓x_any, ↓x_sum, ↓x_add_i, ↓x_sub_i, ↓x_mul_i, ↓x_div_i, ↓x_pow_i, ↓x_add_s, ↓x_add_t, ↓x_add_l, ↓x_mul_s, ↓x_mul_t, ↓x_mul_l, ↓x_lt_i, ↓x_le_i, ↓x_gt_i, ↓x_ge_i, ↓x_lt_s, ↓x_le_s, ↓x_eq_i, ↓x_ne_i, ↓x_eq_s, ↓x_ne_s, ↓x_eq_nil, ↓x_ne_nil, ↓x_in_s, ↓x_nin_s, ↓x_len_l, ↓x_len_t, ↓x_len_s, ↓x_tuple_l, ↓x_tuple_t, ↓x_list_t, ↓x_list_l, ↓x_list_s, ↓x_int_i, ↓x_int_b, ↓x_abs, ↓x_str_s, ↓x_slc_t, ↓x_slc_l, ↓x_slc_s, ↓x_idx_t, ↓x_idx_l, ↓x_isi_nb, ↓x_isi_ni, ↓x_isi_ns, ↓x_isi_nt, ↓x_isi_nl, ↓x_isi_nd, ↓x_isi_bb, ↓x_isi_bi, ↓x_isi_bs, ↓x_isi_bt, ↓x_isi_bl, ↓x_isi_bd, ↓x_isi_ib, ↓x_isi_ii, ↓x_isi_is, ↓x_isi_it, ↓x_isi_il, ↓x_isi_id, ↓x_isi_sb, ↓x_isi_si, ↓x_isi_ss, ↓x_isi_st, ↓x_isi_sl, ↓x_isi_sd, ↓x_isi_tb, ↓x_isi_ti, ↓x_isi_ts, ↓x_isi_tt, ↓x_isi_tl, ↓x_isi_td, ↓x_isi_lb, ↓x_isi_li, ↓x_isi_ls, ↓x_isi_lt, ↓x_isi_ll, ↓x_isi_ld, ↓x_isi_db, ↓x_isi_di, ↓x_isi_ds, ↓x_isi_dt, ↓x_isi_dl, ↓x_isi_dd, Bool.not_true, Bool.not_false, emp_flt, List.length_cons, List.length_nil, on_join, on_split, on_upper, on_count, on_rstrip, on_sindex, on_part, on_tindex, true_and, and_true, eq_self, Nat.reduceAdd, Nat.reduceLeDiff, Nat.zero_add, ↓l_pop, ↓l_popi, ↓l_ext, ↓l_fld, ↓l_mth, ↓l_new, ↓l_sfld, ↓l_aug, ↓l_augf, ↓x_aug_i, ↓x_aug_d, ↓x_aug_s, ↓x_at3, ↓x_at4, ↓x_at5, ↓x_at6, ↓x_at7, ↓x_at8, ↓x_ne_b, ↓x_eq_b, ↓nb_fld, ↓l_fst, ↓l_fst0, ↓l_fst1, ↓x_sd_s, ↓x_int_s, ↓x_in_names, ↓x_nin_names, isI_n, isI_b, isI_i, isI_s, isI_t, isI_l, isI_d, isI_c, isI_r, isB_n, isB_b, isB_i, isB_s, isB_t, isB_l, isB_d, isB_c, isB_r, isS_n, isS_b, isS_i, isS_s, isS_t, isS_l, isS_d, isS_c, isS_r, isT_n, isT_b, isT_i, isT_s, isT_t, isT_l, isT_d, isT_c, isT_r, ↓WB_isI, ↓WB_isB, ↓WB_isS, ↓WB_isT, ↓SB_isI, ↓SB_isB, ↓SB_isS, ↓SB_isT]
    refine ⟨by decide, ?_⟩
    show WPE xF (cf (n + 2) 2 [.ref 1, .int 1000000] s) _
    exact upto hs.urn ⟨by decide, by decide⟩ fun r s' h0 h1 h2 => ⟨hs.trans h2, r, rfl, h0, h1⟩
  · match rs, hn, hr with
    | [d1, d2, d3, d4], _, hr =>
      obtain ⟨a, rfl, ha⟩ := hr d1 (by simp)
      obtain ⟨b, rfl, hb⟩ := hr d2 (by simp)
      obtain ⟨c, rfl, hc⟩ := hr d3 (by simp)
      obtain ⟨d, rfl, hd⟩ := hr d4 (by simp)
      simp only [↓s_cons, ↓s_nil, ↓l_asg, ↓s_ret, ↓l_site, ↓s_exp, ↓s_pass, ↓w_non, ↓w_bl, ↓w_int, ↓w_str, ↓l_var, ↓l_con, ↓l_bin, ↓l_neg, ↓l_cmp, ↓l_chn, ↓w_isn, ↓w_notn, ↓w_and, ↓w_or, ↓l_not, ↓l_ite, ↓l_tup, ↓l_lst, ↓w_dct, ↓w_mutD, ↓mut_lst, ↓mut_dct, ↓l_idx, ↓l_slc, ↓nb_nul, ↓nb_int, ↓nb_var, ↓nb_con, ↓nb_bin, ↓nb_neg, ↓nb_idx, ↓nb_call, ↓nb_bi, ↓w_call, ↓l_bi, ↓l_bm, ↓l_isi, ↓l_xnew, ↓l_xfld, ↓l_raise, ↓l_tri, ↓l_rev, ↓x_rev_t, ↓x_rev_l, ↓w_evs, ↓w_evs0, ↓w_and0, ↓l_and1, ↓w_or0, ↓l_or1, ↓l_ssub, ↓s_whlD, ↓l_app, ↓WP_ok, ↓WS_nx, ↓WS_rt, ↓WP_bind, ↓WP_ofE, ↓WB_t, ↓WB_f, ↓WB_n, ↓WB_dec, ↓WB_all, ↓WB_any, ↓WB_lt, ↓WB_sub, ↓WB_emp, ↓WB_eqv, ↓WB_and, ↓WB_or, ↓SB_t, ↓SB_f, ↓SB_n, ↓SB_dec, ↓SB_all, ↓SB_any, ↓SB_lt, ↓SB_sub, ↓SB_emp, ↓SB_eqv, ↓SB_and, ↓SB_or, ↓EX_some, ↓EX_none, ↓EX_map, ↓EB_bl, ↓EI_int, ↓x_g0, ↓x_gs, ↓x_at0, ↓x_at1, ↓x_at2, ↓x_a0, ↓x_as, ↓x_atup2, ↓x_atup3, ↓x_atup4, ↓x_alst4, ↓x_mod_i, ↓x_bnd, ↓x_str_i, ↓x_str_b, ↓x_upper, ↓x_all, ↓x_any, ↓x_sum, ↓x_add_i, ↓x_sub_i, ↓x_mul_i, ↓x_div_i, ↓x_pow_i, ↓x_add_s, ↓x_add_t, ↓x_add_l, ↓x_mul_s, ↓x_mul_t, ↓x_mul_l, ↓x_lt_i, ↓x_le_i, ↓x_gt_i, ↓x_ge_i, ↓x_lt_s, ↓x_le_s, ↓x_eq_i, ↓x_ne_i, ↓x_eq_s, ↓x_ne_s, ↓x_eq_nil, ↓x_ne_nil, ↓x_in_s, ↓x_nin_s, ↓x_len_l, ↓x_len_t, ↓x_len_s, ↓x_tuple_l, ↓x_tuple_t, ↓x_list_t, ↓x_list_l, ↓x_list_s, ↓x_int_i, ↓x_int_b, ↓x_abs, ↓x_str_s, ↓x_slc_t, ↓x_slc_l, ↓x_slc_s, ↓x_idx_t, ↓x_idx_l, ↓x_isi_nb, ↓x_isi_ni, ↓x_isi_ns, ↓x_isi_nt, ↓x_isi_nl, ↓x_isi_nd, ↓x_isi_bb, ↓x_isi_bi, ↓x_isi_bs, ↓x_isi_bt, ↓x_isi_bl, ↓x_isi_bd, ↓x_isi_ib, ↓x_isi_ii, ↓x_isi_is, ↓x_isi_it, ↓x_isi_il, ↓x_isi_id, ↓x_isi_sb, ↓x_isi_si, ↓x_isi_ss, ↓x_isi_st, ↓x_isi_sl, ↓x_isi_sd, ↓x_isi_tb, ↓x_isi_ti, ↓x_isi_ts, ↓x_isi_tt, ↓x_isi_tl, ↓x_isi_td, ↓x_isi_lb, ↓x_isi_li, ↓x_isi_ls, ↓x_isi_lt, ↓x_isi_ll, ↓x_isi_ld, ↓x_isi_db, ↓x_isi_di, ↓x_isi_ds, ↓x_isi_dt, ↓x_isi_dl, ↓x_isi_dd, Bool.not_true, Bool.not_false, emp_flt, List.length_cons, List.length_nil, on_join, on_split, on_upper, on_count, on_rstrip, on_sindex, on_part, on_tindex, true_and, and_true, eq_self, Nat.reduceAdd, Nat.reduceLeDiff, Nat.zero_add, ↓l_pop, ↓l_popi, ↓l_ext, ↓l_fld, ↓l_mth, ↓l_new, ↓l_sfld, ↓l_aug, ↓l_augf, ↓x_aug_i, ↓x_aug_d, ↓x_aug_s, ↓x_at3, ↓x_at4, ↓x_at5, ↓x_at6, ↓x_at7, ↓x_at8, ↓x_ne_b, ↓x_eq_b, ↓nb_fld, ↓l_fst, ↓l_fst0, ↓l_fst1, ↓x_sd_s, ↓x_int_s, ↓x_in_names, ↓x_nin_names, isI_n, isI_b, isI_i, isI_s, isI_t, isI_l, isI_d, isI_c, isI_r, isB_n, isB_b, isB_i, isB_s, isB_t, isB_l, isB_d, isB_c, isB_r, isS_n, isS_b, isS_i, isS_s, isS_t, isS_l, isS_d, isS_c, isS_r, isT_n, isT_b, isT_i, isT_s, isT_t, isT_l, isT_d, isT_c, isT_r, ↓WB_isI, ↓WB_isB, ↓WB_isS, ↓WB_isT, ↓SB_isI, ↓SB_isB, ↓SB_isS, ↓SB_isT]
      exact hN a b c d s hs ha hb hc hd
theorem cut2 {st : Store} {r : Int} (h0 : 0 ≤ r) (h1 : r < 3) : ∃ cl, slcD st (.tup [.str "a", .str "b"]) none (some r) = some (.tup cl) ∧ (cl = [] ∨ cl = [.str "a"] ∨ cl = [.str "a", .str "b"]) := by
  have h : r = 0 ∨ r = 1 ∨ r = 2 := by omega
  rcases h with rfl | rfl | rfl
  · exact ⟨[], rfl, .inl rfl⟩
  · exact ⟨[.str "a"], rfl, .inr (.inl rfl)⟩
  · exact ⟨[.str "a", .str "b"], rfl, .inr (.inr rfl)⟩
def ClO (cl : List D) : Prop := cl = [] ∨ cl = [.str "a"] ∨ cl = [.str "a", .str "b"]
theorem texts {n : Nat} {s0 a b c d : D} {st : Store} {N : Env → Store → Prop} {V : D → Store → Prop} (hU : Urn st 1)
    (hN : ∀ (x : Str) cl s, Drawn 1 st s → x.length ≤ 1000 → ClO cl → N (lEnv s0 (some (.ref 1)) (some a) (some b) (some c) (some d) (some (.str x)) (some (.tup cl)) none none none none none none none) s) :
    WSE xF (run (txOf cons clss) (cf (n + 3)) (.asg (.tup [(.nm 6), (.nm 7)]) (.tup [(.call 3 [(.var 1), (.lst [(.str ""), (.str "no"), (.str "a message")])]), (.slc (.tup [(.str "a"), (.str "b")]) .nul (.call 2 [(.var 1), (.int 3)]))])) (lEnv s0 (some (.ref 1)) (some a) (some b) (some c) (some d) none none none none none none none none none) st) N V := by
  simp only [↓s_cons, ↓s_nil, ↓l_asg, ↓s_ret, ↓l_site, ↓s_exp, ↓s_pass, ↓w_non, ↓w_bl, ↓w_int, ↓w_str, ↓l_var, ↓l_con, ↓l_bin, ↓l_neg, ↓l_cmp, ↓l_chn, ↓w_isn, ↓w_notn, ↓w_and, ↓w_or, ↓l_not, ↓l_ite, ↓l_tup, ↓l_lst, ↓w_dct, ↓w_mutD, ↓mut_lst, ↓mut_dct, ↓l_idx, ↓l_slc, ↓nb_nul, ↓nb_int, ↓nb_var, ↓nb_con, ↓nb_bin, ↓nb_neg, ↓nb_idx, ↓nb_call, ↓nb_bi, ↓w_call, ↓l_bi, ↓l_bm, ↓l_isi, ↓l_xnew, ↓l_xfld, ↓l_raise, ↓l_tri, ↓l_rev, ↓x_rev_t, ↓x_rev_l, ↓w_evs, ↓w_evs0, ↓w_and0, ↓l_and1, ↓w_or0, ↓l_or1, ↓l_ssub, ↓s_whlD, ↓l_app, ↓WP_ok, ↓WS_nx, ↓WS_rt, ↓WP_bind, ↓WP_ofE, ↓WB_t, ↓WB_f, ↓WB_n, ↓WB_dec, ↓WB_all, ↓WB_any, ↓WB_lt, ↓WB_sub, ↓WB_emp, ↓WB_eqv, ↓WB_and, ↓WB_or, ↓SB_t, ↓SB_f, ↓SB_n, ↓SB_dec, ↓SB_all, ↓SB_any, ↓SB_lt, ↓SB_sub, ↓SB_emp, ↓SB_eqv, ↓SB_and, ↓SB_or, ↓EX_some, ↓EX_none, ↓EX_map, ↓EB_bl, ↓EI_int, ↓x_g0, ↓x_gs, ↓x_at0, ↓x_at1, ↓x_at2, ↓x_a0, ↓x_as, ↓x_atup2, ↓x_atup3, ↓x_atup4, ↓x_alst4, ↓x_mod_i, ↓x_bnd, ↓x_str_i, ↓x_str_b, ↓x_upper, ↓x_all, ↓x_any, ↓x_sum, ↓x_add_i, ↓x_sub_i, ↓x_mul_i, ↓x_div_i, ↓x_pow_i, ↓x_add_s, ↓x_add_t, ↓x_add_l, ↓x_mul_s, ↓x_mul_t, ↓x_mul_l, ↓x_lt_i, ↓x_le_i, ↓x_gt_i, ↓x_ge_i, ↓x_lt_s, ↓x_le_s, ↓x_eq_i, ↓x_ne_i, ↓x_eq_s, ↓x_ne_s, ↓x_eq_nil, ↓x_ne_nil, ↓x_in_s, ↓x_nin_s, ↓x_len_l, ↓x_len_t, ↓x_len_s, ↓x_tuple_l, ↓x_tuple_t, ↓x_list_t, ↓x_list_l, ↓x_list_s, ↓x_int_i, ↓x_int_b, ↓x_abs, ↓x_str_s, ↓x_slc_t, ↓x_slc_l, ↓x_slc_s, ↓x_idx_t, ↓x_idx_l, ↓x_isi_nb, ↓x_isi_ni, ↓x_isi_ns, ↓x_isi_nt, ↓x_isi_nl, ↓x_isi_nd, ↓x_isi_bb, ↓x_isi_bi, ↓x_isi_bs, ↓x_isi_bt, ↓x_isi_bl, ↓x_isi_bd, ↓x_isi_ib, ↓x_isi_ii, ↓x_isi_is, ↓x_isi_it, ↓x_isi_il, ↓x_isi_id, ↓x_isi_sb, ↓x_isi_si, ↓x_isi_ss, ↓x_isi_st, ↓x_isi_sl, ↓x_isi_sd, ↓x_isi_tb, ↓x_isi_ti, ↓x_isi_ts, ↓x_isi_tt, ↓x_isi_tl, ↓x_isi_td, ↓x_isi_lb, ↓x_isi_li, ↓x_isi_ls, ↓x_isi_lt, ↓x_isi_ll, ↓x_isi_ld, ↓x_isi_db, ↓x_isi_di, ↓x_isi_ds, ↓x_isi_dt, ↓x_isi_dl, ↓x_isi_dd, Bool.not_true, Bool.not_false, emp_flt, List.length_cons, List.length_nil, on_join, on_split, on_upper, on_count, on_rstrip, on_sindex, on_part, on_tindex, true_and, and_true, eq_self, Nat.reduceAdd, Nat.reduceLeDiff, Nat.zero_add, ↓l_pop, ↓l_popi, ↓l_ext, ↓l_fld, ↓l_mth, ↓l_new, ↓l_sfld, ↓l_aug, ↓l_augf, ↓x_aug_i, ↓x_aug_d, ↓x_aug_s, ↓x_at3, ↓x_at4, ↓x_at5, ↓x_at6, ↓x_at7, ↓x_at8, ↓x_ne_b, ↓x_eq_b, ↓nb_fld, ↓l_fst, ↓l_fst0, ↓l_fst1, ↓x_sd_s, ↓x_int_s, ↓x_in_names, ↓x_nin_names, isI_n, isI_b, isI_i, isI_s, isI_t, isI_l, isI_d, isI_c, isI_r, isB_n, isB_b, isB_i, isB_s, isB_t, isB_l, isB_d, isB_c, isB_r, isS_n, isS_b, isS_i, isS_s, isS_t, isS_l, isS_d, isS_c, isS_r, isT_n, isT_b, isT_i, isT_s, isT_t, isT_l, isT_d, isT_c, isT_r, ↓WB_isI, ↓WB_isB, ↓WB_isS, ↓WB_isT, ↓SB_isI, ↓SB_isB, ↓SB_isS, ↓SB_isT]
  refine choice hU ⟨by decide, by decide⟩ fun x s hx h1 => ?_
  obtain ⟨z, rfl, hz⟩ : ∃ z : Str, x = .str z ∧ z.length ≤ 1000 := by
    simp only [List.mem_cons, List.not_mem_nil, or_false] at hx
    rcases hx with rfl | rfl | rfl
    · exact ⟨_, rfl, by decide⟩
    · exact ⟨_, rfl, by decide⟩
    · exact ⟨_, rfl, by decide⟩
  refine upto h1.urn ⟨by decide, by decide⟩ fun r s' h2 h3 h4 => ?_
  obtain ⟨cl, e1, e2⟩ := cut2 (st := s') h2 h3
  simp only [↓s_cons, ↓s_nil, ↓l_asg, ↓s_ret, ↓l_site, ↓s_exp, ↓s_pass, ↓w_non, ↓w_bl, ↓w_int, ↓w_str, ↓l_var, ↓l_con, ↓l_bin, ↓l_neg, ↓l_cmp, ↓l_chn, ↓w_isn, ↓w_notn, ↓w_and, ↓w_or, ↓l_not, ↓l_ite, ↓l_tup, ↓l_lst, ↓w_dct, ↓w_mutD, ↓mut_lst, ↓mut_dct, ↓l_idx, ↓l_slc, ↓nb_nul, ↓nb_int, ↓nb_var, ↓nb_con, ↓nb_bin, ↓nb_neg, ↓nb_idx, ↓nb_call, ↓nb_bi, ↓w_call, ↓l_bi, ↓l_bm, ↓l_isi, ↓l_xnew, ↓l_xfld, ↓l_raise, ↓l_tri, ↓l_rev, ↓x_rev_t, ↓x_rev_l, ↓w_evs, ↓w_evs0, ↓w_and0, ↓l_and1, ↓w_or0, ↓l_or1, ↓l_ssub, ↓s_whlD, ↓l_app, ↓WP_ok, ↓WS_nx, ↓WS_rt, ↓WP_bind, ↓WP_ofE, ↓WB_t, ↓WB_f, ↓WB_n, ↓WB_dec, ↓WB_all, ↓WB_any, ↓WB_lt, ↓WB_sub, ↓WB_emp, ↓WB_eqv, ↓WB_and, ↓WB_or, ↓SB_t, ↓SB_f, ↓SB_n, ↓SB_dec, ↓SB_all, ↓SB_any, ↓SB_lt, ↓SB_sub, ↓SB_emp, ↓SB_eqv, ↓SB_and, ↓SB_or, ↓EX_some, ↓EX_none, ↓EX_map, ↓EB_bl, ↓EI_int, ↓x_g0, ↓x_gs, ↓x_at0, ↓x_at1, ↓x_at2, ↓x_a0, ↓x_as, ↓x_atup2, ↓x_atup3, ↓x_atup4, ↓x_alst4, ↓x_mod_i, ↓x_bnd, ↓x_str_i, ↓x_str_b, ↓x_upper, ↓x_all, ↓x_any, ↓x_sum, ↓x_add_i, ↓x_sub_i, ↓x_mul_i, ↓x_div_i, ↓x_pow_i, ↓x_add_s, ↓x_add_t, ↓x_add_l, ↓x_mul_s, ↓x_mul_t, ↓x_mul_l, ↓x_lt_i, ↓x_le_i, ↓x_gt_i, ↓x_ge_i, ↓x_lt_s, ↓x_le_s, ↓x_eq_i, ↓x_ne_i, ↓x_eq_s, ↓x_ne_s, ↓x_eq_nil, ↓x_ne_nil, ↓x_in_s, ↓x_nin_s, ↓x_len_l, ↓x_len_t, ↓x_len_s, ↓x_tuple_l, ↓x_tuple_t, ↓x_list_t, ↓x_list_l, ↓x_list_s, ↓x_int_i, ↓x_int_b, ↓x_abs, ↓x_str_s, ↓x_slc_t, ↓x_slc_l, ↓x_slc_s, ↓x_idx_t, ↓x_idx_l, ↓x_isi_nb, ↓x_isi_ni, ↓x_isi_ns, ↓x_isi_nt, ↓x_isi_nl, ↓x_isi_nd, ↓x_isi_bb, ↓x_isi_bi, ↓x_isi_bs, ↓x_isi_bt, ↓x_isi_bl, ↓x_isi_bd, ↓x_isi_ib, ↓x_isi_ii, ↓x_isi_is, ↓x_isi_it, ↓x_isi_il, ↓x_isi_id, ↓x_isi_sb, ↓x_isi_si, ↓x_isi_ss, ↓x_isi_st, ↓x_isi_sl, ↓x_isi_sd, ↓x_isi_tb, ↓x_isi_ti, ↓x_isi_ts, ↓x_isi_tt, ↓x_isi_tl, ↓x_isi_td, ↓x_isi_lb, ↓x_isi_li, ↓x_isi_ls, ↓x_isi_lt, ↓x_isi_ll, ↓x_isi_ld, ↓x_isi_db, ↓x_isi_di, ↓x_isi_ds, ↓x_isi_dt, ↓x_isi_dl, ↓x_isi_dd, Bool.not_true, Bool.not_false, emp_flt, List.length_cons, List.length_nil, on_join, on_split, on_upper, on_count, on_rstrip, on_sindex, on_part, on_tindex, true_and, and_true, eq_self, Nat.reduceAdd, Nat.reduceLeDiff, Nat.zero_add, ↓l_pop, ↓l_popi, ↓l_ext, ↓l_fld, ↓l_mth, ↓l_new, ↓l_sfld, ↓l_aug, ↓l_augf, ↓x_aug_i, ↓x_aug_d, ↓x_aug_s, ↓x_at3, ↓x_at4, ↓x_at5, ↓x_at6, ↓x_at7, ↓x_at8, ↓x_ne_b, ↓x_eq_b, ↓nb_fld, ↓l_fst, ↓l_fst0, ↓l_fst1, ↓x_sd_s, ↓x_int_s, ↓x_in_names, ↓x_nin_names, isI_n, isI_b, isI_i, isI_s, isI_t, isI_l, isI_d, isI_c, isI_r, isB_n, isB_b, isB_i, isB_s, isB_t, isB_l, isB_d, isB_c, isB_r, isS_n, isS_b, isS_i, isS_s, isS_t, isS_l, isS_d, isS_c, isS_r, isT_n, isT_b, isT_i, isT_s, isT_t, isT_l, isT_d, isT_c, isT_r, ↓WB_isI, ↓WB_isB, ↓WB_isS, ↓WB_isT, ↓SB_isI, ↓SB_isB, ↓SB_isS, ↓SB_isT]
  have e1 : cutL [D.str "a", D.str "b"] none (some r) = cl := D.tup.inj (Option.some.inj e1)
  rw [e1]
  exact hN z cl s' (h1.trans h4) hz e2
theorem names {n : Nat} {s0 a b c d x y : D} {st : Store} {N : Env → Store → Prop} {V : D → Store → Prop} (hU : Urn st 1)
    (hN : ∀ (f g : Str) s, Drawn 1 st s → f.length ≤ 1000 → g.length ≤ 1000 → N (lEnv s0 (some (.ref 1)) (some a) (some b) (some c) (some d) (some x) (some y) (some (.str f)) (some (.str g)) none none none none none) s) :
    WSE xF (run (txOf cons clss) (cf (n + 3)) (.asg (.tup [(.nm 8), (.nm 9)]) (.tup [(.call 3 [(.var 1), (.lst [(.str "cells"), (.str "slant")])]), (.call 3 [(.var 1), (.lst [(.str "plain"), (.str "f1")])])])) (lEnv s0 (some (.ref 1)) (some a) (some b) (some c) (some d) (some x) (some y) none none none none none none none) st) N V := by
  simp only [↓s_cons, ↓s_nil, ↓l_asg, ↓s_ret, ↓l_site, ↓s_exp, ↓s_pass, ↓w_non, ↓w_bl, ↓w_int, ↓w_str, ↓l_var, ↓l_con, ↓l_bin, ↓l_neg, ↓l_cmp, ↓l_chn, ↓w_isn, ↓w_notn, ↓w_and, ↓w_or, ↓l_not, ↓l_ite, ↓l_tup, ↓l_lst, ↓w_dct, ↓w_mutD, ↓mut_lst, ↓mut_dct, ↓l_idx, ↓l_slc, ↓nb_nul, ↓nb_int, ↓nb_var, ↓nb_con, ↓nb_bin, ↓nb_neg, ↓nb_idx, ↓nb_call, ↓nb_bi, ↓w_call, ↓l_bi, ↓l_bm, ↓l_isi, ↓l_xnew, ↓l_xfld, ↓l_raise, ↓l_tri, ↓l_rev, ↓x_rev_t, ↓x_rev_l, ↓w_evs, ↓w_evs0, ↓w_and0, ↓l_and1, ↓w_or0, ↓l_or1, ↓l_ssub, ↓s_whlD, ↓l_app, ↓WP_ok, ↓WS_nx, ↓WS_rt, ↓WP_bind, ↓WP_ofE, ↓WB_t, ↓WB_f, ↓WB_n, ↓WB_dec, ↓WB_all, ↓WB_any, ↓WB_lt, ↓WB_sub, ↓WB_emp, ↓WB_eqv, ↓WB_and, ↓WB_or, ↓SB_t, ↓SB_f, ↓SB_n, ↓SB_dec, ↓SB_all, ↓SB_any, ↓SB_lt, ↓SB_sub, ↓SB_emp, ↓SB_eqv, ↓SB_and, ↓SB_or, ↓EX_some, ↓EX_none, ↓EX_map, ↓EB_bl, ↓EI_int, ↓x_g0, ↓x_gs, ↓x_at0, ↓x_at1, ↓x_at2, ↓x_a0, ↓x_as, ↓x_atup2, ↓x_atup3, ↓x_atup4, ↓x_alst4, ↓x_mod_i, ↓x_bnd, ↓x_str_i, ↓x_str_b, ↓x_upper, ↓x_all, ↓x_any, ↓x_sum, ↓x_add_i, ↓x_sub_i, ↓x_mul_i, ↓x_div_i, ↓x_pow_i, ↓x_add_s, ↓x_add_t, ↓x_add_l, ↓x_mul_s, ↓x_mul_t, ↓x_mul_l, ↓x_lt_i, ↓x_le_i, ↓x_gt_i, ↓x_ge_i, ↓x_lt_s, ↓x_le_s, ↓x_eq_i, ↓x_ne_i, ↓x_eq_s, ↓x_ne_s, ↓x_eq_nil, ↓x_ne_nil, ↓x_in_s, ↓x_nin_s, ↓x_len_l, ↓x_len_t, ↓x_len_s, ↓x_tuple_l, ↓x_tuple_t, ↓x_list_t, ↓x_list_l, ↓x_list_s, ↓x_int_i, ↓x_int_b, ↓x_abs, ↓x_str_s, ↓x_slc_t, ↓x_slc_l, ↓x_slc_s, ↓x_idx_t, ↓x_idx_l, ↓x_isi_nb, ↓x_isi_ni, ↓x_isi_ns, ↓x_isi_nt, ↓x_isi_nl, ↓x_isi_nd, ↓x_isi_bb, ↓x_isi_bi, ↓x_isi_bs, ↓x_isi_bt, ↓x_isi_bl, ↓x_isi_bd, ↓x_isi_ib, ↓x_isi_ii, ↓x_isi_is, ↓x_isi_it, ↓x_isi_il, ↓x_isi_id, ↓x_isi_sb, ↓x_isi_si, ↓x_isi_ss, ↓x_isi_st, ↓x_isi_sl, ↓x_isi_sd, ↓x_isi_tb, ↓x_isi_ti, ↓x_isi_ts, ↓x_isi_tt, ↓x_isi_tl, ↓x_isi_td, ↓x_isi_lb, ↓x_isi_li, ↓x_isi_ls, ↓x_isi_lt, ↓x_isi_ll, ↓x_isi_ld, ↓x_isi_db, ↓x_isi_di, ↓x_isi_ds, ↓x_isi_dt, ↓x_isi_dl, ↓x_isi_dd, Bool.not_true, Bool.not_false, emp_flt, List.length_cons, List.length_nil, on_join, on_split, on_upper, on_count, on_rstrip, on_sindex, on_part, on_tindex, true_and, and_true, eq_self, Nat.reduceAdd, Nat.reduceLeDiff, Nat.zero_add, ↓l_pop, ↓l_popi, ↓l_ext, ↓l_fld, ↓l_mth, ↓l_new, ↓l_sfld, ↓l_aug, ↓l_augf, ↓x_aug_i, ↓x_aug_d, ↓x_aug_s, ↓x_at3, ↓x_at4, ↓x_at5, ↓x_at6, ↓x_at7, ↓x_at8, ↓x_ne_b, ↓x_eq_b, ↓nb_fld, ↓l_fst, ↓l_fst0, ↓l_fst1, ↓x_sd_s, ↓x_int_s, ↓x_in_names, ↓x_nin_names, isI_n, isI_b, isI_i, isI_s, isI_t, isI_l, isI_d, isI_c, isI_r, isB_n, isB_b, isB_i, isB_s, isB_t, isB_l, isB_d, isB_c, isB_r, isS_n, isS_b, isS_i, isS_s, isS_t, isS_l, isS_d, isS_c, isS_r, isT_n, isT_b, isT_i, isT_s, isT_t, isT_l, isT_d, isT_c, isT_r, ↓WB_isI, ↓WB_isB, ↓WB_isS, ↓WB_isT, ↓SB_isI, ↓SB_isB, ↓SB_isS, ↓SB_isT]
  refine choice hU ⟨by decide, by decide⟩ fun f s hf h1 => ?_
  obtain ⟨f, rfl, hf'⟩ : ∃ z : Str, f = .str z ∧ z.length ≤ 1000 := by
    simp only [List.mem_cons, List.not_mem_nil, or_false] at hf
    rcases hf with rfl | rfl
    · exact ⟨_, rfl, by decide⟩
    · exact ⟨_, rfl, by decide⟩
  refine choice h1.urn ⟨by decide, by decide⟩ fun g s' hg h2 => ?_
  obtain ⟨g, rfl, hg'⟩ : ∃ z : Str, g = .str z ∧ z.length ≤ 1000 := by
    simp only [List.mem_cons, List.not_mem_nil, or_false] at hg
    rcases hg with rfl | rfl
    · exact ⟨_, rfl, by decide⟩
    · exact ⟨_, rfl, by decide⟩
  exact hN f g s' (h1.trans h2) hf' hg'
/-- the store behind the errors -/
def st5 (x0 x1 : MO) (a b c d : Int) (x : Str) (cl : List D) (f g : Str) : Store :=
  [x0, x1, .exc 1001 [(1, .int b), (0, .int a)], .exc 1002 [(2, .str f)], .exc 1003 [(4, .tup cl), (3, .str g)], .exc 1004 [(4, .tup cl)], .exc 1005 [(5, .int c)],
    .lst [.ref 2, .ref 3, .ref 4, .ref 5, .ref 6]]
theorem make1 {n : Nat} {s0 : D} {x0 x1 : MO} {a b c d : Int} {x f g : Str} {cl : List D} {N : Env → Store → Prop} {V : D → Store → Prop} (ha : 0 ≤ a ∧ a < 1000000) (hb : 0 ≤ b ∧ b < 1000000) (hc : 0 ≤ c ∧ c < 1000000) (hf : f.length ≤ 1000) (hg : g.length ≤ 1000)
    (hN : N (lEnv s0 (some (.ref 1)) (some (.int a)) (some (.int b)) (some (.int c)) (some (.int d)) (some (.str x)) (some (.tup cl)) (some (.str f)) (some (.str g)) (some (.ref 7)) none none none none) (st5 x0 x1 a b c d x cl f g)) :
    WSE xF (run (txOf cons clss) (cf n) (.asg (.nm 10) (.mut (.lst [(.xnew 1001 [(.var 2), (.var 3)]), (.xnew 1002 [(.var 8)]), (.xnew 1003 [(.var 9), (.var 7)]), (.xnew 1004 [(.var 7)]), (.xnew 1005 [(.var 4)])])))
      (lEnv s0 (some (.ref 1)) (some (.int a)) (some (.int b)) (some (.int c)) (some (.int d)) (some (.str x)) (some (.tup cl)) (some (.str f)) (some (.str g)) none none none none none) [x0, x1]) N V := by
  have e1 : ∀ P : List (Nat × D) → Prop, EX ((txOf cons clss).exf 1001 [.int a, .int b]) P ↔ P [(1, .int b), (0, .int a)] := fun P => EX_eq (exf1 ha hb)
  have e2 : ∀ P : List (Nat × D) → Prop, EX ((txOf cons clss).exf 1002 [.str f]) P ↔ P [(2, .str f)] := fun P => EX_eq (exf2 hf)
  have e3 : ∀ P : List (Nat × D) → Prop, EX ((txOf cons clss).exf 1003 [.str g, .tup cl]) P ↔ P [(4, .tup cl), (3, .str g)] := fun P => EX_eq (exf3 hg)
  have e4 : ∀ P : List (Nat × D) → Prop, EX ((txOf cons clss).exf 1004 [.tup cl]) P ↔ P [(4, .tup cl)] := fun P => EX_eq exf4
  have e5 : ∀ P : List (Nat × D) → Prop, EX ((txOf cons clss).exf 1005 [.int c]) P ↔ P [(5, .int c)] := fun P => EX_eq (exf5 hc)
  simp only [↓s_cons, ↓s_nil, ↓l_asg, ↓s_ret, ↓l_site, ↓s_exp, ↓s_pass, ↓w_non, ↓w_bl, ↓w_int, ↓w_str, ↓l_var, ↓l_con, ↓l_bin, ↓l_neg, ↓l_cmp, ↓l_chn, ↓w_isn, ↓w_notn, ↓w_and, ↓w_or, ↓l_not, ↓l_ite, ↓l_tup, ↓l_lst, ↓w_dct, ↓w_mutD, ↓mut_lst, ↓mut_dct, ↓l_idx, ↓l_slc, ↓nb_nul, ↓nb_int, ↓nb_var, ↓nb_con, ↓nb_bin, ↓nb_neg, ↓nb_idx, ↓nb_call, ↓nb_bi, ↓w_call, ↓l_bi, ↓l_bm, ↓l_isi, ↓l_xnew, ↓l_xfld, ↓l_raise, ↓l_tri, ↓l_rev, ↓x_rev_t, ↓x_rev_l, ↓w_evs, ↓w_evs0, ↓w_and0, ↓l_and1, ↓w_or0, ↓l_or1, ↓l_ssub, ↓s_whlD, ↓l_app, ↓WP_ok, ↓WS_nx, ↓WS_rt, ↓WP_bind, ↓WP_ofE, ↓WB_t, ↓WB_f, ↓WB_n, ↓WB_dec, ↓WB_all, ↓WB_any, ↓WB_lt, ↓WB_sub, ↓WB_emp, ↓WB_eqv, ↓WB_and, ↓WB_or, ↓SB_t, ↓SB_f, ↓SB_n, ↓SB_dec, ↓SB_all, ↓SB_any, ↓SB_lt, ↓SB_sub, ↓SB_emp, ↓SB_eqv, ↓SB_and, ↓SB_or, ↓EX_some, ↓EX_none, ↓EX_map, ↓EB_bl, ↓EI_int, ↓x_g0, ↓x_gs, ↓x_at0, ↓x_at1, ↓x_at2, ↓x_a0, ↓x_as, ↓x_atup2, ↓x_atup3, ↓x_atup4, ↓x_alst4, ↓x_mod_i, ↓x_bnd, ↓x_str_i, ↓x_str_b, ↓x_upper, ↓x_all, ↓x_any, ↓x_sum, ↓x_add_i, ↓x_sub_i, ↓x_mul_i, ↓x_div_i, ↓x_pow_i, ↓x_add_s, ↓x_add_t, ↓x_add_l, ↓x_mul_s, ↓x_mul_t, ↓x_mul_l, ↓x_lt_i, ↓x_le_i, ↓x_gt_i, ↓x_ge_i, ↓x_lt_s, ↓x_le_s, ↓x_eq_i, ↓x_ne_i, ↓x_eq_s, ↓x_ne_s, ↓x_eq_nil, ↓x_ne_nil, ↓x_in_s, ↓x_nin_s, ↓x_len_l, ↓x_len_t, ↓x_len_s, ↓x_tuple_l, ↓x_tuple_t, ↓x_list_t, ↓x_list_l, ↓x_list_s, ↓x_int_i, ↓x_int_b, ↓x_abs, ↓x_str_s, ↓x_slc_t, ↓x_slc_l, ↓x_slc_s, ↓x_idx_t, ↓x_idx_l, ↓x_isi_nb, ↓x_isi_ni, ↓x_isi_ns, ↓x_isi_nt, ↓x_isi_nl, ↓x_isi_nd, ↓x_isi_bb, ↓x_isi_bi, ↓x_isi_bs, ↓x_isi_bt, ↓x_isi_bl, ↓x_isi_bd, ↓x_isi_ib, ↓x_isi_ii, ↓x_isi_is, ↓x_isi_it, ↓x_isi_il, ↓x_isi_id, ↓x_isi_sb, ↓x_isi_si, ↓x_isi_ss, ↓x_isi_st, ↓x_isi_sl, ↓x_isi_sd, ↓x_isi_tb, ↓x_isi_ti, ↓x_isi_ts, ↓x_isi_tt, ↓x_isi_tl, ↓x_isi_td, ↓x_isi_lb, ↓x_isi_li, ↓x_isi_ls, ↓x_isi_lt, ↓x_isi_ll, ↓x_isi_ld, ↓x_isi_db, ↓x_isi_di, ↓x_isi_ds, ↓x_isi_dt, ↓x_isi_dl, ↓x_isi_dd, Bool.not_true, Bool.not_false, emp_flt, List.length_cons, List.length_nil, on_join, on_split, on_upper, on_count, on_rstrip, on_sindex, on_part, on_tindex, true_and, and_true, eq_self, Nat.reduceAdd, Nat.reduceLeDiff, Nat.zero_add, ↓l_pop, ↓l_popi, ↓l_ext, ↓l_fld, ↓l_mth, ↓l_new, ↓l_sfld, ↓l_aug, ↓l_augf, ↓x_aug_i, ↓x_aug_d, ↓x_aug_s, ↓x_at3, ↓x_at4, ↓x_at5, ↓x_at6, ↓x_at7, ↓x_at8, ↓x_ne_b, ↓x_eq_b, ↓nb_fld, ↓l_fst, ↓l_fst0, ↓l_fst1, ↓x_sd_s, ↓x_int_s, ↓x_in_names, ↓x_nin_names, isI_n, isI_b, isI_i, isI_s, isI_t, isI_l, isI_d, isI_c, isI_r, isB_n, isB_b, isB_i, isB_s, isB_t, isB_l, isB_d, isB_c, isB_r, isS_n, isS_b, isS_i, isS_s, isS_t, isS_l, isS_d, isS_c, isS_r, isT_n, isT_b, isT_i, isT_s, isT_t, isT_l, isT_d, isT_c, isT_r, ↓WB_isI, ↓WB_isB, ↓WB_isS, ↓WB_isT, ↓SB_isI, ↓SB_isB, ↓SB_isS, ↓SB_isT, ↓e1, ↓e2, ↓e3, ↓e4, ↓e5]
  exact hN
def st6 (x0 x1 : MO) (a b c d : Int) (x : Str) (cl : List D) (f g : Str) : Store := [x0, x1, .exc 1001 [(1, .int b), (0, .int a)], .exc 1002 [(2, .str f)], .exc 1003 [(4, .tup cl), (3, .str g)], .exc 1004 [(4, .tup cl)], .exc 1005 [(5, .int c)], .lst [.ref 2, .ref 3, .ref 4, .ref 5, .ref 6], .exc 1006 [], .exc 1007 [], .exc 1008 [], .exc 1009 [], .exc 1010 [], .exc 1011 [], .lst [.ref 2, .ref 3, .ref 4, .ref 5, .ref 6, .ref 8, .ref 9, .ref 10, .ref 11, .ref 12, .ref 13]]
theorem make2 {n : Nat} {s0 : D} {x0 x1 : MO} {a b c d : Int} {x f g : Str} {cl : List D} {N : Env → Store → Prop} {V : D → Store → Prop} (hN : N (lEnv s0 (some (.ref 1)) (some (.int a)) (some (.int b)) (some (.int c)) (some (.int d)) (some (.str x)) (some (.tup cl)) (some (.str f)) (some (.str g)) (some (.ref 14)) none none none none) (st6 x0 x1 a b c d x cl f g)) :
    WSE xF (run (txOf cons clss) (cf n) (.asg (.nm 10) (.mut (.bin .add (.var 10) (.lst [(.xnew 1006 [(.var 6)]), (.xnew 1007 [(.var 6)]), (.xnew 1008 [(.var 6)]), (.xnew 1009 [(.var 6)]), (.xnew 1010 [(.var 6)]), (.xnew 1011 [(.var 6)])])))) (lEnv s0 (some (.ref 1)) (some (.int a)) (some (.int b)) (some (.int c)) (some (.int d)) (some (.str x)) (some (.tup cl)) (some (.str f)) (some (.str g)) (some (.ref 7)) none none none none) (st5 x0 x1 a b c d x cl f g)) N V := by
  simp only [↓s_cons, ↓s_nil, ↓l_asg, ↓s_ret, ↓l_site, ↓s_exp, ↓s_pass, ↓w_non, ↓w_bl, ↓w_int, ↓w_str, ↓l_var, ↓l_con, ↓l_bin, ↓l_neg, ↓l_cmp, ↓l_chn, ↓w_isn, ↓w_notn, ↓w_and, ↓w_or, ↓l_not, ↓l_ite, ↓l_tup, ↓l_lst, ↓w_dct, ↓w_mutD, ↓mut_lst, ↓mut_dct, ↓l_idx, ↓l_slc, ↓nb_nul, ↓nb_int, ↓nb_var, ↓nb_con, ↓nb_bin, ↓nb_neg, ↓nb_idx, ↓nb_call, ↓nb_bi, ↓w_call, ↓l_bi, ↓l_bm, ↓l_isi, ↓l_xnew, ↓l_xfld, ↓l_raise, ↓l_tri, ↓l_rev, ↓x_rev_t, ↓x_rev_l, ↓w_evs, ↓w_evs0, ↓w_and0, ↓l_and1, ↓w_or0, ↓l_or1, ↓l_ssub, ↓s_whlD, ↓l_app, ↓WP_ok, ↓WS_nx, ↓WS_rt, ↓WP_bind, ↓WP_ofE, ↓WB_t, ↓WB_f, ↓WB_n, ↓WB_dec, ↓WB_all, ↓WB_any, ↓WB_lt, ↓WB_sub, ↓WB_emp, ↓WB_eqv, ↓WB_and, ↓WB_or, ↓SB_t, ↓SB_f, ↓SB_n, ↓SB_dec, ↓SB_all, ↓SB_any, ↓SB_lt, ↓SB_sub, ↓SB_emp, ↓SB_eqv, ↓SB_and, ↓SB_or, ↓EX_some, ↓EX_none, ↓EX_map, ↓EB_bl, ↓EI_int, ↓x_g0, ↓x_gs, ↓x_at0, ↓x_at1, ↓x_at2, ↓x_a0, ↓x_as, ↓x_atup2, ↓x_atup3, ↓x_atup4, ↓x_alst4, ↓x_mod_i, ↓x_bnd, ↓x_str_i, ↓x_str_b, ↓x_upper, ↓x_all, ↓x_any, ↓x_sum, ↓x_add_i, ↓x_sub_i, ↓x_mul_i, ↓x_div_i, ↓x_pow_i, ↓x_add_s, ↓x_add_t, ↓x_add_l, ↓x_mul_s, ↓x_mul_t, ↓x_mul_l, ↓x_lt_i, ↓x_le_i, ↓x_gt_i, ↓x_ge_i, ↓x_lt_s, ↓x_le_s, ↓x_eq_i, ↓x_ne_i, ↓x_eq_s, ↓x_ne_s, ↓x_eq_nil, ↓x_ne_nil, ↓x_in_s, ↓x_nin_s, ↓x_len_l, ↓x_len_t, ↓x_len_s, ↓x_tuple_l, ↓x_tuple_t, ↓x_list_t, ↓x_list_l, ↓x_list_s, ↓x_int_i, ↓x_int_b, ↓x_abs, ↓x_str_s, ↓x_slc_t, ↓x_slc_l, ↓x_slc_s, ↓x_idx_t, ↓x_idx_l, ↓x_isi_nb, ↓x_isi_ni, ↓x_isi_ns, ↓x_isi_nt, ↓x_isi_nl, ↓x_isi_nd, ↓x_isi_bb, ↓x_isi_bi, ↓x_isi_bs, ↓x_isi_bt, ↓x_isi_bl, ↓x_isi_bd, ↓x_isi_ib, ↓x_isi_ii, ↓x_isi_is, ↓x_isi_it, ↓x_isi_il, ↓x_isi_id, ↓x_isi_sb, ↓x_isi_si, ↓x_isi_ss, ↓x_isi_st, ↓x_isi_sl, ↓x_isi_sd, ↓x_isi_tb, ↓x_isi_ti, ↓x_isi_ts, ↓x_isi_tt, ↓x_isi_tl, ↓x_isi_td, ↓x_isi_lb, ↓x_isi_li, ↓x_isi_ls, ↓x_isi_lt, ↓x_isi_ll, ↓x_isi_ld, ↓x_isi_db, ↓x_isi_di, ↓x_isi_ds, ↓x_isi_dt, ↓x_isi_dl, ↓x_isi_dd, Bool.not_true, Bool.not_false, emp_flt, List.length_cons, List.length_nil, on_join, on_split, on_upper, on_count, on_rstrip, on_sindex, on_part, on_tindex, true_and, and_true, eq_self, Nat.reduceAdd, Nat.reduceLeDiff, Nat.zero_add, ↓l_pop, ↓l_popi, ↓l_ext, ↓l_fld, ↓l_mth, ↓l_new, ↓l_sfld, ↓l_aug, ↓l_augf, ↓x_aug_i, ↓x_aug_d, ↓x_aug_s, ↓x_at3, ↓x_at4, ↓x_at5, ↓x_at6, ↓x_at7, ↓x_at8, ↓x_ne_b, ↓x_eq_b, ↓nb_fld, ↓l_fst, ↓l_fst0, ↓l_fst1, ↓x_sd_s, ↓x_int_s, ↓x_in_names, ↓x_nin_names, isI_n, isI_b, isI_i, isI_s, isI_t, isI_l, isI_d, isI_c, isI_r, isB_n, isB_b, isB_i, isB_s, isB_t, isB_l, isB_d, isB_c, isB_r, isS_n, isS_b, isS_i, isS_s, isS_t, isS_l, isS_d, isS_c, isS_r, isT_n, isT_b, isT_i, isT_s, isT_t, isT_l, isT_d, isT_c, isT_r, ↓WB_isI, ↓WB_isB, ↓WB_isS, ↓WB_isT, ↓SB_isI, ↓SB_isB, ↓SB_isS, ↓SB_isT, ↓exf_1006, ↓exf_1007, ↓exf_1008, ↓exf_1009, ↓exf_1010, ↓exf_1011]
  refine ⟨_, rfl, ?_⟩
  simp only [↓s_cons, ↓s_nil, ↓l_asg, ↓s_ret, ↓l_site, ↓s_exp, ↓s_pass, ↓w_non, ↓w_bl, ↓w_int, ↓w_str, ↓l_var, ↓l_con, ↓l_bin, ↓l_neg, ↓l_cmp, ↓l_chn, ↓w_isn, ↓w_notn, ↓w_and, ↓w_or, ↓l_not, ↓l_ite, ↓l_tup, ↓l_lst, ↓w_dct, ↓w_mutD, ↓mut_lst, ↓mut_dct, ↓l_idx, ↓l_slc, ↓nb_nul, ↓nb_int, ↓nb_var, ↓nb_con, ↓nb_bin, ↓nb_neg, ↓nb_idx, ↓nb_call, ↓nb_bi, ↓w_call, ↓l_bi, ↓l_bm, ↓l_isi, ↓l_xnew, ↓l_xfld, ↓l_raise, ↓l_tri, ↓l_rev, ↓x_rev_t, ↓x_rev_l, ↓w_evs, ↓w_evs0, ↓w_and0, ↓l_and1, ↓w_or0, ↓l_or1, ↓l_ssub, ↓s_whlD, ↓l_app, ↓WP_ok, ↓WS_nx, ↓WS_rt, ↓WP_bind, ↓WP_ofE, ↓WB_t, ↓WB_f, ↓WB_n, ↓WB_dec, ↓WB_all, ↓WB_any, ↓WB_lt, ↓WB_sub, ↓WB_emp, ↓WB_eqv, ↓WB_and, ↓WB_or, ↓SB_t, ↓SB_f, ↓SB_n, ↓SB_dec, ↓SB_all, ↓SB_any, ↓SB_lt, ↓SB_sub, ↓SB_emp, ↓SB_eqv, ↓SB_and, ↓SB_or, ↓EX_some, ↓EX_none, ↓EX_map, ↓EB_bl, ↓EI_int, ↓x_g0, ↓x_gs, ↓x_at0, ↓x_at1, ↓x_at2, ↓x_a0, ↓x_as, ↓x_atup2, ↓x_atup3, ↓x_atup4, ↓x_alst4, ↓x_mod_i, ↓x_bnd, ↓x_str_i, ↓x_str_b, ↓x_upper, ↓x_all, ↓x_any, ↓x_sum, ↓x_add_i, ↓x_sub_i, ↓x_mul_i, ↓x_div_i, ↓x_pow_i, ↓x_add_s, ↓x_add_t, ↓x_add_l, ↓x_mul_s, ↓x_mul_t, ↓x_mul_l, ↓x_lt_i, ↓x_le_i, ↓x_gt_i, ↓x_ge_i, ↓x_lt_s, ↓x_le_s, ↓x_eq_i, ↓x_ne_i, ↓x_eq_s, ↓x_ne_s, ↓x_eq_nil, ↓x_ne_nil, ↓x_in_s, ↓x_nin_s, ↓x_len_l, ↓x_len_t, ↓x_len_s, ↓x_tuple_l, ↓x_tuple_t, ↓x_list_t, ↓x_list_l, ↓x_list_s, ↓x_int_i, ↓x_int_b, ↓x_abs, ↓x_str_s, ↓x_slc_t, ↓x_slc_l, ↓x_slc_s, ↓x_idx_t, ↓x_idx_l, ↓x_isi_nb, ↓x_isi_ni, ↓x_isi_ns, ↓x_isi_nt, ↓x_isi_nl, ↓x_isi_nd, ↓x_isi_bb, ↓x_isi_bi, ↓x_isi_bs, ↓x_isi_bt, ↓x_isi_bl, ↓x_isi_bd, ↓x_isi_ib, ↓x_isi_ii, ↓x_isi_is, ↓x_isi_it, ↓x_isi_il, ↓x_isi_id, ↓x_isi_sb, ↓x_isi_si, ↓x_isi_ss, ↓x_isi_st, ↓x_isi_sl, ↓x_isi_sd, ↓x_isi_tb, ↓x_isi_ti, ↓x_isi_ts, ↓x_isi_tt, ↓x_isi_tl, ↓x_isi_td, ↓x_isi_lb, ↓x_isi_li, ↓x_isi_ls, ↓x_isi_lt, ↓x_isi_ll, ↓x_isi_ld, ↓x_isi_db, ↓x_isi_di, ↓x_isi_ds, ↓x_isi_dt, ↓x_isi_dl, ↓x_isi_dd, Bool.not_true, Bool.not_false, emp_flt, List.length_cons, List.length_nil, on_join, on_split, on_upper, on_count, on_rstrip, on_sindex, on_part, on_tindex, true_and, and_true, eq_self, Nat.reduceAdd, Nat.reduceLeDiff, Nat.zero_add, ↓l_pop, ↓l_popi, ↓l_ext, ↓l_fld, ↓l_mth, ↓l_new, ↓l_sfld, ↓l_aug, ↓l_augf, ↓x_aug_i, ↓x_aug_d, ↓x_aug_s, ↓x_at3, ↓x_at4, ↓x_at5, ↓x_at6, ↓x_at7, ↓x_at8, ↓x_ne_b, ↓x_eq_b, ↓nb_fld, ↓l_fst, ↓l_fst0, ↓l_fst1, ↓x_sd_s, ↓x_int_s, ↓x_in_names, ↓x_nin_names, isI_n, isI_b, isI_i, isI_s, isI_t, isI_l, isI_d, isI_c, isI_r, isB_n, isB_b, isB_i, isB_s, isB_t, isB_l, isB_d, isB_c, isB_r, isS_n, isS_b, isS_i, isS_s, isS_t, isS_l, isS_d, isS_c, isS_r, isT_n, isT_b, isT_i, isT_s, isT_t, isT_l, isT_d, isT_c, isT_r, ↓WB_isI, ↓WB_isB, ↓WB_isS, ↓WB_isT, ↓SB_isI, ↓SB_isB, ↓SB_isS, ↓SB_isT]
  exact hN
def st7 (x0 x1 : MO) (a b c d : Int) (x : Str) (cl : List D) (f g : Str) : Store := [x0, x1, .exc 1001 [(1, .int b), (0, .int a)], .exc 1002 [(2, .str f)], .exc 1003 [(4, .tup cl), (3, .str g)], .exc 1004 [(4, .tup cl)], .exc 1005 [(5, .int c)], .lst [.ref 2, .ref 3, .ref 4, .ref 5, .ref 6], .exc 1006 [], .exc 1007 [], .exc 1008 [], .exc 1009 [], .exc 1010 [], .exc 1011 [], .lst [.ref 2, .ref 3, .ref 4, .ref 5, .ref 6, .ref 8, .ref 9, .ref 10, .ref 11, .ref 12, .ref 13], .exc 1012 [], .exc 1013 [], .exc 1014 [], .exc 1015 [], .exc 1016 [], .lst [.ref 2, .ref 3, .ref 4, .ref 5, .ref 6, .ref 8, .ref 9, .ref 10, .ref 11, .ref 12, .ref 13, .ref 15, .ref 16, .ref 17, .ref 18, .ref 19]]
theorem make3 {n : Nat} {s0 : D} {x0 x1 : MO} {a b c d : Int} {x f g : Str} {cl : List D} {N : Env → Store → Prop} {V : D → Store → Prop} (hN : N (lEnv s0 (some (.ref 1)) (some (.int a)) (some (.int b)) (some (.int c)) (some (.int d)) (some (.str x)) (some (.tup cl)) (some (.str f)) (some (.str g)) (some (.ref 20)) none none none none) (st7 x0 x1 a b c d x cl f g)) :
    WSE xF (run (txOf cons clss) (cf n) (.asg (.nm 10) (.mut (.bin .add (.var 10) (.lst [(.xnew 1012 [(.var 6)]), (.xnew 1013 [(.var 6)]), (.xnew 1014 [(.var 6)]), (.xnew 1015 [(.var 6)]), (.xnew 1016 [(.var 6)])])))) (lEnv s0 (some (.ref 1)) (some (.int a)) (some (.int b)) (some (.int c)) (some (.int d)) (some (.str x)) (some (.tup cl)) (some (.str f)) (some (.str g)) (some (.ref 14)) none none none none) (st6 x0 x1 a b c d x cl f g)) N V := by
  simp only [↓s_cons, ↓s_nil, ↓l_asg, ↓s_ret, ↓l_site, ↓s_exp, ↓s_pass, ↓w_non, ↓w_bl, ↓w_int, ↓w_str, ↓l_var, ↓l_con, ↓l_bin, ↓l_neg, ↓l_cmp, ↓l_chn, ↓w_isn, ↓w_notn, ↓w_and, ↓w_or, ↓l_not, ↓l_ite, ↓l_tup, ↓l_lst, ↓w_dct, ↓w_mutD, ↓mut_lst, ↓mut_dct, ↓l_idx, ↓l_slc, ↓nb_nul, ↓nb_int, ↓nb_var, ↓nb_con, ↓nb_bin, ↓nb_neg, ↓nb_idx, ↓nb_call, ↓nb_bi, ↓w_call, ↓l_bi, ↓l_bm, ↓l_isi, ↓l_xnew, ↓l_xfld, ↓l_raise, ↓l_tri, ↓l_rev, ↓x_rev_t, ↓x_rev_l, ↓w_evs, ↓w_evs0, ↓w_and0, ↓l_and1, ↓w_or0, ↓l_or1, ↓l_ssub, ↓s_whlD, ↓l_app, ↓WP_ok, ↓WS_nx, ↓WS_rt, ↓WP_bind, ↓WP_ofE, ↓WB_t, ↓WB_f, ↓WB_n, ↓WB_dec, ↓WB_all, ↓WB_any, ↓WB_lt, ↓WB_sub, ↓WB_emp, ↓WB_eqv, ↓WB_and, ↓WB_or, ↓SB_t, ↓SB_f, ↓SB_n, ↓SB_dec, ↓SB_all, ↓SB_any, ↓SB_lt, ↓SB_sub, ↓SB_emp, ↓SB_eqv, ↓SB_and, ↓SB_or, ↓EX_some, ↓EX_none, ↓EX_map, ↓EB_bl, ↓EI_int, ↓x_g0, ↓x_gs, ↓x_at0, ↓x_at1, ↓x_at2, ↓x_a0, ↓x_as, ↓x_atup2, ↓x_atup3, ↓x_atup4, ↓x_alst4, ↓x_mod_i, ↓x_bnd, ↓x_str_i, ↓x_str_b, ↓x_upper, ↓x_all, ↓x_any, ↓x_sum, ↓x_add_i, ↓x_sub_i, ↓x_mul_i, ↓x_div_i, ↓x_pow_i, ↓x_add_s, ↓x_add_t, ↓x_add_l, ↓x_mul_s, ↓x_mul_t, ↓x_mul_l, ↓x_lt_i, ↓x_le_i, ↓x_gt_i, ↓x_ge_i, ↓x_lt_s, ↓x_le_s, ↓x_eq_i, ↓x_ne_i, ↓x_eq_s, ↓x_ne_s, ↓x_eq_nil, ↓x_ne_nil, ↓x_in_s, ↓x_nin_s, ↓x_len_l, ↓x_len_t, ↓x_len_s, ↓x_tuple_l, ↓x_tuple_t, ↓x_list_t, ↓x_list_l, ↓x_list_s, ↓x_int_i, ↓x_int_b, ↓x_abs, ↓x_str_s, ↓x_slc_t, ↓x_slc_l, ↓x_slc_s, ↓x_idx_t, ↓x_idx_l, ↓x_isi_nb, ↓x_isi_ni, ↓x_isi_ns, ↓x_isi_nt, ↓x_isi_nl, ↓x_isi_nd, ↓x_isi_bb, ↓x_isi_bi, ↓x_isi_bs, ↓x_isi_bt, ↓x_isi_bl, ↓x_isi_bd, ↓x_isi_ib, ↓x_isi_ii, ↓x_isi_is, ↓x_isi_it, ↓x_isi_il, ↓x_isi_id, ↓x_isi_sb, ↓x_isi_si, ↓x_isi_ss, ↓x_isi_st, ↓x_isi_sl, ↓x_isi_sd, ↓x_isi_tb, ↓x_isi_ti, ↓x_isi_ts, ↓x_isi_tt, ↓x_isi_tl, ↓x_isi_td, ↓x_isi_lb, ↓x_isi_li, ↓x_isi_ls, ↓x_isi_lt, ↓x_isi_ll, ↓x_isi_ld, ↓x_isi_db, ↓x_isi_di, ↓x_isi_ds, ↓x_isi_dt, ↓x_isi_dl, ↓x_isi_dd, Bool.not_true, Bool.not_false, emp_flt, List.length_cons, List.length_nil, on_join, on_split, on_upper, on_count, on_rstrip, on_sindex, on_part, on_tindex, true_and, and_true, eq_self, Nat.reduceAdd, Nat.reduceLeDiff, Nat.zero_add, ↓l_pop, ↓l_popi, ↓l_ext, ↓l_fld, ↓l_mth, ↓l_new, ↓l_sfld, ↓l_aug, ↓l_augf, ↓x_aug_i, ↓x_aug_d, ↓x_aug_s, ↓x_at3, ↓x_at4, ↓x_at5, ↓x_at6, ↓x_at7, ↓x_at8, ↓x_ne_b, ↓x_eq_b, ↓nb_fld, ↓l_fst, ↓l_fst0, ↓l_fst1, ↓x_sd_s, ↓x_int_s, ↓x_in_names, ↓x_nin_names, isI_n, isI_b, isI_i, isI_s, isI_t, isI_l, isI_d, isI_c, isI_r, isB_n, isB_b, isB_i, isB_s, isB_t, isB_l, isB_d, isB_c, isB_r, isS_n, isS_b, isS_i, isS_s, isS_t, isS_l, isS_d, isS_c, isS_r, isT_n, isT_b, isT_i, isT_s, isT_t, isT_l, isT_d, isT_c, isT_r, ↓WB_isI, ↓WB_isB, ↓WB_isS, ↓WB_isT, ↓SB_isI, ↓SB_isB, ↓SB_isS, ↓SB_isT, ↓exf_1012, ↓exf_1013, ↓exf_1014, ↓exf_1015, ↓exf_1016]
  refine ⟨_, rfl, ?_⟩
  simp only [↓s_cons, ↓s_nil, ↓l_asg, ↓s_ret, ↓l_site, ↓s_exp, ↓s_pass, ↓w_non, ↓w_bl, ↓w_int, ↓w_str, ↓l_var, ↓l_con, ↓l_bin, ↓l_neg, ↓l_cmp, ↓l_chn, ↓w_isn, ↓w_notn, ↓w_and, ↓w_or, ↓l_not, ↓l_ite, ↓l_tup, ↓l_lst, ↓w_dct, ↓w_mutD, ↓mut_lst, ↓mut_dct, ↓l_idx, ↓l_slc, ↓nb_nul, ↓nb_int, ↓nb_var, ↓nb_con, ↓nb_bin, ↓nb_neg, ↓nb_idx, ↓nb_call, ↓nb_bi, ↓w_call, ↓l_bi, ↓l_bm, ↓l_isi, ↓l_xnew, ↓l_xfld, ↓l_raise, ↓l_tri, ↓l_rev, ↓x_rev_t, ↓x_rev_l, ↓w_evs, ↓w_evs0, ↓w_and0, ↓l_and1, ↓w_or0, ↓l_or1, ↓l_ssub, ↓s_whlD, ↓l_app, ↓WP_ok, ↓WS_nx, ↓WS_rt, ↓WP_bind, ↓WP_ofE, ↓WB_t, ↓WB_f, ↓WB_n, ↓WB_dec, ↓WB_all, ↓WB_any, ↓WB_lt, ↓WB_sub, ↓WB_emp, ↓WB_eqv, ↓WB_and, ↓WB_or, ↓SB_t, ↓SB_f, ↓SB_n, ↓SB_dec, ↓SB_all, ↓SB_any, ↓SB_lt, ↓SB_sub, ↓SB_emp, ↓SB_eqv, ↓SB_and, ↓SB_or, ↓EX_some, ↓EX_none, ↓EX_map, ↓EB_bl, ↓EI_int, ↓x_g0, ↓x_gs, ↓x_at0, ↓x_at1, ↓x_at2, ↓x_a0, ↓x_as, ↓x_atup2, ↓x_atup3, ↓x_atup4, ↓x_alst4, ↓x_mod_i, ↓x_bnd, ↓x_str_i, ↓x_str_b, ↓x_upper, ↓x_all, ↓x_any, ↓x_sum, ↓x_add_i, ↓x_sub_i, ↓x_mul_i, ↓x_div_i, ↓x_pow_i, ↓x_add_s, ↓x_add_t, ↓x_add_l, ↓x_mul_s, ↓x_mul_t, ↓x_mul_l, ↓x_lt_i, ↓x_le_i, ↓x_gt_i, ↓x_ge_i, ↓x_lt_s, ↓x_le_s, ↓x_eq_i, ↓x_ne_i, ↓x_eq_s, ↓x_ne_s, ↓x_eq_nil, ↓x_ne_nil, ↓x_in_s, ↓x_nin_s, ↓x_len_l, ↓x_len_t, ↓x_len_s, ↓x_tuple_l, ↓x_tuple_t, ↓x_list_t, ↓x_list_l, ↓x_list_s, ↓x_int_i, ↓x_int_b, ↓x_abs, ↓x_str_s, ↓x_slc_t, ↓x_slc_l, ↓x_slc_s, ↓x_idx_t, ↓x_idx_l, ↓x_isi_nb, ↓x_isi_ni, ↓x_isi_ns, ↓x_isi_nt, ↓x_isi_nl, ↓x_isi_nd, ↓x_isi_bb, ↓x_isi_bi, ↓x_isi_bs, ↓x_isi_bt, ↓x_isi_bl, ↓x_isi_bd, ↓x_isi_ib, ↓x_isi_ii, ↓x_isi_is, ↓x_isi_it, ↓x_isi_il, ↓x_isi_id, ↓x_isi_sb, ↓x_isi_si, ↓x_isi_ss, ↓x_isi_st, ↓x_isi_sl, ↓x_isi_sd, ↓x_isi_tb, ↓x_isi_ti, ↓x_isi_ts, ↓x_isi_tt, ↓x_isi_tl, ↓x_isi_td, ↓x_isi_lb, ↓x_isi_li, ↓x_isi_ls, ↓x_isi_lt, ↓x_isi_ll, ↓x_isi_ld, ↓x_isi_db, ↓x_isi_di, ↓x_isi_ds, ↓x_isi_dt, ↓x_isi_dl, ↓x_isi_dd, Bool.not_true, Bool.not_false, emp_flt, List.length_cons, List.length_nil, on_join, on_split, on_upper, on_count, on_rstrip, on_sindex, on_part, on_tindex, true_and, and_true, eq_self, Nat.reduceAdd, Nat.reduceLeDiff, Nat.zero_add, ↓l_pop, ↓l_popi, ↓l_ext, ↓l_fld, ↓l_mth, ↓l_new, ↓l_sfld, ↓l_aug, ↓l_augf, ↓x_aug_i, ↓x_aug_d, ↓x_aug_s, ↓x_at3, ↓x_at4, ↓x_at5, ↓x_at6, ↓x_at7, ↓x_at8, ↓x_ne_b, ↓x_eq_b, ↓nb_fld, ↓l_fst, ↓l_fst0, ↓l_fst1, ↓x_sd_s, ↓x_int_s, ↓x_in_names, ↓x_nin_names, isI_n, isI_b, isI_i, isI_s, isI_t, isI_l, isI_d, isI_c, isI_r, isB_n, isB_b, isB_i, isB_s, isB_t, isB_l, isB_d, isB_c, isB_r, isS_n, isS_b, isS_i, isS_s, isS_t, isS_l, isS_d, isS_c, isS_r, isT_n, isT_b, isT_i, isT_s, isT_t, isT_l, isT_d, isT_c, isT_r, ↓WB_isI, ↓WB_isB, ↓WB_isS, ↓WB_isT, ↓SB_isI, ↓SB_isB, ↓SB_isS, ↓SB_isT]
  exact hN
def st8 (x0 x1 : MO) (a b c d : Int) (x : Str) (cl : List D) (f g : Str) : Store := [x0, x1, .exc 1001 [(1, .int b), (0, .int a)], .exc 1002 [(2, .str f)], .exc 1003 [(4, .tup cl), (3, .str g)], .exc 1004 [(4, .tup cl)], .exc 1005 [(5, .int c)], .lst [.ref 2, .ref 3, .ref 4, .ref 5, .ref 6], .exc 1006 [], .exc 1007 [], .exc 1008 [], .exc 1009 [], .exc 1010 [], .exc 1011 [], .lst [.ref 2, .ref 3, .ref 4, .ref 5, .ref 6, .ref 8, .ref 9, .ref 10, .ref 11, .ref 12, .ref 13], .exc 1012 [], .exc 1013 [], .exc 1014 [], .exc 1015 [], .exc 1016 [], .lst [.ref 2, .ref 3, .ref 4, .ref 5, .ref 6, .ref 8, .ref 9, .ref 10, .ref 11, .ref 12, .ref 13, .ref 15, .ref 16, .ref 17, .ref 18, .ref 19], .exc 1017 [], .exc 1018 [], .exc 1019 [], .exc 1020 [], .exc 1021 [], .lst [.ref 2, .ref 3, .ref 4, .ref 5, .ref 6, .ref 8, .ref 9, .ref 10, .ref 11, .ref 12, .ref 13, .ref 15, .ref 16, .ref 17, .ref 18, .ref 19, .ref 21, .ref 22, .ref 23, .ref 24, .ref 25]]
theorem make4 {n : Nat} {s0 : D} {x0 x1 : MO} {a b c d : Int} {x f g : Str} {cl : List D} {N : Env → Store → Prop} {V : D → Store → Prop} (hN : N (lEnv s0 (some (.ref 1)) (some (.int a)) (some (.int b)) (some (.int c)) (some (.int d)) (some (.str x)) (some (.tup cl)) (some (.str f)) (some (.str g)) (some (.ref 26)) none none none none) (st8 x0 x1 a b c d x cl f g)) :
    WSE xF (run (txOf cons clss) (cf n) (.asg (.nm 10) (.mut (.bin .add (.var 10) (.lst [(.xnew 1017 [(.var 6)]), (.xnew 1018 [(.var 6)]), (.xnew 1019 [(.var 6)]), (.xnew 1020 [(.var 6)]), (.xnew 1021 [(.var 6)])])))) (lEnv s0 (some (.ref 1)) (some (.int a)) (some (.int b)) (some (.int c)) (some (.int d)) (some (.str x)) (some (.tup cl)) (some (.str f)) (some (.str g)) (some (.ref 20)) none none none none) (st7 x0 x1 a b c d x cl f g)) N V := by
  simp only [↓s_cons, ↓s_nil, ↓l_asg, ↓s_ret, ↓l_site, ↓s_exp, ↓s_pass, ↓w_non, ↓w_bl, ↓w_int, ↓w_str, ↓l_var, ↓l_con, ↓l_bin, ↓l_neg, ↓l_cmp, ↓l_chn, ↓w_isn, ↓w_notn, ↓w_and, ↓w_or, ↓l_not, ↓l_ite, ↓l_tup, ↓l_lst, ↓w_dct, ↓w_mutD, ↓mut_lst, ↓mut_dct, ↓l_idx, ↓l_slc, ↓nb_nul, ↓nb_int, ↓nb_var, ↓nb_con, ↓nb_bin, ↓nb_neg, ↓nb_idx, ↓nb_call, ↓nb_bi, ↓w_call, ↓l_bi, ↓l_bm, ↓l_isi, ↓l_xnew, ↓l_xfld, ↓l_raise, ↓l_tri, ↓l_rev, ↓x_rev_t, ↓x_rev_l, ↓w_evs, ↓w_evs0, ↓w_and0, ↓l_and1, ↓w_or0, ↓l_or1, ↓l_ssub, ↓s_whlD, ↓l_app, ↓WP_ok, ↓WS_nx, ↓WS_rt, ↓WP_bind, ↓WP_ofE, ↓WB_t, ↓WB_f, ↓WB_n, ↓WB_dec, ↓WB_all, ↓WB_any, ↓WB_lt, ↓WB_sub, ↓WB_emp, ↓WB_eqv, ↓WB_and, ↓WB_or, ↓SB_t, ↓SB_f, ↓SB_n, ↓SB_dec, ↓SB_all, ↓SB_any, ↓SB_lt, ↓SB_sub, ↓SB_emp, ↓SB_eqv, ↓SB_and, ↓SB_or, ↓EX_some, ↓EX_none, ↓EX_map, ↓EB_bl, ↓EI_int, ↓x_g0, ↓x_gs, ↓x_at0, ↓x_at1, ↓x_at2, ↓x_a0, ↓x_as, ↓x_atup2, ↓x_atup3, ↓x_atup4, ↓x_alst4, ↓x_mod_i, ↓x_bnd, ↓x_str_i, ↓x_str_b, ↓x_upper, ↓x_all, ↓x_any, ↓x_sum, ↓x_add_i, ↓x_sub_i, ↓x_mul_i, ↓x_div_i, ↓x_pow_i, ↓x_add_s, ↓x_add_t, ↓x_add_l, ↓x_mul_s, ↓x_mul_t, ↓x_mul_l, ↓x_lt_i, ↓x_le_i, ↓x_gt_i, ↓x_ge_i, ↓x_lt_s, ↓x_le_s, ↓x_eq_i, ↓x_ne_i, ↓x_eq_s, ↓x_ne_s, ↓x_eq_nil, ↓x_ne_nil, ↓x_in_s, ↓x_nin_s, ↓x_len_l, ↓x_len_t, ↓x_len_s, ↓x_tuple_l, ↓x_tuple_t, ↓x_list_t, ↓x_list_l, ↓x_list_s, ↓x_int_i, ↓x_int_b, ↓x_abs, ↓x_str_s, ↓x_slc_t, ↓x_slc_l, ↓x_slc_s, ↓x_idx_t, ↓x_idx_l, ↓x_isi_nb, ↓x_isi_ni, ↓x_isi_ns, ↓x_isi_nt, ↓x_isi_nl, ↓x_isi_nd, ↓x_isi_bb, ↓x_isi_bi, ↓x_isi_bs, ↓x_isi_bt, ↓x_isi_bl, ↓x_isi_bd, ↓x_isi_ib, ↓x_isi_ii, ↓x_isi_is, ↓x_isi_it, ↓x_isi_il, ↓x_isi_id, ↓x_isi_sb, ↓x_isi_si, ↓x_isi_ss, ↓x_isi_st, ↓x_isi_sl, ↓x_isi_sd, ↓x_isi_tb, ↓x_isi_ti, ↓x_isi_ts, ↓x_isi_tt, ↓x_isi_tl, ↓x_isi_td, ↓x_isi_lb, ↓x_isi_li, ↓x_isi_ls, ↓x_isi_lt, ↓x_isi_ll, ↓x_isi_ld, ↓x_isi_db, ↓x_isi_di, ↓x_isi_ds, ↓x_isi_dt, ↓x_isi_dl, ↓x_isi_dd, Bool.not_true, Bool.not_false, emp_flt, List.length_cons, List.length_nil, on_join, on_split, on_upper, on_count, on_rstrip, on_sindex, on_part, on_tindex, true_and, and_true, eq_self, Nat.reduceAdd, Nat.reduceLeDiff, Nat.zero_add, ↓l_pop, ↓l_popi, ↓l_ext, ↓l_fld, ↓l_mth, ↓l_new, ↓l_sfld, ↓l_aug, ↓l_augf, ↓x_aug_i, ↓x_aug_d, ↓x_aug_s, ↓x_at3, ↓x_at4, ↓x_at5, ↓x_at6, ↓x_at7, ↓x_at8, ↓x_ne_b, ↓x_eq_b, ↓nb_fld, ↓l_fst, ↓l_fst0, ↓l_fst1, ↓x_sd_s, ↓x_int_s, ↓x_in_names, ↓x_nin_names, isI_n, isI_b, isI_i, isI_s, isI_t, isI_l, isI_d, isI_c, isI_r, isB_n, isB_b, isB_i, isB_s, isB_t, isB_l, isB_d, isB_c, isB_r, isS_n, isS_b, isS_i, isS_s, isS_t, isS_l, isS_d, isS_c, isS_r, isT_n, isT_b, isT_i, isT_s, isT_t, isT_l, isT_d, isT_c, isT_r, ↓WB_isI, ↓WB_isB, ↓WB_isS, ↓WB_isT, ↓SB_isI, ↓SB_isB, ↓SB_isS, ↓SB_isT, ↓exf_1017, ↓exf_1018, ↓exf_1019, ↓exf_1020, ↓exf_1021]
  refine ⟨_, rfl, ?_⟩
  simp only [↓s_cons, ↓s_nil, ↓l_asg, ↓s_ret, ↓l_site, ↓s_exp, ↓s_pass, ↓w_non, ↓w_bl, ↓w_int, ↓w_str, ↓l_var, ↓l_con, ↓l_bin, ↓l_neg, ↓l_cmp, ↓l_chn, ↓w_isn, ↓w_notn, ↓w_and, ↓w_or, ↓l_not, ↓l_ite, ↓l_tup, ↓l_lst, ↓w_dct, ↓w_mutD, ↓mut_lst, ↓mut_dct, ↓l_idx, ↓l_slc, ↓nb_nul, ↓nb_int, ↓nb_var, ↓nb_con, ↓nb_bin, ↓nb_neg, ↓nb_idx, ↓nb_call, ↓nb_bi, ↓w_call, ↓l_bi, ↓l_bm, ↓l_isi, ↓l_xnew, ↓l_xfld, ↓l_raise, ↓l_tri, ↓l_rev, ↓x_rev_t, ↓x_rev_l, ↓w_evs, ↓w_evs0, ↓w_and0, ↓l_and1, ↓w_or0, ↓l_or1, ↓l_ssub, ↓s_whlD, ↓l_app, ↓WP_ok, ↓WS_nx, ↓WS_rt, ↓WP_bind, ↓WP_ofE, ↓WB_t, ↓WB_f, ↓WB_n, ↓WB_dec, ↓WB_all, ↓WB_any, ↓WB_lt, ↓WB_sub, ↓WB_emp, ↓WB_eqv, ↓WB_and, ↓WB_or, ↓SB_t, ↓SB_f, ↓SB_n, ↓SB_dec, ↓SB_all, ↓SB_any, ↓SB_lt, ↓SB_sub, ↓SB_emp, ↓SB_eqv, ↓SB_and, ↓SB_or, ↓EX_some, ↓EX_none, ↓EX_map, ↓EB_bl, ↓EI_int, ↓x_g0, ↓x_gs, ↓x_at0, ↓x_at1, ↓x_at2, ↓x_a0, ↓x_as, ↓x_atup2, ↓x_atup3, ↓x_atup4, ↓x_alst4, ↓x_mod_i, ↓x_bnd, ↓x_str_i, ↓x_str_b, ↓x_upper, ↓x_all, ↓x_any, ↓x_sum, ↓x_add_i, ↓x_sub_i, ↓x_mul_i, ↓x_div_i, ↓x_pow_i, ↓x_add_s, ↓x_add_t, ↓x_add_l, ↓x_mul_s, ↓x_mul_t, ↓x_mul_l, ↓x_lt_i, ↓x_le_i, ↓x_gt_i, ↓x_ge_i, ↓x_lt_s, ↓x_le_s, ↓x_eq_i, ↓x_ne_i, ↓x_eq_s, ↓x_ne_s, ↓x_eq_nil, ↓x_ne_nil, ↓x_in_s, ↓x_nin_s, ↓x_len_l, ↓x_len_t, ↓x_len_s, ↓x_tuple_l, ↓x_tuple_t, ↓x_list_t, ↓x_list_l, ↓x_list_s, ↓x_int_i, ↓x_int_b, ↓x_abs, ↓x_str_s, ↓x_slc_t, ↓x_slc_l, ↓x_slc_s, ↓x_idx_t, ↓x_idx_l, ↓x_isi_nb, ↓x_isi_ni, ↓x_isi_ns, ↓x_isi_nt, ↓x_isi_nl, ↓x_isi_nd, ↓x_isi_bb, ↓x_isi_bi, ↓x_isi_bs, ↓x_isi_bt, ↓x_isi_bl, ↓x_isi_bd, ↓x_isi_ib, ↓x_isi_ii, ↓x_isi_is, ↓x_isi_it, ↓x_isi_il, ↓x_isi_id, ↓x_isi_sb, ↓x_isi_si, ↓x_isi_ss, ↓x_isi_st, ↓x_isi_sl, ↓x_isi_sd, ↓x_isi_tb, ↓x_isi_ti, ↓x_isi_ts, ↓x_isi_tt, ↓x_isi_tl, ↓x_isi_td, ↓x_isi_lb, ↓x_isi_li, ↓x_isi_ls, ↓x_isi_lt, ↓x_isi_ll, ↓x_isi_ld, ↓x_isi_db, ↓x_isi_di, ↓x_isi_ds, ↓x_isi_dt, ↓x_isi_dl, ↓x_isi_dd, Bool.not_true, Bool.not_false, emp_flt, List.length_cons, List.length_nil, on_join, on_split, on_upper, on_count, on_rstrip, on_sindex, on_part, on_tindex, true_and, and_true, eq_self, Nat.reduceAdd, Nat.reduceLeDiff, Nat.zero_add, ↓l_pop, ↓l_popi, ↓l_ext, ↓l_fld, ↓l_mth, ↓l_new, ↓l_sfld, ↓l_aug, ↓l_augf, ↓x_aug_i, ↓x_aug_d, ↓x_aug_s, ↓x_at3, ↓x_at4, ↓x_at5, ↓x_at6, ↓x_at7, ↓x_at8, ↓x_ne_b, ↓x_eq_b, ↓nb_fld, ↓l_fst, ↓l_fst0, ↓l_fst1, ↓x_sd_s, ↓x_int_s, ↓x_in_names, ↓x_nin_names, isI_n, isI_b, isI_i, isI_s, isI_t, isI_l, isI_d, isI_c, isI_r, isB_n, isB_b, isB_i, isB_s, isB_t, isB_l, isB_d, isB_c, isB_r, isS_n, isS_b, isS_i, isS_s, isS_t, isS_l, isS_d, isS_c, isS_r, isT_n, isT_b, isT_i, isT_s, isT_t, isT_l, isT_d, isT_c, isT_r, ↓WB_isI, ↓WB_isB, ↓WB_isS, ↓WB_isT, ↓SB_isI, ↓SB_isB, ↓SB_isS, ↓SB_isT]
  exact hN
def st9 (x0 x1 : MO) (a b c d : Int) (x : Str) (cl : List D) (f g : Str) : Store := [x0, x1, .exc 1001 [(1, .int b), (0, .int a)], .exc 1002 [(2, .str f)], .exc 1003 [(4, .tup cl), (3, .str g)], .exc 1004 [(4, .tup cl)], .exc 1005 [(5, .int c)], .lst [.ref 2, .ref 3, .ref 4, .ref 5, .ref 6], .exc 1006 [], .exc 1007 [], .exc 1008 [], .exc 1009 [], .exc 1010 [], .exc 1011 [], .lst [.ref 2, .ref 3, .ref 4, .ref 5, .ref 6, .ref 8, .ref 9, .ref 10, .ref 11, .ref 12, .ref 13], .exc 1012 [], .exc 1013 [], .exc 1014 [], .exc 1015 [], .exc 1016 [], .lst [.ref 2, .ref 3, .ref 4, .ref 5, .ref 6, .ref 8, .ref 9, .ref 10, .ref 11, .ref 12, .ref 13, .ref 15, .ref 16, .ref 17, .ref 18, .ref 19], .exc 1017 [], .exc 1018 [], .exc 1019 [], .exc 1020 [], .exc 1021 [], .lst [.ref 2, .ref 3, .ref 4, .ref 5, .ref 6, .ref 8, .ref 9, .ref 10, .ref 11, .ref 12, .ref 13, .ref 15, .ref 16, .ref 17, .ref 18, .ref 19, .ref 21, .ref 22, .ref 23, .ref 24, .ref 25, .ref 27], .exc 1022 []]
theorem make5 {n : Nat} {s0 : D} {x0 x1 : MO} {a b c d : Int} {x f g : Str} {cl : List D} {N : Env → Store → Prop} {V : D → Store → Prop} (hN : N (lEnv s0 (some (.ref 1)) (some (.int a)) (some (.int b)) (some (.int c)) (some (.int d)) (some (.str x)) (some (.tup cl)) (some (.str f)) (some (.str g)) (some (.ref 26)) none none none none) (st9 x0 x1 a b c d x cl f g)) :
    WSE xF (run (txOf cons clss) (cf n) (.exp (.app (.var 10) (.xnew 1022 [(.var 6)]))) (lEnv s0 (some (.ref 1)) (some (.int a)) (some (.int b)) (some (.int c)) (some (.int d)) (some (.str x)) (some (.tup cl)) (some (.str f)) (some (.str g)) (some (.ref 26)) none none none none) (st8 x0 x1 a b c d x cl f g)) N V := by
  simp only [↓s_cons, ↓s_nil, ↓l_asg, ↓s_ret, ↓l_site, ↓s_exp, ↓s_pass, ↓w_non, ↓w_bl, ↓w_int, ↓w_str, ↓l_var, ↓l_con, ↓l_bin, ↓l_neg, ↓l_cmp, ↓l_chn, ↓w_isn, ↓w_notn, ↓w_and, ↓w_or, ↓l_not, ↓l_ite, ↓l_tup, ↓l_lst, ↓w_dct, ↓w_mutD, ↓mut_lst, ↓mut_dct, ↓l_idx, ↓l_slc, ↓nb_nul, ↓nb_int, ↓nb_var, ↓nb_con, ↓nb_bin, ↓nb_neg, ↓nb_idx, ↓nb_call, ↓nb_bi, ↓w_call, ↓l_bi, ↓l_bm, ↓l_isi, ↓l_xnew, ↓l_xfld, ↓l_raise, ↓l_tri, ↓l_rev, ↓x_rev_t, ↓x_rev_l, ↓w_evs, ↓w_evs0, ↓w_and0, ↓l_and1, ↓w_or0, ↓l_or1, ↓l_ssub, ↓s_whlD, ↓l_app, ↓WP_ok, ↓WS_nx, ↓WS_rt, ↓WP_bind, ↓WP_ofE, ↓WB_t, ↓WB_f, ↓WB_n, ↓WB_dec, ↓WB_all, ↓WB_any, ↓WB_lt, ↓WB_sub, ↓WB_emp, ↓WB_eqv, ↓WB_and, ↓WB_or, ↓SB_t, ↓SB_f, ↓SB_n, ↓SB_dec, ↓SB_all, ↓SB_any, ↓SB_lt, ↓SB_sub, ↓SB_emp, ↓SB_eqv, ↓SB_and, ↓SB_or, ↓EX_some, ↓EX_none, ↓EX_map, ↓EB_bl, ↓EI_int, ↓x_g0, ↓x_gs, ↓x_at0, ↓x_at1, ↓x_at2, ↓x_a0, ↓x_as, ↓x_atup2, ↓x_atup3, ↓x_atup4, ↓x_alst4, ↓x_mod_i, ↓x_bnd, ↓x_str_i, ↓x_str_b, ↓x_upper, ↓x_all, ↓x_any, ↓x_sum, ↓x_add_i, ↓x_sub_i, ↓x_mul_i, ↓x_div_i, ↓x_pow_i, ↓x_add_s, ↓x_add_t, ↓x_add_l, ↓x_mul_s, ↓x_mul_t, ↓x_mul_l, ↓x_lt_i, ↓x_le_i, ↓x_gt_i, ↓x_ge_i, ↓x_lt_s, ↓x_le_s, ↓x_eq_i, ↓x_ne_i, ↓x_eq_s, ↓x_ne_s, ↓x_eq_nil, ↓x_ne_nil, ↓x_in_s, ↓x_nin_s, ↓x_len_l, ↓x_len_t, ↓x_len_s, ↓x_tuple_l, ↓x_tuple_t, ↓x_list_t, ↓x_list_l, ↓x_list_s, ↓x_int_i, ↓x_int_b, ↓x_abs, ↓x_str_s, ↓x_slc_t, ↓x_slc_l, ↓x_slc_s, ↓x_idx_t, ↓x_idx_l, ↓x_isi_nb, ↓x_isi_ni, ↓x_isi_ns, ↓x_isi_nt, ↓x_isi_nl, ↓x_isi_nd, ↓x_isi_bb, ↓x_isi_bi, ↓x_isi_bs, ↓x_isi_bt, ↓x_isi_bl, ↓x_isi_bd, ↓x_isi_ib, ↓x_isi_ii, ↓x_isi_is, ↓x_isi_it, ↓x_isi_il, ↓x_isi_id, ↓x_isi_sb, ↓x_isi_si, ↓x_isi_ss, ↓x_isi_st, ↓x_isi_sl, ↓x_isi_sd, ↓x_isi_tb, ↓x_isi_ti, ↓x_isi_ts, ↓x_isi_tt, ↓x_isi_tl, ↓x_isi_td, ↓x_isi_lb, ↓x_isi_li, ↓x_isi_ls, ↓x_isi_lt, ↓x_isi_ll, ↓x_isi_ld, ↓x_isi_db, ↓x_isi_di, ↓x_isi_ds, ↓x_isi_dt, ↓x_isi_dl, ↓x_isi_dd, Bool.not_true, Bool.not_false, emp_flt, List.length_cons, List.length_nil, on_join, on_split, on_upper, on_count, on_rstrip, on_sindex, on_part, on_tindex, true_and, and_true, eq_self, Nat.reduceAdd, Nat.reduceLeDiff, Nat.zero_add, ↓l_pop, ↓l_popi, ↓l_ext, ↓l_fld, ↓l_mth, ↓l_new, ↓l_sfld, ↓l_aug, ↓l_augf, ↓x_aug_i, ↓x_aug_d, ↓x_aug_s, ↓x_at3, ↓x_at4, ↓x_at5, ↓x_at6, ↓x_at7, ↓x_at8, ↓x_ne_b, ↓x_eq_b, ↓nb_fld, ↓l_fst, ↓l_fst0, ↓l_fst1, ↓x_sd_s, ↓x_int_s, ↓x_in_names, ↓x_nin_names, isI_n, isI_b, isI_i, isI_s, isI_t, isI_l, isI_d, isI_c, isI_r, isB_n, isB_b, isB_i, isB_s, isB_t, isB_l, isB_d, isB_c, isB_r, isS_n, isS_b, isS_i, isS_s, isS_t, isS_l, isS_d, isS_c, isS_r, isT_n, isT_b, isT_i, isT_s, isT_t, isT_l, isT_d, isT_c, isT_r, ↓WB_isI, ↓WB_isB, ↓WB_isS, ↓WB_isT, ↓SB_isI, ↓SB_isB, ↓SB_isS, ↓SB_isT, ↓exf_1022]
  refine ⟨rfl, _, rfl, ?_⟩
  exact hN
end Law
end Cip

set_option maxHeartbeats 4000000
namespace Cip
open PySem
local macro_rules | `(tactic| walk_at "cip") => `(tactic| simp only [s_cons, s_nil, s_asg, s_ret, s_ite, s_exp, s_pass, w_non, w_bl, w_int, w_str, w_var, w_con, w_bin, w_neg, w_cmp, w_isn, w_notn, w_and, w_or, w_not, w_ite, w_tup, w_lst, w_idx, w_call, s_ssubD, s_forD, s_whlD, w_mutD, w_appD, mut_lst, asg_tup2, asg_tup3, int_i, len_l, len_t, len_s, idx_l, idx_t, tuple_l, w_bi, w_isi, w_evs, w_evs0, w_and0, w_and1, w_or0, w_or1, asg_nm, ex_some, ex_var, ex_int, ex_bl, startE, List.length_cons, List.length_nil, List.map_cons, List.map_nil, List.getElem?_cons_zero, List.getElem?_cons_succ, List.set_cons_zero, List.set_cons_succ, List.cons_append, List.nil_append, List.replicate, ex_ite, b_add_i, b_sub_i, b_mul_i, b_mod_i, b_div_i, b_pow_i, b_add_s, b_add_t, b_add_l, b_mul_s, b_mul_t, b_mul_l, c_lt_i, c_le_i, c_gt_i, c_ge_i, c_lt_s, c_le_s, c_eq_i, c_ne_i, c_eq_s, c_ne_s, WP_ok, WS_nx, WS_rt, true_and, and_true])
local macro_rules | `(tactic| walk_at "cip2") => `(tactic| simp only [s_cons, s_nil, s_asg, s_ret, s_ite, s_exp, s_pass, w_non, w_bl, w_int, w_str, w_var, w_con, w_bin, w_neg, w_cmp, w_isn, w_notn, w_and, w_or, w_not, w_ite, w_tup, w_lst, w_idx, w_call, s_ssubD, s_forD, s_whlD, w_mutD, w_appD, mut_lst, asg_tup2, asg_tup3, int_i, len_l, len_t, len_s, idx_l, idx_t, tuple_l, w_bi, w_isi, w_evs, w_evs0, w_and0, w_and1, w_or0, w_or1, asg_nm, ex_some, ex_var, ex_int, ex_bl, startE, List.length_cons, List.length_nil, List.map_cons, List.map_nil, List.getElem?_cons_zero, List.getElem?_cons_succ, List.set_cons_zero, List.set_cons_succ, List.cons_append, List.nil_append, List.replicate, ex_ite, b_add_i, b_sub_i, b_mul_i, b_mod_i, b_div_i, b_pow_i, b_add_s, b_add_t, b_add_l, b_mul_s, b_mul_t, b_mul_l, c_lt_i, c_le_i, c_gt_i, c_ge_i, c_lt_s, c_le_s, c_eq_i, c_ne_i, c_eq_s, c_ne_s, WP_ok, WS_nx, WS_rt, true_and, and_true, w_slc, E.nulB, eq_self, if_true, if_false, Bool.false_eq_true, WP_bind, WP_of, bnd_int, Bool.not_true, Bool.not_false])
local macro_rules | `(tactic| walk_at "cip3") => `(tactic| simp only [s_cons, s_nil, s_asg, s_ret, s_ite, s_exp, s_pass, w_non, w_bl, w_int, w_str, w_var, w_con, w_bin, w_neg, w_cmp, w_isn, w_notn, w_and, w_or, w_not, w_ite, w_tup, w_lst, w_idx, w_call, s_ssubD, s_forD, s_whlD, w_mutD, w_appD, mut_lst, asg_tup2, asg_tup3, int_i, len_l, len_t, len_s, idx_l, idx_t, tuple_l, w_bi, w_isi, w_evs, w_evs0, w_and0, w_and1, w_or0, w_or1, asg_nm, ex_some, ex_var, ex_int, ex_bl, startE, List.length_cons, List.length_nil, List.map_cons, List.map_nil, List.getElem?_cons_zero, List.getElem?_cons_succ, List.set_cons_zero, List.set_cons_succ, List.cons_append, List.nil_append, List.replicate, ex_ite, b_add_i, b_sub_i, b_mul_i, b_mod_i, b_div_i, b_pow_i, b_add_s, b_add_t, b_add_l, b_mul_s, b_mul_t, b_mul_l, c_lt_i, c_le_i, c_gt_i, c_ge_i, c_lt_s, c_le_s, c_eq_i, c_ne_i, c_eq_s, c_ne_s, WP_ok, WS_nx, WS_rt, true_and, and_true, w_slc, E.nulB, eq_self, if_true, if_false, Bool.false_eq_true, WP_bind, WP_of, bnd_int, Bool.not_true, Bool.not_false, w_chn])
local macro_rules | `(tactic| walk_at "z0") => `(tactic| simp only [startE, List.map_cons, List.map_nil, List.length_cons, List.length_nil, Nat.reduceAdd, Nat.reduceSub, List.replicate, List.cons_append, List.nil_append])

namespace Law
/-! V05: the law, its end. -/
def stF (x0 x1 : MO) (a b c d : Int) (x : Str) (cl : List D) (f g : Str) : Store := [x0, x1, .exc 1001 [(1, .int b), (0, .int a)], .exc 1002 [(2, .str f)], .exc 1003 [(4, .tup cl), (3, .str g)], .exc 1004 [(4, .tup cl)], .exc 1005 [(5, .int c)], .lst [.ref 2, .ref 3, .ref 4, .ref 5, .ref 6], .exc 1006 [], .exc 1007 [], .exc 1008 [], .exc 1009 [], .exc 1010 [], .exc 1011 [], .lst [.ref 2, .ref 3, .ref 4, .ref 5, .ref 6, .ref 8, .ref 9, .ref 10, .ref 11, .ref 12, .ref 13], .exc 1012 [], .exc 1013 [], .exc 1014 [], .exc 1015 [], .exc 1016 [], .lst [.ref 2, .ref 3, .ref 4, .ref 5, .ref 6, .ref 8, .ref 9, .ref 10, .ref 11, .ref 12, .ref 13, .ref 15, .ref 16, .ref 17, .ref 18, .ref 19], .exc 1017 [], .exc 1018 [], .exc 1019 [], .exc 1020 [], .exc 1021 [], .lst [.ref 2, .ref 3, .ref 4, .ref 5, .ref 6, .ref 8, .ref 9, .ref 10, .ref 11, .ref 12, .ref 13, .ref 15, .ref 16, .ref 17, .ref 18, .ref 19, .ref 21, .ref 22, .ref 23, .ref 24, .ref 25, .ref 27], .exc 1022 [], .exc 1001 [(1, .int c), (0, .int d)], .exc 1002 [(2, .str "bold")], .exc 1003 [(4, .tup []), (3, .str "x")], .exc 1004 [(4, .tup [.str "z"])], .exc 1005 [(5, .int d)]]
theorem make6 {n : Nat} {s0 : D} {x0 x1 : MO} {a b c d : Int} {x f g : Str} {cl : List D} {N : Env → Store → Prop} {V : D → Store → Prop} (hc : 0 ≤ c ∧ c < 1000000) (hd : 0 ≤ d ∧ d < 1000000) (hN : N (lEnv s0 (some (.ref 1)) (some (.int a)) (some (.int b)) (some (.int c)) (some (.int d)) (some (.str x)) (some (.tup cl)) (some (.str f)) (some (.str g)) (some (.ref 26)) (some (.lst [.ref 28, .ref 29, .ref 30, .ref 31, .ref 32])) none none none) (stF x0 x1 a b c d x cl f g)) :
    WSE xF (run (txOf cons clss) (cf n) (.asg (.nm 11) (.lst [(.xnew 1001 [(.var 5), (.var 4)]), (.xnew 1002 [(.str "bold")]), (.xnew 1003 [(.str "x"), (.tup [])]), (.xnew 1004 [(.tup [(.str "z")])]), (.xnew 1005 [(.var 5)])])) (lEnv s0 (some (.ref 1)) (some (.int a)) (some (.int b)) (some (.int c)) (some (.int d)) (some (.str x)) (some (.tup cl)) (some (.str f)) (some (.str g)) (some (.ref 26)) none none none none) (st9 x0 x1 a b c d x cl f g)) N V := by
  have e1 : ∀ P : List (Nat × D) → Prop, EX ((txOf cons clss).exf 1001 [.int d, .int c]) P ↔ P [(1, .int c), (0, .int d)] := fun P => EX_eq (exf1 hd hc)
  have e2 : ∀ P : List (Nat × D) → Prop, EX ((txOf cons clss).exf 1002 [.str "bold"]) P ↔ P [(2, .str "bold")] := fun P => EX_eq (exf2 (by decide))
  have e3 : ∀ P : List (Nat × D) → Prop, EX ((txOf cons clss).exf 1003 [.str "x", .tup []]) P ↔ P [(4, .tup []), (3, .str "x")] := fun P => EX_eq (exf3 (by decide))
  have e4 : ∀ P : List (Nat × D) → Prop, EX ((txOf cons clss).exf 1004 [.tup [.str "z"]]) P ↔ P [(4, .tup [.str "z"])] := fun P => EX_eq exf4
  have e5 : ∀ P : List (Nat × D) → Prop, EX ((txOf cons clss).exf 1005 [.int d]) P ↔ P [(5, .int d)] := fun P => EX_eq (exf5 hd)
  simp only [↓s_cons, ↓s_nil, ↓l_asg, ↓s_ret, ↓l_site, ↓s_exp, ↓s_pass, ↓w_non, ↓w_bl, ↓w_int, ↓w_str, ↓l_var, ↓l_con, ↓l_bin, ↓l_neg, ↓l_cmp, ↓l_chn, ↓w_isn, ↓w_notn, ↓w_and, ↓w_or, ↓l_not, ↓l_ite, ↓l_tup, ↓l_lst, ↓w_dct, ↓w_mutD, ↓mut_lst, ↓mut_dct, ↓l_idx, ↓l_slc, ↓nb_nul, ↓nb_int, ↓nb_var, ↓nb_con, ↓nb_bin, ↓nb_neg, ↓nb_idx, ↓nb_call, ↓nb_bi, ↓w_call, ↓l_bi, ↓l_bm, ↓l_isi, ↓l_xnew, ↓l_xfld, ↓l_raise, ↓l_tri, ↓l_rev, ↓x_rev_t, ↓x_rev_l, ↓w_evs, ↓w_evs0, ↓w_and0, ↓l_and1, ↓w_or0, ↓l_or1, ↓l_ssub, ↓s_whlD, ↓l_app, ↓WP_ok, ↓WS_nx, ↓WS_rt, ↓WP_bind, ↓WP_ofE, ↓WB_t, ↓WB_f, ↓WB_n, ↓WB_dec, ↓WB_all, ↓WB_any, ↓WB_lt, ↓WB_sub, ↓WB_emp, ↓WB_eqv, ↓WB_and, ↓WB_or, ↓SB_t, ↓SB_f, ↓SB_n, ↓SB_dec, ↓SB_all, ↓SB_any, ↓SB_lt, ↓SB_sub, ↓SB_emp, ↓SB_eqv, ↓SB_and, ↓SB_or, ↓EX_some, ↓EX_none, ↓EX_map, ↓EB_bl, ↓EI_int, ↓x_g0, ↓x_gs, ↓x_at0, ↓x_at1, ↓x_at2, ↓x_a0, ↓x_as, ↓x_atup2, ↓x_atup3, ↓x_atup4, ↓x_alst4, ↓x_mod_i, ↓x_bnd, ↓x_str_i, ↓x_str_b, ↓x_upper, ↓x_all, ↓x_any, ↓x_sum, ↓x_add_i, ↓x_sub_i, ↓x_mul_i, ↓x_div_i, ↓x_pow_i, ↓x_add_s, ↓x_add_t, ↓x_add_l, ↓x_mul_s, ↓x_mul_t, ↓x_mul_l, ↓x_lt_i, ↓x_le_i, ↓x_gt_i, ↓x_ge_i, ↓x_lt_s, ↓x_le_s, ↓x_eq_i, ↓x_ne_i, ↓x_eq_s, ↓x_ne_s, ↓x_eq_nil, ↓x_ne_nil, ↓x_in_s, ↓x_nin_s, ↓x_len_l, ↓x_len_t, ↓x_len_s, ↓x_tuple_l, ↓x_tuple_t, ↓x_list_t, ↓x_list_l, ↓x_list_s, ↓x_int_i, ↓x_int_b, ↓x_abs, ↓x_str_s, ↓x_slc_t, ↓x_slc_l, ↓x_slc_s, ↓x_idx_t, ↓x_idx_l, ↓x_isi_nb, ↓x_isi_ni, ↓x_isi_ns, ↓x_isi_nt, ↓x_isi_nl, ↓x_isi_nd, ↓x_isi_bb, ↓x_isi_bi, ↓x_isi_bs, ↓x_isi_bt, ↓x_isi_bl, ↓x_isi_bd, ↓x_isi_ib, ↓x_isi_ii, ↓x_isi_is, ↓x_isi_it, ↓x_isi_il, ↓x_isi_id, ↓x_isi_sb, ↓x_isi_si, ↓x_isi_ss, ↓x_isi_st, ↓x_isi_sl, ↓x_isi_sd, ↓x_isi_tb, ↓x_isi_ti, ↓x_isi_ts, ↓x_isi_tt, ↓x_isi_tl, ↓x_isi_td, ↓x_isi_lb, ↓x_isi_li, ↓x_isi_ls, ↓x_isi_lt, ↓x_isi_ll, ↓x_isi_ld, ↓x_isi_db, ↓x_isi_di, ↓x_isi_ds, ↓x_isi_dt, ↓x_isi_dl, ↓x_isi_dd, Bool.not_true, Bool.not_false, emp_flt, List.length_cons, List.length_nil, on_join, on_split, on_upper, on_count, on_rstrip, on_sindex, on_part, on_tindex, true_and, and_true, eq_self, Nat.reduceAdd, Nat.reduceLeDiff, Nat.zero_add, ↓l_pop, ↓l_popi, ↓l_ext, ↓l_fld, ↓l_mth, ↓l_new, ↓l_sfld, ↓l_aug, ↓l_augf, ↓x_aug_i, ↓x_aug_d, ↓x_aug_s, ↓x_at3, ↓x_at4, ↓x_at5, ↓x_at6, ↓x_at7, ↓x_at8, ↓x_ne_b, ↓x_eq_b, ↓nb_fld, ↓l_fst, ↓l_fst0, ↓l_fst1, ↓x_sd_s, ↓x_int_s, ↓x_in_names, ↓x_nin_names, isI_n, isI_b, isI_i, isI_s, isI_t, isI_l, isI_d, isI_c, isI_r, isB_n, isB_b, isB_i, isB_s, isB_t, isB_l, isB_d, isB_c, isB_r, isS_n, isS_b, isS_i, isS_s, isS_t, isS_l, isS_d, isS_c, isS_r, isT_n, isT_b, isT_i, isT_s, isT_t, isT_l, isT_d, isT_c, isT_r, ↓WB_isI, ↓WB_isB, ↓WB_isS, ↓WB_isT, ↓SB_isI, ↓SB_isB, ↓SB_isS, ↓SB_isT, ↓e1, ↓e2, ↓e3, ↓e4, ↓e5]
  exact hN
theorem kinds_eq {n k c : Nat} {fs : List (Nat × D)} {st : Store} (hk : st[k]? = some (.exc c fs)) (hc : clss.hasX c = true) : ∀ (xq : XQ) (Q : D → Store → Prop), WPE xq (cf (n + 1) 5 [.ref k] st) Q ↔ Q (.lst (kl c)) st := fun xq Q => by
  obtain ⟨d, s, e, h1, h2⟩ := WP_get (kinds (n := n) hk hc (Q := fun d s => d = .lst (kl c) ∧ s = st) ⟨rfl, rfl⟩)
  rw [e, WP_ok, h1, h2]
theorem hx_i : ∀ i, i < 22 → clss.hasX (1001 + i) = true := by decide
def RS : List D := [.ref 2, .ref 3, .ref 4, .ref 5, .ref 6, .ref 8, .ref 9, .ref 10, .ref 11, .ref 12, .ref 13, .ref 15, .ref 16, .ref 17, .ref 18, .ref 19, .ref 21, .ref 22, .ref 23, .ref 24, .ref 25, .ref 27]
theorem lc_i {n i k : Nat} {s0 : D} {S : Store} {x1 x2 x3 x4 x5 x6 x7 x8 x9 x10 x11 x14 : Option D} : ev (txOf cons clss) (cf n) (.lc [16] (.nm 16) .rng1 [(.int 22)] .nul (.cmp .eq (.var 16) (.var 12)))
    (lEnv s0 x1 x2 x3 x4 x5 x6 x7 x8 x9 x10 x11 (some (.int (i : Nat))) (some (.ref k)) x14) S = .ok (.lst ((rngL 0 22).map (gI i))) S := by
  refine lc_M (ds := [.int 22]) (gI i) (by simp only [evs, ev, R.bind]) rfl (by decide) fun x hx => ?_
  obtain ⟨j, rfl⟩ : ∃ j, x = .int j := by
    obtain ⟨m, hm⟩ := List.getElem?_of_mem hx
    obtain ⟨_, h⟩ := rngL_get 22 0 m x hm
    exact ⟨_, h⟩
  simp only [wipeE, List.set_cons_zero, List.set_cons_succ, ↓x_a0, ↓x_as, ↓x_atup2, ↓x_atup3, ↓x_atup4, ↓x_alst4]
  simp only [ev, List.getElem?_cons_succ, List.getElem?_cons_zero, R.bind, c_eq_i, Option.map_some, R.of, gI]
theorem loop {n : Nat} {s0 : D} {S : Store} {x1 x2 x3 x4 x5 x6 x7 x8 x9 x11 x14 : Option D} {N : Env → Store → Prop} {V : D → Store → Prop} (h26 : S[26]? = some (.lst RS))
    (hS : ∀ y ∈ enumL 0 RS, ∃ (i k : Nat) (fs : List (Nat × D)), i < 22 ∧ y = .tup [.int (i : Nat), .ref k] ∧ S[k]? = some (.exc (1001 + i) fs))
    (hN : ∀ y12 y13, N (lEnv s0 x1 x2 x3 x4 x5 x6 x7 x8 x9 (some (.ref 26)) x11 y12 y13 x14) S) :
    WSE xF (run (txOf cons clss) (cf (n + 1)) (.for (.tup [(.nm 12), (.nm 13)]) .enum [(.var 10)] [.ite (.cmp .ne (.call 5 [(.var 13)]) (.bin .add (.lc [16] (.nm 16) .rng1 [(.int 22)] .nul (.cmp .eq (.var 16) (.var 12))) (.lst [(.bl true), (.bl true)]))) [.ret (.bl false)] []])
      (lEnv s0 x1 x2 x3 x4 x5 x6 x7 x8 x9 (some (.ref 26)) x11 none none x14) S) N V := by
  refine s_forI (ds := [.ref 26]) (xs := enumL 0 RS) (fun rest e s => s = S ∧ (∀ y ∈ rest, y ∈ enumL 0 RS) ∧ ∃ y12 y13, e = lEnv s0 x1 x2 x3 x4 x5 x6 x7 x8 x9 (some (.ref 26)) x11 y12 y13 x14)
    (by simp only [evs, ev, R.bind, List.getElem?_cons_succ, List.getElem?_cons_zero]) (by show (lsqD S (.ref 26)).map (enumL 0) = _; simp only [lsqD, h26, Option.map_some]) (fun rest e s h => ?_) ⟨rfl, fun _ h => h, none, none, rfl⟩ (fun y rest e s h => ?_) fun e s h => ?_
  · rw [h.1]
    exact still_refl
  · obtain ⟨rfl, h1, y12, y13, rfl⟩ := h
    obtain ⟨i, k, fs, hi, rfl, hk⟩ := hS y (h1 y (by simp))
    have q1 := kinds_eq (n := n) hk (hx_i i hi)
    have q2 : ∀ (xq : XQ) (Q : D → Store → Prop), WPE xq (ev (txOf cons clss) (cf (n + 1)) (.lc [16] (.nm 16) .rng1 [(.int 22)] .nul (.cmp .eq (.var 16) (.var 12))) (lEnv s0 x1 x2 x3 x4 x5 x6 x7 x8 x9 (some (.ref 26)) x11 (some (.int (i : Nat))) (some (.ref k)) x14) s) Q ↔ Q (.lst ((rngL 0 22).map (gI i))) s := fun xq Q => by
      rw [lc_i, WP_ok]
    simp only [wipeE, List.set_cons_zero, List.set_cons_succ, ↓x_a0, ↓x_as, ↓x_atup2, ↓x_atup3, ↓x_atup4, ↓x_alst4]
    simp only [↓s_cons, ↓s_nil, ↓l_asg, ↓s_ret, ↓l_site, ↓s_exp, ↓s_pass, ↓w_non, ↓w_bl, ↓w_int, ↓w_str, ↓l_var, ↓l_con, ↓l_bin, ↓l_neg, ↓l_cmp, ↓l_chn, ↓w_isn, ↓w_notn, ↓w_and, ↓w_or, ↓l_not, ↓l_ite, ↓l_tup, ↓l_lst, ↓w_dct, ↓w_mutD, ↓mut_lst, ↓mut_dct, ↓l_idx, ↓l_slc, ↓nb_nul, ↓nb_int, ↓nb_var, ↓nb_con, ↓nb_bin, ↓nb_neg, ↓nb_idx, ↓nb_call, ↓nb_bi, ↓w_call, ↓l_bi, ↓l_bm, ↓l_isi, ↓l_xnew, ↓l_xfld, ↓l_raise, ↓l_tri, ↓l_rev, ↓x_rev_t, ↓x_rev_l, ↓w_evs, ↓w_evs0, ↓w_and0, ↓l_and1, ↓w_or0, ↓l_or1, ↓l_ssub, ↓s_whlD, ↓l_app, ↓WP_ok, ↓WS_nx, ↓WS_rt, ↓WP_bind, ↓WP_ofE, ↓WB_t, ↓WB_f, ↓WB_n, ↓WB_dec, ↓WB_all, ↓WB_any, ↓WB_lt, ↓WB_sub, ↓WB_emp, ↓WB_eqv, ↓WB_and, ↓WB_or, ↓SB_t, ↓SB_f, ↓SB_n, ↓SB_dec, ↓SB_all, ↓SB_any, ↓SB_lt, ↓SB_sub, ↓SB_emp, ↓SB_eqv, ↓SB_and, ↓SB_or, ↓EX_some, ↓EX_none, ↓EX_map, ↓EB_bl, ↓EI_int, ↓x_g0, ↓x_gs, ↓x_at0, ↓x_at1, ↓x_at2, ↓x_a0, ↓x_as, ↓x_atup2, ↓x_atup3, ↓x_atup4, ↓x_alst4, ↓x_mod_i, ↓x_bnd, ↓x_str_i, ↓x_str_b, ↓x_upper, ↓x_all, ↓x_any, ↓x_sum, ↓x_add_i, ↓x_sub_i, ↓x_mul_i, ↓x_div_i, ↓x_pow_i, ↓x_add_s, ↓x_add_t, ↓x_add_l, ↓x_mul_s, ↓x_mul_t, ↓x_mul_l, ↓x_lt_i, ↓x_le_i, ↓x_gt_i, ↓x_ge_i, ↓x_lt_s, ↓x_le_s, ↓x_eq_i, ↓x_ne_i, ↓x_eq_s, ↓x_ne_s, ↓x_eq_nil, ↓x_ne_nil, ↓x_in_s, ↓x_nin_s, ↓x_len_l, ↓x_len_t, ↓x_len_s, ↓x_tuple_l, ↓x_tuple_t, ↓x_list_t, ↓x_list_l, ↓x_list_s, ↓x_int_i, ↓x_int_b, ↓x_abs, ↓x_str_s, ↓x_slc_t, ↓x_slc_l, ↓x_slc_s, ↓x_idx_t, ↓x_idx_l, ↓x_isi_nb, ↓x_isi_ni, ↓x_isi_ns, ↓x_isi_nt, ↓x_isi_nl, ↓x_isi_nd, ↓x_isi_bb, ↓x_isi_bi, ↓x_isi_bs, ↓x_isi_bt, ↓x_isi_bl, ↓x_isi_bd, ↓x_isi_ib, ↓x_isi_ii, ↓x_isi_is, ↓x_isi_it, ↓x_isi_il, ↓x_isi_id, ↓x_isi_sb, ↓x_isi_si, ↓x_isi_ss, ↓x_isi_st, ↓x_isi_sl, ↓x_isi_sd, ↓x_isi_tb, ↓x_isi_ti, ↓x_isi_ts, ↓x_isi_tt, ↓x_isi_tl, ↓x_isi_td, ↓x_isi_lb, ↓x_isi_li, ↓x_isi_ls, ↓x_isi_lt, ↓x_isi_ll, ↓x_isi_ld, ↓x_isi_db, ↓x_isi_di, ↓x_isi_ds, ↓x_isi_dt, ↓x_isi_dl, ↓x_isi_dd, Bool.not_true, Bool.not_false, emp_flt, List.length_cons, List.length_nil, on_join, on_split, on_upper, on_count, on_rstrip, on_sindex, on_part, on_tindex, true_and, and_true, eq_self, Nat.reduceAdd, Nat.reduceLeDiff, Nat.zero_add, ↓l_pop, ↓l_popi, ↓l_ext, ↓l_fld, ↓l_mth, ↓l_new, ↓l_sfld, ↓l_aug, ↓l_augf, ↓x_aug_i, ↓x_aug_d, ↓x_aug_s, ↓x_at3, ↓x_at4, ↓x_at5, ↓x_at6, ↓x_at7, ↓x_at8, ↓x_ne_b, ↓x_eq_b, ↓nb_fld, ↓l_fst, ↓l_fst0, ↓l_fst1, ↓x_sd_s, ↓x_int_s, ↓x_in_names, ↓x_nin_names, isI_n, isI_b, isI_i, isI_s, isI_t, isI_l, isI_d, isI_c, isI_r, isB_n, isB_b, isB_i, isB_s, isB_t, isB_l, isB_d, isB_c, isB_r, isS_n, isS_b, isS_i, isS_s, isS_t, isS_l, isS_d, isS_c, isS_r, isT_n, isT_b, isT_i, isT_s, isT_t, isT_l, isT_d, isT_c, isT_r, ↓WB_isI, ↓WB_isB, ↓WB_isS, ↓WB_isT, ↓SB_isI, ↓SB_isB, ↓SB_isS, ↓SB_isT, ↓q1, ↓q2]
    refine ⟨?_, _, ne_i i hi, ?_⟩
    · rw [List.length_map]
      decide
    simp only [↓s_cons, ↓s_nil, ↓l_asg, ↓s_ret, ↓l_site, ↓s_exp, ↓s_pass, ↓w_non, ↓w_bl, ↓w_int, ↓w_str, ↓l_var, ↓l_con, ↓l_bin, ↓l_neg, ↓l_cmp, ↓l_chn, ↓w_isn, ↓w_notn, ↓w_and, ↓w_or, ↓l_not, ↓l_ite, ↓l_tup, ↓l_lst, ↓w_dct, ↓w_mutD, ↓mut_lst, ↓mut_dct, ↓l_idx, ↓l_slc, ↓nb_nul, ↓nb_int, ↓nb_var, ↓nb_con, ↓nb_bin, ↓nb_neg, ↓nb_idx, ↓nb_call, ↓nb_bi, ↓w_call, ↓l_bi, ↓l_bm, ↓l_isi, ↓l_xnew, ↓l_xfld, ↓l_raise, ↓l_tri, ↓l_rev, ↓x_rev_t, ↓x_rev_l, ↓w_evs, ↓w_evs0, ↓w_and0, ↓l_and1, ↓w_or0, ↓l_or1, ↓l_ssub, ↓s_whlD, ↓l_app, ↓WP_ok, ↓WS_nx, ↓WS_rt, ↓WP_bind, ↓WP_ofE, ↓WB_t, ↓WB_f, ↓WB_n, ↓WB_dec, ↓WB_all, ↓WB_any, ↓WB_lt, ↓WB_sub, ↓WB_emp, ↓WB_eqv, ↓WB_and, ↓WB_or, ↓SB_t, ↓SB_f, ↓SB_n, ↓SB_dec, ↓SB_all, ↓SB_any, ↓SB_lt, ↓SB_sub, ↓SB_emp, ↓SB_eqv, ↓SB_and, ↓SB_or, ↓EX_some, ↓EX_none, ↓EX_map, ↓EB_bl, ↓EI_int, ↓x_g0, ↓x_gs, ↓x_at0, ↓x_at1, ↓x_at2, ↓x_a0, ↓x_as, ↓x_atup2, ↓x_atup3, ↓x_atup4, ↓x_alst4, ↓x_mod_i, ↓x_bnd, ↓x_str_i, ↓x_str_b, ↓x_upper, ↓x_all, ↓x_any, ↓x_sum, ↓x_add_i, ↓x_sub_i, ↓x_mul_i, ↓x_div_i, ↓x_pow_i, ↓x_add_s, ↓x_add_t, ↓x_add_l, ↓x_mul_s, ↓x_mul_t, ↓x_mul_l, ↓x_lt_i, ↓x_le_i, ↓x_gt_i, ↓x_ge_i, ↓x_lt_s, ↓x_le_s, ↓x_eq_i, ↓x_ne_i, ↓x_eq_s, ↓x_ne_s, ↓x_eq_nil, ↓x_ne_nil, ↓x_in_s, ↓x_nin_s, ↓x_len_l, ↓x_len_t, ↓x_len_s, ↓x_tuple_l, ↓x_tuple_t, ↓x_list_t, ↓x_list_l, ↓x_list_s, ↓x_int_i, ↓x_int_b, ↓x_abs, ↓x_str_s, ↓x_slc_t, ↓x_slc_l, ↓x_slc_s, ↓x_idx_t, ↓x_idx_l, ↓x_isi_nb, ↓x_isi_ni, ↓x_isi_ns, ↓x_isi_nt, ↓x_isi_nl, ↓x_isi_nd, ↓x_isi_bb, ↓x_isi_bi, ↓x_isi_bs, ↓x_isi_bt, ↓x_isi_bl, ↓x_isi_bd, ↓x_isi_ib, ↓x_isi_ii, ↓x_isi_is, ↓x_isi_it, ↓x_isi_il, ↓x_isi_id, ↓x_isi_sb, ↓x_isi_si, ↓x_isi_ss, ↓x_isi_st, ↓x_isi_sl, ↓x_isi_sd, ↓x_isi_tb, ↓x_isi_ti, ↓x_isi_ts, ↓x_isi_tt, ↓x_isi_tl, ↓x_isi_td, ↓x_isi_lb, ↓x_isi_li, ↓x_isi_ls, ↓x_isi_lt, ↓x_isi_ll, ↓x_isi_ld, ↓x_isi_db, ↓x_isi_di, ↓x_isi_ds, ↓x_isi_dt, ↓x_isi_dl, ↓x_isi_dd, Bool.not_true, Bool.not_false, emp_flt, List.length_cons, List.length_nil, on_join, on_split, on_upper, on_count, on_rstrip, on_sindex, on_part, on_tindex, true_and, and_true, eq_self, Nat.reduceAdd, Nat.reduceLeDiff, Nat.zero_add, ↓l_pop, ↓l_popi, ↓l_ext, ↓l_fld, ↓l_mth, ↓l_new, ↓l_sfld, ↓l_aug, ↓l_augf, ↓x_aug_i, ↓x_aug_d, ↓x_aug_s, ↓x_at3, ↓x_at4, ↓x_at5, ↓x_at6, ↓x_at7, ↓x_at8, ↓x_ne_b, ↓x_eq_b, ↓nb_fld, ↓l_fst, ↓l_fst0, ↓l_fst1, ↓x_sd_s, ↓x_int_s, ↓x_in_names, ↓x_nin_names, isI_n, isI_b, isI_i, isI_s, isI_t, isI_l, isI_d, isI_c, isI_r, isB_n, isB_b, isB_i, isB_s, isB_t, isB_l, isB_d, isB_c, isB_r, isS_n, isS_b, isS_i, isS_s, isS_t, isS_l, isS_d, isS_c, isS_r, isT_n, isT_b, isT_i, isT_s, isT_t, isT_l, isT_d, isT_c, isT_r, ↓WB_isI, ↓WB_isB, ↓WB_isS, ↓WB_isT, ↓SB_isI, ↓SB_isB, ↓SB_isS, ↓SB_isT]
    exact ⟨fun z hz => h1 z (List.mem_cons_of_mem _ hz), _, _, rfl⟩
  · obtain ⟨rfl, _, y12, y13, rfl⟩ := h
    exact hN y12 y13
end Law
end Cip

set_option maxHeartbeats 4000000
namespace Cip
open PySem
local macro_rules | `(tactic| walk_at "cip") => `(tactic| simp only [s_cons, s_nil, s_asg, s_ret, s_ite, s_exp, s_pass, w_non, w_bl, w_int, w_str, w_var, w_con, w_bin, w_neg, w_cmp, w_isn, w_notn, w_and, w_or, w_not, w_ite, w_tup, w_lst, w_idx, w_call, s_ssubD, s_forD, s_whlD, w_mutD, w_appD, mut_lst, asg_tup2, asg_tup3, int_i, len_l, len_t, len_s, idx_l, idx_t, tuple_l, w_bi, w_isi, w_evs, w_evs0, w_and0, w_and1, w_or0, w_or1, asg_nm, ex_some, ex_var, ex_int, ex_bl, startE, List.length_cons, List.length_nil, List.map_cons, List.map_nil, List.getElem?_cons_zero, List.getElem?_cons_succ, List.set_cons_zero, List.set_cons_succ, List.cons_append, List.nil_append, List.replicate, ex_ite, b_add_i, b_sub_i, b_mul_i, b_mod_i, b_div_i, b_pow_i, b_add_s, b_add_t, b_add_l, b_mul_s, b_mul_t, b_mul_l, c_lt_i, c_le_i, c_gt_i, c_ge_i, c_lt_s, c_le_s, c_eq_i, c_ne_i, c_eq_s, c_ne_s, WP_ok, WS_nx, WS_rt, true_and, and_true])
local macro_rules | `(tactic| walk_at "cip2") => `(tactic| simp only [s_cons, s_nil, s_asg, s_ret, s_ite, s_exp, s_pass, w_non, w_bl, w_int, w_str, w_var, w_con, w_bin, w_neg, w_cmp, w_isn, w_notn, w_and, w_or, w_not, w_ite, w_tup, w_lst, w_idx, w_call, s_ssubD, s_forD, s_whlD, w_mutD, w_appD, mut_lst, asg_tup2, asg_tup3, int_i, len_l, len_t, len_s, idx_l, idx_t, tuple_l, w_bi, w_isi, w_evs, w_evs0, w_and0, w_and1, w_or0, w_or1, asg_nm, ex_some, ex_var, ex_int, ex_bl, startE, List.length_cons, List.length_nil, List.map_cons, List.map_nil, List.getElem?_cons_zero, List.getElem?_cons_succ, List.set_cons_zero, List.set_cons_succ, List.cons_append, List.nil_append, List.replicate, ex_ite, b_add_i, b_sub_i, b_mul_i, b_mod_i, b_div_i, b_pow_i, b_add_s, b_add_t, b_add_l, b_mul_s, b_mul_t, b_mul_l, c_lt_i, c_le_i, c_gt_i, c_ge_i, c_lt_s, c_le_s, c_eq_i, c_ne_i, c_eq_s, c_ne_s, WP_ok, WS_nx, WS_rt, true_and, and_true, w_slc, E.nulB, eq_self, if_true, if_false, Bool.false_eq_true, WP_bind, WP_of, bnd_int, Bool.not_true, Bool.not_false])
local macro_rules | `(tactic| walk_at "cip3") => `(tactic| simp only [s_cons, s_nil, s_asg, s_ret, s_ite, s_exp, s_pass, w_non, w_bl, w_int, w_str, w_var, w_con, w_bin, w_neg, w_cmp, w_isn, w_notn, w_and, w_or, w_not, w_ite, w_tup, w_lst, w_idx, w_call, s_ssubD, s_forD, s_whlD, w_mutD, w_appD, mut_lst, asg_tup2, asg_tup3, int_i, len_l, len_t, len_s, idx_l, idx_t, tuple_l, w_bi, w_isi, w_evs, w_evs0, w_and0, w_and1, w_or0, w_or1, asg_nm, ex_some, ex_var, ex_int, ex_bl, startE, List.length_cons, List.length_nil, List.map_cons, List.map_nil, List.getElem?_cons_zero, List.getElem?_cons_succ, List.set_cons_zero, List.set_cons_succ, List.cons_append, List.nil_append, List.replicate, ex_ite, b_add_i, b_sub_i, b_mul_i, b_mod_i, b_div_i, b_pow_i, b_add_s, b_add_t, b_add_l, b_mul_s, b_mul_t, b_mul_l, c_lt_i, c_le_i, c_gt_i, c_ge_i, c_lt_s, c_le_s, c_eq_i, c_ne_i, c_eq_s, c_ne_s, WP_ok, WS_nx, WS_rt, true_and, and_true, w_slc, E.nulB, eq_self, if_true, if_false, Bool.false_eq_true, WP_bind, WP_of, bnd_int, Bool.not_true, Bool.not_false, w_chn])
local macro_rules | `(tactic| walk_at "z0") => `(tactic| simp only [startE, List.map_cons, List.map_nil, List.length_cons, List.length_nil, Nat.reduceAdd, Nat.reduceSub, List.replicate, List.cons_append, List.nil_append])

namespace Law
/-! V06: the law, its end. -/
theorem eqv_i (i : Int) : PyData.eqv (.int i) (.int i) = true := by simp [PyData.eqv]
theorem ne_1 {st : Store} {a b c : Int} {f g : Str} {cl : List D} (h : ClO cl) : cmpD st .ne (.lst [.int a, .int b, .str f, .str g, .tup cl, .tup cl, .int c]) (.lst [.int a, .int b, .str f, .str g, .tup cl, .tup cl, .int c]) = some false := by
  rcases h with rfl | rfl | rfl <;> simp [cmpD, eqD, eqP, py, pyW, pysW, PyData.plain, PyData.plainAll, PyData.depth, PyData.depthAll, PyData.eqv, PyData.eqvAll]
theorem ne_2 {st : Store} {c d : Int} : cmpD st .ne (.lst [.int d, .int c, .str "bold", .str "x", .tup [], .tup [.str "z"], .int d]) (.lst [.int d, .int c, .str "bold", .str "x", .tup [], .tup [.str "z"], .int d]) = some false := by
  simp [cmpD, eqD, eqP, py, pyW, pysW, PyData.plain, PyData.plainAll, PyData.depth, PyData.depthAll, PyData.eqv, PyData.eqvAll]
theorem found1 {n : Nat} {s0 : D} {x0 x1 : MO} {a b c d : Int} {x f g : Str} {cl : List D} {y12 y13 : Option D} {N : Env → Store → Prop} {V : D → Store → Prop} (hN : N (lEnv s0 (some (.ref 1)) (some (.int a)) (some (.int b)) (some (.int c)) (some (.int d)) (some (.str x)) (some (.tup cl)) (some (.str f)) (some (.str g)) (some (.ref 26)) (some (.lst [.ref 28, .ref 29, .ref 30, .ref 31, .ref 32])) y12 y13 (some (.lst [.int a, .int b, .str f, .str g, .tup cl, .tup cl]))) (stF x0 x1 a b c d x cl f g)) :
    WSE xF (run (txOf cons clss) (cf n) (.asg (.nm 14) (.lst [(.xfld (.idx (.var 10) (.int 0)) 0), (.xfld (.idx (.var 10) (.int 0)) 1), (.xfld (.idx (.var 10) (.int 1)) 2), (.xfld (.idx (.var 10) (.int 2)) 3), (.xfld (.idx (.var 10) (.int 2)) 4), (.xfld (.idx (.var 10) (.int 3)) 4)])) (lEnv s0 (some (.ref 1)) (some (.int a)) (some (.int b)) (some (.int c)) (some (.int d)) (some (.str x)) (some (.tup cl)) (some (.str f)) (some (.str g)) (some (.ref 26)) (some (.lst [.ref 28, .ref 29, .ref 30, .ref 31, .ref 32])) y12 y13 none) (stF x0 x1 a b c d x cl f g)) N V := by
  have i0 : ∀ P : D → Prop, EX (idxD (stF x0 x1 a b c d x cl f g) (.ref 26) (.int 0)) P ↔ P (.ref 2) := fun P => EX_eq rfl
  have i1 : ∀ P : D → Prop, EX (idxD (stF x0 x1 a b c d x cl f g) (.ref 26) (.int 1)) P ↔ P (.ref 3) := fun P => EX_eq rfl
  have i2 : ∀ P : D → Prop, EX (idxD (stF x0 x1 a b c d x cl f g) (.ref 26) (.int 2)) P ↔ P (.ref 4) := fun P => EX_eq rfl
  have i3 : ∀ P : D → Prop, EX (idxD (stF x0 x1 a b c d x cl f g) (.ref 26) (.int 3)) P ↔ P (.ref 5) := fun P => EX_eq rfl
  have f0 : ∀ P : D → Prop, EX (xfldD (txOf cons clss) (stF x0 x1 a b c d x cl f g) (.ref 2) 0) P ↔ P (.int a) := fun P => EX_eq rfl
  have f1 : ∀ P : D → Prop, EX (xfldD (txOf cons clss) (stF x0 x1 a b c d x cl f g) (.ref 2) 1) P ↔ P (.int b) := fun P => EX_eq rfl
  have f2 : ∀ P : D → Prop, EX (xfldD (txOf cons clss) (stF x0 x1 a b c d x cl f g) (.ref 3) 2) P ↔ P (.str f) := fun P => EX_eq rfl
  have f3 : ∀ P : D → Prop, EX (xfldD (txOf cons clss) (stF x0 x1 a b c d x cl f g) (.ref 4) 3) P ↔ P (.str g) := fun P => EX_eq rfl
  have f4 : ∀ P : D → Prop, EX (xfldD (txOf cons clss) (stF x0 x1 a b c d x cl f g) (.ref 4) 4) P ↔ P (.tup cl) := fun P => EX_eq rfl
  have f5 : ∀ P : D → Prop, EX (xfldD (txOf cons clss) (stF x0 x1 a b c d x cl f g) (.ref 5) 4) P ↔ P (.tup cl) := fun P => EX_eq rfl
  simp only [↓s_cons, ↓s_nil, ↓l_asg, ↓s_ret, ↓l_site, ↓s_exp, ↓s_pass, ↓w_non, ↓w_bl, ↓w_int, ↓w_str, ↓l_var, ↓l_con, ↓l_bin, ↓l_neg, ↓l_cmp, ↓l_chn, ↓w_isn, ↓w_notn, ↓w_and, ↓w_or, ↓l_not, ↓l_ite, ↓l_tup, ↓l_lst, ↓w_dct, ↓w_mutD, ↓mut_lst, ↓mut_dct, ↓l_idx, ↓l_slc, ↓nb_nul, ↓nb_int, ↓nb_var, ↓nb_con, ↓nb_bin, ↓nb_neg, ↓nb_idx, ↓nb_call, ↓nb_bi, ↓w_call, ↓l_bi, ↓l_bm, ↓l_isi, ↓l_xnew, ↓l_xfld, ↓l_raise, ↓l_tri, ↓l_rev, ↓x_rev_t, ↓x_rev_l, ↓w_evs, ↓w_evs0, ↓w_and0, ↓l_and1, ↓w_or0, ↓l_or1, ↓l_ssub, ↓s_whlD, ↓l_app, ↓WP_ok, ↓WS_nx, ↓WS_rt, ↓WP_bind, ↓WP_ofE, ↓WB_t, ↓WB_f, ↓WB_n, ↓WB_dec, ↓WB_all, ↓WB_any, ↓WB_lt, ↓WB_sub, ↓WB_emp, ↓WB_eqv, ↓WB_and, ↓WB_or, ↓SB_t, ↓SB_f, ↓SB_n, ↓SB_dec, ↓SB_all, ↓SB_any, ↓SB_lt, ↓SB_sub, ↓SB_emp, ↓SB_eqv, ↓SB_and, ↓SB_or, ↓EX_some, ↓EX_none, ↓EX_map, ↓EB_bl, ↓EI_int, ↓x_g0, ↓x_gs, ↓x_at0, ↓x_at1, ↓x_at2, ↓x_a0, ↓x_as, ↓x_atup2, ↓x_atup3, ↓x_atup4, ↓x_alst4, ↓x_mod_i, ↓x_bnd, ↓x_str_i, ↓x_str_b, ↓x_upper, ↓x_all, ↓x_any, ↓x_sum, ↓x_add_i, ↓x_sub_i, ↓x_mul_i, ↓x_div_i, ↓x_pow_i, ↓x_add_s, ↓x_add_t, ↓x_add_l, ↓x_mul_s, ↓x_mul_t, ↓x_mul_l, ↓x_lt_i, ↓x_le_i, ↓x_gt_i, ↓x_ge_i, ↓x_lt_s, ↓x_le_s, ↓x_eq_i, ↓x_ne_i, ↓x_eq_s, ↓x_ne_s, ↓x_eq_nil, ↓x_ne_nil, ↓x_in_s, ↓x_nin_s, ↓x_len_l, ↓x_len_t, ↓x_len_s, ↓x_tuple_l, ↓x_tuple_t, ↓x_list_t, ↓x_list_l, ↓x_list_s, ↓x_int_i, ↓x_int_b, ↓x_abs, ↓x_str_s, ↓x_slc_t, ↓x_slc_l, ↓x_slc_s, ↓x_idx_t, ↓x_idx_l, ↓x_isi_nb, ↓x_isi_ni, ↓x_isi_ns, ↓x_isi_nt, ↓x_isi_nl, ↓x_isi_nd, ↓x_isi_bb, ↓x_isi_bi, ↓x_isi_bs, ↓x_isi_bt, ↓x_isi_bl, ↓x_isi_bd, ↓x_isi_ib, ↓x_isi_ii, ↓x_isi_is, ↓x_isi_it, ↓x_isi_il, ↓x_isi_id, ↓x_isi_sb, ↓x_isi_si, ↓x_isi_ss, ↓x_isi_st, ↓x_isi_sl, ↓x_isi_sd, ↓x_isi_tb, ↓x_isi_ti, ↓x_isi_ts, ↓x_isi_tt, ↓x_isi_tl, ↓x_isi_td, ↓x_isi_lb, ↓x_isi_li, ↓x_isi_ls, ↓x_isi_lt, ↓x_isi_ll, ↓x_isi_ld, ↓x_isi_db, ↓x_isi_di, ↓x_isi_ds, ↓x_isi_dt, ↓x_isi_dl, ↓x_isi_dd, Bool.not_true, Bool.not_false, emp_flt, List.length_cons, List.length_nil, on_join, on_split, on_upper, on_count, on_rstrip, on_sindex, on_part, on_tindex, true_and, and_true, eq_self, Nat.reduceAdd, Nat.reduceLeDiff, Nat.zero_add, ↓l_pop, ↓l_popi, ↓l_ext, ↓l_fld, ↓l_mth, ↓l_new, ↓l_sfld, ↓l_aug, ↓l_augf, ↓x_aug_i, ↓x_aug_d, ↓x_aug_s, ↓x_at3, ↓x_at4, ↓x_at5, ↓x_at6, ↓x_at7, ↓x_at8, ↓x_ne_b, ↓x_eq_b, ↓nb_fld, ↓l_fst, ↓l_fst0, ↓l_fst1, ↓x_sd_s, ↓x_int_s, ↓x_in_names, ↓x_nin_names, isI_n, isI_b, isI_i, isI_s, isI_t, isI_l, isI_d, isI_c, isI_r, isB_n, isB_b, isB_i, isB_s, isB_t, isB_l, isB_d, isB_c, isB_r, isS_n, isS_b, isS_i, isS_s, isS_t, isS_l, isS_d, isS_c, isS_r, isT_n, isT_b, isT_i, isT_s, isT_t, isT_l, isT_d, isT_c, isT_r, ↓WB_isI, ↓WB_isB, ↓WB_isS, ↓WB_isT, ↓SB_isI, ↓SB_isB, ↓SB_isS, ↓SB_isT, ↓i0, ↓i1, ↓i2, ↓i3, ↓f0, ↓f1, ↓f2, ↓f3, ↓f4, ↓f5]
  exact hN
theorem test1 {n : Nat} {s0 : D} {x0 x1 : MO} {a b c d : Int} {x f g : Str} {cl : List D} {y12 y13 : Option D} {N : Env → Store → Prop} {V : D → Store → Prop} (hcl : ClO cl) (hN : N (lEnv s0 (some (.ref 1)) (some (.int a)) (some (.int b)) (some (.int c)) (some (.int d)) (some (.str x)) (some (.tup cl)) (some (.str f)) (some (.str g)) (some (.ref 26)) (some (.lst [.ref 28, .ref 29, .ref 30, .ref 31, .ref 32])) y12 y13 (some (.lst [.int a, .int b, .str f, .str g, .tup cl, .tup cl]))) (stF x0 x1 a b c d x cl f g)) :
    WSE xF (run (txOf cons clss) (cf n) (.ite (.cmp .ne (.bin .add (.var 14) (.lst [(.xfld (.idx (.var 10) (.int 4)) 5)])) (.lst [(.var 2), (.var 3), (.var 8), (.var 9), (.var 7), (.var 7), (.var 4)])) [.ret (.bl false)] []) (lEnv s0 (some (.ref 1)) (some (.int a)) (some (.int b)) (some (.int c)) (some (.int d)) (some (.str x)) (some (.tup cl)) (some (.str f)) (some (.str g)) (some (.ref 26)) (some (.lst [.ref 28, .ref 29, .ref 30, .ref 31, .ref 32])) y12 y13 (some (.lst [.int a, .int b, .str f, .str g, .tup cl, .tup cl]))) (stF x0 x1 a b c d x cl f g)) N V := by
  have i0 : ∀ P : D → Prop, EX (idxD (stF x0 x1 a b c d x cl f g) (.ref 26) (.int 4)) P ↔ P (.ref 6) := fun P => EX_eq rfl
  have f0 : ∀ P : D → Prop, EX (xfldD (txOf cons clss) (stF x0 x1 a b c d x cl f g) (.ref 6) 5) P ↔ P (.int c) := fun P => EX_eq rfl
  simp only [↓s_cons, ↓s_nil, ↓l_asg, ↓s_ret, ↓l_site, ↓s_exp, ↓s_pass, ↓w_non, ↓w_bl, ↓w_int, ↓w_str, ↓l_var, ↓l_con, ↓l_bin, ↓l_neg, ↓l_cmp, ↓l_chn, ↓w_isn, ↓w_notn, ↓w_and, ↓w_or, ↓l_not, ↓l_ite, ↓l_tup, ↓l_lst, ↓w_dct, ↓w_mutD, ↓mut_lst, ↓mut_dct, ↓l_idx, ↓l_slc, ↓nb_nul, ↓nb_int, ↓nb_var, ↓nb_con, ↓nb_bin, ↓nb_neg, ↓nb_idx, ↓nb_call, ↓nb_bi, ↓w_call, ↓l_bi, ↓l_bm, ↓l_isi, ↓l_xnew, ↓l_xfld, ↓l_raise, ↓l_tri, ↓l_rev, ↓x_rev_t, ↓x_rev_l, ↓w_evs, ↓w_evs0, ↓w_and0, ↓l_and1, ↓w_or0, ↓l_or1, ↓l_ssub, ↓s_whlD, ↓l_app, ↓WP_ok, ↓WS_nx, ↓WS_rt, ↓WP_bind, ↓WP_ofE, ↓WB_t, ↓WB_f, ↓WB_n, ↓WB_dec, ↓WB_all, ↓WB_any, ↓WB_lt, ↓WB_sub, ↓WB_emp, ↓WB_eqv, ↓WB_and, ↓WB_or, ↓SB_t, ↓SB_f, ↓SB_n, ↓SB_dec, ↓SB_all, ↓SB_any, ↓SB_lt, ↓SB_sub, ↓SB_emp, ↓SB_eqv, ↓SB_and, ↓SB_or, ↓EX_some, ↓EX_none, ↓EX_map, ↓EB_bl, ↓EI_int, ↓x_g0, ↓x_gs, ↓x_at0, ↓x_at1, ↓x_at2, ↓x_a0, ↓x_as, ↓x_atup2, ↓x_atup3, ↓x_atup4, ↓x_alst4, ↓x_mod_i, ↓x_bnd, ↓x_str_i, ↓x_str_b, ↓x_upper, ↓x_all, ↓x_any, ↓x_sum, ↓x_add_i, ↓x_sub_i, ↓x_mul_i, ↓x_div_i, ↓x_pow_i, ↓x_add_s, ↓x_add_t, ↓x_add_l, ↓x_mul_s, ↓x_mul_t, ↓x_mul_l, ↓x_lt_i, ↓x_le_i, ↓x_gt_i, ↓x_ge_i, ↓x_lt_s, ↓x_le_s, ↓x_eq_i, ↓x_ne_i, ↓x_eq_s, ↓x_ne_s, ↓x_eq_nil, ↓x_ne_nil, ↓x_in_s, ↓x_nin_s, ↓x_len_l, ↓x_len_t, ↓x_len_s, ↓x_tuple_l, ↓x_tuple_t, ↓x_list_t, ↓x_list_l, ↓x_list_s, ↓x_int_i, ↓x_int_b, ↓x_abs, ↓x_str_s, ↓x_slc_t, ↓x_slc_l, ↓x_slc_s, ↓x_idx_t, ↓x_idx_l, ↓x_isi_nb, ↓x_isi_ni, ↓x_isi_ns, ↓x_isi_nt, ↓x_isi_nl, ↓x_isi_nd, ↓x_isi_bb, ↓x_isi_bi, ↓x_isi_bs, ↓x_isi_bt, ↓x_isi_bl, ↓x_isi_bd, ↓x_isi_ib, ↓x_isi_ii, ↓x_isi_is, ↓x_isi_it, ↓x_isi_il, ↓x_isi_id, ↓x_isi_sb, ↓x_isi_si, ↓x_isi_ss, ↓x_isi_st, ↓x_isi_sl, ↓x_isi_sd, ↓x_isi_tb, ↓x_isi_ti, ↓x_isi_ts, ↓x_isi_tt, ↓x_isi_tl, ↓x_isi_td, ↓x_isi_lb, ↓x_isi_li, ↓x_isi_ls, ↓x_isi_lt, ↓x_isi_ll, ↓x_isi_ld, ↓x_isi_db, ↓x_isi_di, ↓x_isi_ds, ↓x_isi_dt, ↓x_isi_dl, ↓x_isi_dd, Bool.not_true, Bool.not_false, emp_flt, List.length_cons, List.length_nil, on_join, on_split, on_upper, on_count, on_rstrip, on_sindex, on_part, on_tindex, true_and, and_true, eq_self, Nat.reduceAdd, Nat.reduceLeDiff, Nat.zero_add, ↓l_pop, ↓l_popi, ↓l_ext, ↓l_fld, ↓l_mth, ↓l_new, ↓l_sfld, ↓l_aug, ↓l_augf, ↓x_aug_i, ↓x_aug_d, ↓x_aug_s, ↓x_at3, ↓x_at4, ↓x_at5, ↓x_at6, ↓x_at7, ↓x_at8, ↓x_ne_b, ↓x_eq_b, ↓nb_fld, ↓l_fst, ↓l_fst0, ↓l_fst1, ↓x_sd_s, ↓x_int_s, ↓x_in_names, ↓x_nin_names, isI_n, isI_b, isI_i, isI_s, isI_t, isI_l, isI_d, isI_c, isI_r, isB_n, isB_b, isB_i, isB_s, isB_t, isB_l, isB_d, isB_c, isB_r, isS_n, isS_b, isS_i, isS_s, isS_t, isS_l, isS_d, isS_c, isS_r, isT_n, isT_b, isT_i, isT_s, isT_t, isT_l, isT_d, isT_c, isT_r, ↓WB_isI, ↓WB_isB, ↓WB_isS, ↓WB_isT, ↓SB_isI, ↓SB_isB, ↓SB_isS, ↓SB_isT, ↓i0, ↓f0]
  refine ⟨_, ne_1 hcl, ?_⟩
  simp only [↓s_cons, ↓s_nil, ↓l_asg, ↓s_ret, ↓l_site, ↓s_exp, ↓s_pass, ↓w_non, ↓w_bl, ↓w_int, ↓w_str, ↓l_var, ↓l_con, ↓l_bin, ↓l_neg, ↓l_cmp, ↓l_chn, ↓w_isn, ↓w_notn, ↓w_and, ↓w_or, ↓l_not, ↓l_ite, ↓l_tup, ↓l_lst, ↓w_dct, ↓w_mutD, ↓mut_lst, ↓mut_dct, ↓l_idx, ↓l_slc, ↓nb_nul, ↓nb_int, ↓nb_var, ↓nb_con, ↓nb_bin, ↓nb_neg, ↓nb_idx, ↓nb_call, ↓nb_bi, ↓w_call, ↓l_bi, ↓l_bm, ↓l_isi, ↓l_xnew, ↓l_xfld, ↓l_raise, ↓l_tri, ↓l_rev, ↓x_rev_t, ↓x_rev_l, ↓w_evs, ↓w_evs0, ↓w_and0, ↓l_and1, ↓w_or0, ↓l_or1, ↓l_ssub, ↓s_whlD, ↓l_app, ↓WP_ok, ↓WS_nx, ↓WS_rt, ↓WP_bind, ↓WP_ofE, ↓WB_t, ↓WB_f, ↓WB_n, ↓WB_dec, ↓WB_all, ↓WB_any, ↓WB_lt, ↓WB_sub, ↓WB_emp, ↓WB_eqv, ↓WB_and, ↓WB_or, ↓SB_t, ↓SB_f, ↓SB_n, ↓SB_dec, ↓SB_all, ↓SB_any, ↓SB_lt, ↓SB_sub, ↓SB_emp, ↓SB_eqv, ↓SB_and, ↓SB_or, ↓EX_some, ↓EX_none, ↓EX_map, ↓EB_bl, ↓EI_int, ↓x_g0, ↓x_gs, ↓x_at0, ↓x_at1, ↓x_at2, ↓x_a0, ↓x_as, ↓x_atup2, ↓x_atup3, ↓x_atup4, ↓x_alst4, ↓x_mod_i, ↓x_bnd, ↓x_str_i, ↓x_str_b, ↓x_upper, ↓x_all, ↓x_any, ↓x_sum, ↓x_add_i, ↓x_sub_i, ↓x_mul_i, ↓x_div_i, ↓x_pow_i, ↓x_add_s, ↓x_add_t, ↓x_add_l, ↓x_mul_s, ↓x_mul_t, ↓x_mul_l, ↓x_lt_i, ↓x_le_i, ↓x_gt_i, ↓x_ge_i, ↓x_lt_s, ↓x_le_s, ↓x_eq_i, ↓x_ne_i, ↓x_eq_s, ↓x_ne_s, ↓x_eq_nil, ↓x_ne_nil, ↓x_in_s, ↓x_nin_s, ↓x_len_l, ↓x_len_t, ↓x_len_s, ↓x_tuple_l, ↓x_tuple_t, ↓x_list_t, ↓x_list_l, ↓x_list_s, ↓x_int_i, ↓x_int_b, ↓x_abs, ↓x_str_s, ↓x_slc_t, ↓x_slc_l, ↓x_slc_s, ↓x_idx_t, ↓x_idx_l, ↓x_isi_nb, ↓x_isi_ni, ↓x_isi_ns, ↓x_isi_nt, ↓x_isi_nl, ↓x_isi_nd, ↓x_isi_bb, ↓x_isi_bi, ↓x_isi_bs, ↓x_isi_bt, ↓x_isi_bl, ↓x_isi_bd, ↓x_isi_ib, ↓x_isi_ii, ↓x_isi_is, ↓x_isi_it, ↓x_isi_il, ↓x_isi_id, ↓x_isi_sb, ↓x_isi_si, ↓x_isi_ss, ↓x_isi_st, ↓x_isi_sl, ↓x_isi_sd, ↓x_isi_tb, ↓x_isi_ti, ↓x_isi_ts, ↓x_isi_tt, ↓x_isi_tl, ↓x_isi_td, ↓x_isi_lb, ↓x_isi_li, ↓x_isi_ls, ↓x_isi_lt, ↓x_isi_ll, ↓x_isi_ld, ↓x_isi_db, ↓x_isi_di, ↓x_isi_ds, ↓x_isi_dt, ↓x_isi_dl, ↓x_isi_dd, Bool.not_true, Bool.not_false, emp_flt, List.length_cons, List.length_nil, on_join, on_split, on_upper, on_count, on_rstrip, on_sindex, on_part, on_tindex, true_and, and_true, eq_self, Nat.reduceAdd, Nat.reduceLeDiff, Nat.zero_add, ↓l_pop, ↓l_popi, ↓l_ext, ↓l_fld, ↓l_mth, ↓l_new, ↓l_sfld, ↓l_aug, ↓l_augf, ↓x_aug_i, ↓x_aug_d, ↓x_aug_s, ↓x_at3, ↓x_at4, ↓x_at5, ↓x_at6, ↓x_at7, ↓x_at8, ↓x_ne_b, ↓x_eq_b, ↓nb_fld, ↓l_fst, ↓l_fst0, ↓l_fst1, ↓x_sd_s, ↓x_int_s, ↓x_in_names, ↓x_nin_names, isI_n, isI_b, isI_i, isI_s, isI_t, isI_l, isI_d, isI_c, isI_r, isB_n, isB_b, isB_i, isB_s, isB_t, isB_l, isB_d, isB_c, isB_r, isS_n, isS_b, isS_i, isS_s, isS_t, isS_l, isS_d, isS_c, isS_r, isT_n, isT_b, isT_i, isT_s, isT_t, isT_l, isT_d, isT_c, isT_r, ↓WB_isI, ↓WB_isB, ↓WB_isS, ↓WB_isT, ↓SB_isI, ↓SB_isB, ↓SB_isS, ↓SB_isT]
  exact hN
theorem found2 {n : Nat} {s0 : D} {x0 x1 : MO} {a b c d : Int} {x f g : Str} {cl : List D} {y12 y13 : Option D} {N : Env → Store → Prop} {V : D → Store → Prop} (hN : N (lEnv s0 (some (.ref 1)) (some (.int a)) (some (.int b)) (some (.int c)) (some (.int d)) (some (.str x)) (some (.tup cl)) (some (.str f)) (some (.str g)) (some (.ref 26)) (some (.lst [.ref 28, .ref 29, .ref 30, .ref 31, .ref 32])) y12 y13 (some (.lst [.int d, .int c, .str "bold", .str "x", .tup [], .tup [.str "z"]]))) (stF x0 x1 a b c d x cl f g)) :
    WSE xF (run (txOf cons clss) (cf n) (.asg (.nm 14) (.lst [(.xfld (.idx (.var 11) (.int 0)) 0), (.xfld (.idx (.var 11) (.int 0)) 1), (.xfld (.idx (.var 11) (.int 1)) 2), (.xfld (.idx (.var 11) (.int 2)) 3), (.xfld (.idx (.var 11) (.int 2)) 4), (.xfld (.idx (.var 11) (.int 3)) 4)])) (lEnv s0 (some (.ref 1)) (some (.int a)) (some (.int b)) (some (.int c)) (some (.int d)) (some (.str x)) (some (.tup cl)) (some (.str f)) (some (.str g)) (some (.ref 26)) (some (.lst [.ref 28, .ref 29, .ref 30, .ref 31, .ref 32])) y12 y13 (some (.lst [.int a, .int b, .str f, .str g, .tup cl, .tup cl]))) (stF x0 x1 a b c d x cl f g)) N V := by
  have f0 : ∀ P : D → Prop, EX (xfldD (txOf cons clss) (stF x0 x1 a b c d x cl f g) (.ref 28) 0) P ↔ P (.int d) := fun P => EX_eq rfl
  have f1 : ∀ P : D → Prop, EX (xfldD (txOf cons clss) (stF x0 x1 a b c d x cl f g) (.ref 28) 1) P ↔ P (.int c) := fun P => EX_eq rfl
  have f2 : ∀ P : D → Prop, EX (xfldD (txOf cons clss) (stF x0 x1 a b c d x cl f g) (.ref 29) 2) P ↔ P (.str "bold") := fun P => EX_eq rfl
  have f3 : ∀ P : D → Prop, EX (xfldD (txOf cons clss) (stF x0 x1 a b c d x cl f g) (.ref 30) 3) P ↔ P (.str "x") := fun P => EX_eq rfl
  have f4 : ∀ P : D → Prop, EX (xfldD (txOf cons clss) (stF x0 x1 a b c d x cl f g) (.ref 30) 4) P ↔ P (.tup []) := fun P => EX_eq rfl
  have f5 : ∀ P : D → Prop, EX (xfldD (txOf cons clss) (stF x0 x1 a b c d x cl f g) (.ref 31) 4) P ↔ P (.tup [.str "z"]) := fun P => EX_eq rfl
  simp only [↓s_cons, ↓s_nil, ↓l_asg, ↓s_ret, ↓l_site, ↓s_exp, ↓s_pass, ↓w_non, ↓w_bl, ↓w_int, ↓w_str, ↓l_var, ↓l_con, ↓l_bin, ↓l_neg, ↓l_cmp, ↓l_chn, ↓w_isn, ↓w_notn, ↓w_and, ↓w_or, ↓l_not, ↓l_ite, ↓l_tup, ↓l_lst, ↓w_dct, ↓w_mutD, ↓mut_lst, ↓mut_dct, ↓l_idx, ↓l_slc, ↓nb_nul, ↓nb_int, ↓nb_var, ↓nb_con, ↓nb_bin, ↓nb_neg, ↓nb_idx, ↓nb_call, ↓nb_bi, ↓w_call, ↓l_bi, ↓l_bm, ↓l_isi, ↓l_xnew, ↓l_xfld, ↓l_raise, ↓l_tri, ↓l_rev, ↓x_rev_t, ↓x_rev_l, ↓w_evs, ↓w_evs0, ↓w_and0, ↓l_and1, ↓w_or0, ↓l_or1, ↓l_ssub, ↓s_whlD, ↓l_app, ↓WP_ok, ↓WS_nx, ↓WS_rt, ↓WP_bind, ↓WP_ofE, ↓WB_t, ↓WB_f, ↓WB_n, ↓WB_dec, ↓WB_all, ↓WB_any, ↓WB_lt, ↓WB_sub, ↓WB_emp, ↓WB_eqv, ↓WB_and, ↓WB_or, ↓SB_t, ↓SB_f, ↓SB_n, ↓SB_dec, ↓SB_all, ↓SB_any, ↓SB_lt, ↓SB_sub, ↓SB_emp, ↓SB_eqv, ↓SB_and, ↓SB_or, ↓EX_some, ↓EX_none, ↓EX_map, ↓EB_bl, ↓EI_int, ↓x_g0, ↓x_gs, ↓x_at0, ↓x_at1, ↓x_at2, ↓x_a0, ↓x_as, ↓x_atup2, ↓x_atup3, ↓x_atup4, ↓x_alst4, ↓x_mod_i, ↓x_bnd, ↓x_str_i, ↓x_str_b, ↓x_upper, ↓x_all, ↓x_any, ↓x_sum, ↓x_add_i, ↓x_sub_i, ↓x_mul_i, ↓x_div_i, ↓x_pow_i, ↓x_add_s, ↓x_add_t, ↓x_add_l, ↓x_mul_s, ↓x_mul_t, ↓x_mul_l, ↓x_lt_i, ↓x_le_i, ↓x_gt_i, ↓x_ge_i, ↓x_lt_s, ↓x_le_s, ↓x_eq_i, ↓x_ne_i, ↓x_eq_s, ↓x_ne_s, ↓x_eq_nil, ↓x_ne_nil, ↓x_in_s, ↓x_nin_s, ↓x_len_l, ↓x_len_t, ↓x_len_s, ↓x_tuple_l, ↓x_tuple_t, ↓x_list_t, ↓x_list_l, ↓x_list_s, ↓x_int_i, ↓x_int_b, ↓x_abs, ↓x_str_s, ↓x_slc_t, ↓x_slc_l, ↓x_slc_s, ↓x_idx_t, ↓x_idx_l, ↓x_isi_nb, ↓x_isi_ni, ↓x_isi_ns, ↓x_isi_nt, ↓x_isi_nl, ↓x_isi_nd, ↓x_isi_bb, ↓x_isi_bi, ↓x_isi_bs, ↓x_isi_bt, ↓x_isi_bl, ↓x_isi_bd, ↓x_isi_ib, ↓x_isi_ii, ↓x_isi_is, ↓x_isi_it, ↓x_isi_il, ↓x_isi_id, ↓x_isi_sb, ↓x_isi_si, ↓x_isi_ss, ↓x_isi_st, ↓x_isi_sl, ↓x_isi_sd, ↓x_isi_tb, ↓x_isi_ti, ↓x_isi_ts, ↓x_isi_tt, ↓x_isi_tl, ↓x_isi_td, ↓x_isi_lb, ↓x_isi_li, ↓x_isi_ls, ↓x_isi_lt, ↓x_isi_ll, ↓x_isi_ld, ↓x_isi_db, ↓x_isi_di, ↓x_isi_ds, ↓x_isi_dt, ↓x_isi_dl, ↓x_isi_dd, Bool.not_true, Bool.not_false, emp_flt, List.length_cons, List.length_nil, on_join, on_split, on_upper, on_count, on_rstrip, on_sindex, on_part, on_tindex, true_and, and_true, eq_self, Nat.reduceAdd, Nat.reduceLeDiff, Nat.zero_add, ↓l_pop, ↓l_popi, ↓l_ext, ↓l_fld, ↓l_mth, ↓l_new, ↓l_sfld, ↓l_aug, ↓l_augf, ↓x_aug_i, ↓x_aug_d, ↓x_aug_s, ↓x_at3, ↓x_at4, ↓x_at5, ↓x_at6, ↓x_at7, ↓x_at8, ↓x_ne_b, ↓x_eq_b, ↓nb_fld, ↓l_fst, ↓l_fst0, ↓l_fst1, ↓x_sd_s, ↓x_int_s, ↓x_in_names, ↓x_nin_names, isI_n, isI_b, isI_i, isI_s, isI_t, isI_l, isI_d, isI_c, isI_r, isB_n, isB_b, isB_i, isB_s, isB_t, isB_l, isB_d, isB_c, isB_r, isS_n, isS_b, isS_i, isS_s, isS_t, isS_l, isS_d, isS_c, isS_r, isT_n, isT_b, isT_i, isT_s, isT_t, isT_l, isT_d, isT_c, isT_r, ↓WB_isI, ↓WB_isB, ↓WB_isS, ↓WB_isT, ↓SB_isI, ↓SB_isB, ↓SB_isS, ↓SB_isT, ↓f0, ↓f1, ↓f2, ↓f3, ↓f4, ↓f5]
  exact hN
theorem test2 {n : Nat} {s0 : D} {x0 x1 : MO} {a b c d : Int} {x f g : Str} {cl : List D} {y12 y13 : Option D} {N : Env → Store → Prop} {V : D → Store → Prop} (hN : N (lEnv s0 (some (.ref 1)) (some (.int a)) (some (.int b)) (some (.int c)) (some (.int d)) (some (.str x)) (some (.tup cl)) (some (.str f)) (some (.str g)) (some (.ref 26)) (some (.lst [.ref 28, .ref 29, .ref 30, .ref 31, .ref 32])) y12 y13 (some (.lst [.int d, .int c, .str "bold", .str "x", .tup [], .tup [.str "z"]]))) (stF x0 x1 a b c d x cl f g)) :
    WSE xF (run (txOf cons clss) (cf n) (.ite (.cmp .ne (.bin .add (.var 14) (.lst [(.xfld (.idx (.var 11) (.int 4)) 5)])) (.lst [(.var 5), (.var 4), (.str "bold"), (.str "x"), (.tup []), (.tup [(.str "z")]), (.var 5)])) [.ret (.bl false)] []) (lEnv s0 (some (.ref 1)) (some (.int a)) (some (.int b)) (some (.int c)) (some (.int d)) (some (.str x)) (some (.tup cl)) (some (.str f)) (some (.str g)) (some (.ref 26)) (some (.lst [.ref 28, .ref 29, .ref 30, .ref 31, .ref 32])) y12 y13 (some (.lst [.int d, .int c, .str "bold", .str "x", .tup [], .tup [.str "z"]]))) (stF x0 x1 a b c d x cl f g)) N V := by
  have f0 : ∀ P : D → Prop, EX (xfldD (txOf cons clss) (stF x0 x1 a b c d x cl f g) (.ref 32) 5) P ↔ P (.int d) := fun P => EX_eq rfl
  simp only [↓s_cons, ↓s_nil, ↓l_asg, ↓s_ret, ↓l_site, ↓s_exp, ↓s_pass, ↓w_non, ↓w_bl, ↓w_int, ↓w_str, ↓l_var, ↓l_con, ↓l_bin, ↓l_neg, ↓l_cmp, ↓l_chn, ↓w_isn, ↓w_notn, ↓w_and, ↓w_or, ↓l_not, ↓l_ite, ↓l_tup, ↓l_lst, ↓w_dct, ↓w_mutD, ↓mut_lst, ↓mut_dct, ↓l_idx, ↓l_slc, ↓nb_nul, ↓nb_int, ↓nb_var, ↓nb_con, ↓nb_bin, ↓nb_neg, ↓nb_idx, ↓nb_call, ↓nb_bi, ↓w_call, ↓l_bi, ↓l_bm, ↓l_isi, ↓l_xnew, ↓l_xfld, ↓l_raise, ↓l_tri, ↓l_rev, ↓x_rev_t, ↓x_rev_l, ↓w_evs, ↓w_evs0, ↓w_and0, ↓l_and1, ↓w_or0, ↓l_or1, ↓l_ssub, ↓s_whlD, ↓l_app, ↓WP_ok, ↓WS_nx, ↓WS_rt, ↓WP_bind, ↓WP_ofE, ↓WB_t, ↓WB_f, ↓WB_n, ↓WB_dec, ↓WB_all, ↓WB_any, ↓WB_lt, ↓WB_sub, ↓WB_emp, ↓WB_eqv, ↓WB_and, ↓WB_or, ↓SB_t, ↓SB_f, ↓SB_n, ↓SB_dec, ↓SB_all, ↓SB_any, ↓SB_lt, ↓SB_sub, ↓SB_emp, ↓SB_eqv, ↓SB_and, ↓SB_or, ↓EX_some, ↓EX_none, ↓EX_map, ↓EB_bl, ↓EI_int, ↓x_g0, ↓x_gs, ↓x_at0, ↓x_at1, ↓x_at2, ↓x_a0, ↓x_as, ↓x_atup2, ↓x_atup3, ↓x_atup4, ↓x_alst4, ↓x_mod_i, ↓x_bnd, ↓x_str_i, ↓x_str_b, ↓x_upper, ↓x_all, ↓x_any, ↓x_sum, ↓x_add_i, ↓x_sub_i, ↓x_mul_i, ↓x_div_i, ↓x_pow_i, ↓x_add_s, ↓x_add_t, ↓x_add_l, ↓x_mul_s, ↓x_mul_t, ↓x_mul_l, ↓x_lt_i, ↓x_le_i, ↓x_gt_i, ↓x_ge_i, ↓x_lt_s, ↓x_le_s, ↓x_eq_i, ↓x_ne_i, ↓x_eq_s, ↓x_ne_s, ↓x_eq_nil, ↓x_ne_nil, ↓x_in_s, ↓x_nin_s, ↓x_len_l, ↓x_len_t, ↓x_len_s, ↓x_tuple_l, ↓x_tuple_t, ↓x_list_t, ↓x_list_l, ↓x_list_s, ↓x_int_i, ↓x_int_b, ↓x_abs, ↓x_str_s, ↓x_slc_t, ↓x_slc_l, ↓x_slc_s, ↓x_idx_t, ↓x_idx_l, ↓x_isi_nb, ↓x_isi_ni, ↓x_isi_ns, ↓x_isi_nt, ↓x_isi_nl, ↓x_isi_nd, ↓x_isi_bb, ↓x_isi_bi, ↓x_isi_bs, ↓x_isi_bt, ↓x_isi_bl, ↓x_isi_bd, ↓x_isi_ib, ↓x_isi_ii, ↓x_isi_is, ↓x_isi_it, ↓x_isi_il, ↓x_isi_id, ↓x_isi_sb, ↓x_isi_si, ↓x_isi_ss, ↓x_isi_st, ↓x_isi_sl, ↓x_isi_sd, ↓x_isi_tb, ↓x_isi_ti, ↓x_isi_ts, ↓x_isi_tt, ↓x_isi_tl, ↓x_isi_td, ↓x_isi_lb, ↓x_isi_li, ↓x_isi_ls, ↓x_isi_lt, ↓x_isi_ll, ↓x_isi_ld, ↓x_isi_db, ↓x_isi_di, ↓x_isi_ds, ↓x_isi_dt, ↓x_isi_dl, ↓x_isi_dd, Bool.not_true, Bool.not_false, emp_flt, List.length_cons, List.length_nil, on_join, on_split, on_upper, on_count, on_rstrip, on_sindex, on_part, on_tindex, true_and, and_true, eq_self, Nat.reduceAdd, Nat.reduceLeDiff, Nat.zero_add, ↓l_pop, ↓l_popi, ↓l_ext, ↓l_fld, ↓l_mth, ↓l_new, ↓l_sfld, ↓l_aug, ↓l_augf, ↓x_aug_i, ↓x_aug_d, ↓x_aug_s, ↓x_at3, ↓x_at4, ↓x_at5, ↓x_at6, ↓x_at7, ↓x_at8, ↓x_ne_b, ↓x_eq_b, ↓nb_fld, ↓l_fst, ↓l_fst0, ↓l_fst1, ↓x_sd_s, ↓x_int_s, ↓x_in_names, ↓x_nin_names, isI_n, isI_b, isI_i, isI_s, isI_t, isI_l, isI_d, isI_c, isI_r, isB_n, isB_b, isB_i, isB_s, isB_t, isB_l, isB_d, isB_c, isB_r, isS_n, isS_b, isS_i, isS_s, isS_t, isS_l, isS_d, isS_c, isS_r, isT_n, isT_b, isT_i, isT_s, isT_t, isT_l, isT_d, isT_c, isT_r, ↓WB_isI, ↓WB_isB, ↓WB_isS, ↓WB_isT, ↓SB_isI, ↓SB_isB, ↓SB_isS, ↓SB_isT, ↓f0]
  refine ⟨_, ne_2, ?_⟩
  simp only [↓s_cons, ↓s_nil, ↓l_asg, ↓s_ret, ↓l_site, ↓s_exp, ↓s_pass, ↓w_non, ↓w_bl, ↓w_int, ↓w_str, ↓l_var, ↓l_con, ↓l_bin, ↓l_neg, ↓l_cmp, ↓l_chn, ↓w_isn, ↓w_notn, ↓w_and, ↓w_or, ↓l_not, ↓l_ite, ↓l_tup, ↓l_lst, ↓w_dct, ↓w_mutD, ↓mut_lst, ↓mut_dct, ↓l_idx, ↓l_slc, ↓nb_nul, ↓nb_int, ↓nb_var, ↓nb_con, ↓nb_bin, ↓nb_neg, ↓nb_idx, ↓nb_call, ↓nb_bi, ↓w_call, ↓l_bi, ↓l_bm, ↓l_isi, ↓l_xnew, ↓l_xfld, ↓l_raise, ↓l_tri, ↓l_rev, ↓x_rev_t, ↓x_rev_l, ↓w_evs, ↓w_evs0, ↓w_and0, ↓l_and1, ↓w_or0, ↓l_or1, ↓l_ssub, ↓s_whlD, ↓l_app, ↓WP_ok, ↓WS_nx, ↓WS_rt, ↓WP_bind, ↓WP_ofE, ↓WB_t, ↓WB_f, ↓WB_n, ↓WB_dec, ↓WB_all, ↓WB_any, ↓WB_lt, ↓WB_sub, ↓WB_emp, ↓WB_eqv, ↓WB_and, ↓WB_or, ↓SB_t, ↓SB_f, ↓SB_n, ↓SB_dec, ↓SB_all, ↓SB_any, ↓SB_lt, ↓SB_sub, ↓SB_emp, ↓SB_eqv, ↓SB_and, ↓SB_or, ↓EX_some, ↓EX_none, ↓EX_map, ↓EB_bl, ↓EI_int, ↓x_g0, ↓x_gs, ↓x_at0, ↓x_at1, ↓x_at2, ↓x_a0, ↓x_as, ↓x_atup2, ↓x_atup3, ↓x_atup4, ↓x_alst4, ↓x_mod_i, ↓x_bnd, ↓x_str_i, ↓x_str_b, ↓x_upper, ↓x_all, ↓x_any, ↓x_sum, ↓x_add_i, ↓x_sub_i, ↓x_mul_i, ↓x_div_i, ↓x_pow_i, ↓x_add_s, ↓x_add_t, ↓x_add_l, ↓x_mul_s, ↓x_mul_t, ↓x_mul_l, ↓x_lt_i, ↓x_le_i, ↓x_gt_i, ↓x_ge_i, ↓x_lt_s, ↓x_le_s, ↓x_eq_i, ↓x_ne_i, ↓x_eq_s, ↓x_ne_s, ↓x_eq_nil, ↓x_ne_nil, ↓x_in_s, ↓x_nin_s, ↓x_len_l, ↓x_len_t, ↓x_len_s, ↓x_tuple_l, ↓x_tuple_t, ↓x_list_t, ↓x_list_l, ↓x_list_s, ↓x_int_i, ↓x_int_b, ↓x_abs, ↓x_str_s, ↓x_slc_t, ↓x_slc_l, ↓x_slc_s, ↓x_idx_t, ↓x_idx_l, ↓x_isi_nb, ↓x_isi_ni, ↓x_isi_ns, ↓x_isi_nt, ↓x_isi_nl, ↓x_isi_nd, ↓x_isi_bb, ↓x_isi_bi, ↓x_isi_bs, ↓x_isi_bt, ↓x_isi_bl, ↓x_isi_bd, ↓x_isi_ib, ↓x_isi_ii, ↓x_isi_is, ↓x_isi_it, ↓x_isi_il, ↓x_isi_id, ↓x_isi_sb, ↓x_isi_si, ↓x_isi_ss, ↓x_isi_st, ↓x_isi_sl, ↓x_isi_sd, ↓x_isi_tb, ↓x_isi_ti, ↓x_isi_ts, ↓x_isi_tt, ↓x_isi_tl, ↓x_isi_td, ↓x_isi_lb, ↓x_isi_li, ↓x_isi_ls, ↓x_isi_lt, ↓x_isi_ll, ↓x_isi_ld, ↓x_isi_db, ↓x_isi_di, ↓x_isi_ds, ↓x_isi_dt, ↓x_isi_dl, ↓x_isi_dd, Bool.not_true, Bool.not_false, emp_flt, List.length_cons, List.length_nil, on_join, on_split, on_upper, on_count, on_rstrip, on_sindex, on_part, on_tindex, true_and, and_true, eq_self, Nat.reduceAdd, Nat.reduceLeDiff, Nat.zero_add, ↓l_pop, ↓l_popi, ↓l_ext, ↓l_fld, ↓l_mth, ↓l_new, ↓l_sfld, ↓l_aug, ↓l_augf, ↓x_aug_i, ↓x_aug_d, ↓x_aug_s, ↓x_at3, ↓x_at4, ↓x_at5, ↓x_at6, ↓x_at7, ↓x_at8, ↓x_ne_b, ↓x_eq_b, ↓nb_fld, ↓l_fst, ↓l_fst0, ↓l_fst1, ↓x_sd_s, ↓x_int_s, ↓x_in_names, ↓x_nin_names, isI_n, isI_b, isI_i, isI_s, isI_t, isI_l, isI_d, isI_c, isI_r, isB_n, isB_b, isB_i, isB_s, isB_t, isB_l, isB_d, isB_c, isB_r, isS_n, isS_b, isS_i, isS_s, isS_t, isS_l, isS_d, isS_c, isS_r, isT_n, isT_b, isT_i, isT_s, isT_t, isT_l, isT_d, isT_c, isT_r, ↓WB_isI, ↓WB_isB, ↓WB_isS, ↓WB_isT, ↓SB_isI, ↓SB_isB, ↓SB_isS, ↓SB_isT]
  exact hN
theorem last {n : Nat} {s0 : D} {x0 x1 : MO} {a b c d : Int} {x f g : Str} {cl : List D} {y12 y13 : Option D} {N : Env → Store → Prop} {V : D → Store → Prop} (hV : ∀ s, V (.bl true) s) :
    WSE xF (run (txOf cons clss) (cf (n + 1)) (.ret (.cmp .eq (.call 5 [(.xnew 1000 [(.var 6)])]) (.bin .add (.bin .mul (.lst [(.bl false)]) (.int 22)) (.lst [(.bl true), (.bl true)])))) (lEnv s0 (some (.ref 1)) (some (.int a)) (some (.int b)) (some (.int c)) (some (.int d)) (some (.str x)) (some (.tup cl)) (some (.str f)) (some (.str g)) (some (.ref 26)) (some (.lst [.ref 28, .ref 29, .ref 30, .ref 31, .ref 32])) y12 y13 (some (.lst [.int d, .int c, .str "bold", .str "x", .tup [], .tup [.str "z"]]))) (stF x0 x1 a b c d x cl f g)) N V := by
  have q1 := kinds_eq (n := n) (k := 33) (c := 1000) (fs := []) (st := stF x0 x1 a b c d x cl f g ++ [.exc 1000 []]) rfl rfl
  have e33 : (stF x0 x1 a b c d x cl f g).length = 33 := rfl
  simp only [↓s_cons, ↓s_nil, ↓l_asg, ↓s_ret, ↓l_site, ↓s_exp, ↓s_pass, ↓w_non, ↓w_bl, ↓w_int, ↓w_str, ↓l_var, ↓l_con, ↓l_bin, ↓l_neg, ↓l_cmp, ↓l_chn, ↓w_isn, ↓w_notn, ↓w_and, ↓w_or, ↓l_not, ↓l_ite, ↓l_tup, ↓l_lst, ↓w_dct, ↓w_mutD, ↓mut_lst, ↓mut_dct, ↓l_idx, ↓l_slc, ↓nb_nul, ↓nb_int, ↓nb_var, ↓nb_con, ↓nb_bin, ↓nb_neg, ↓nb_idx, ↓nb_call, ↓nb_bi, ↓w_call, ↓l_bi, ↓l_bm, ↓l_isi, ↓l_xnew, ↓l_xfld, ↓l_raise, ↓l_tri, ↓l_rev, ↓x_rev_t, ↓x_rev_l, ↓w_evs, ↓w_evs0, ↓w_and0, ↓l_and1, ↓w_or0, ↓l_or1, ↓l_ssub, ↓s_whlD, ↓l_app, ↓WP_ok, ↓WS_nx, ↓WS_rt, ↓WP_bind, ↓WP_ofE, ↓WB_t, ↓WB_f, ↓WB_n, ↓WB_dec, ↓WB_all, ↓WB_any, ↓WB_lt, ↓WB_sub, ↓WB_emp, ↓WB_eqv, ↓WB_and, ↓WB_or, ↓SB_t, ↓SB_f, ↓SB_n, ↓SB_dec, ↓SB_all, ↓SB_any, ↓SB_lt, ↓SB_sub, ↓SB_emp, ↓SB_eqv, ↓SB_and, ↓SB_or, ↓EX_some, ↓EX_none, ↓EX_map, ↓EB_bl, ↓EI_int, ↓x_g0, ↓x_gs, ↓x_at0, ↓x_at1, ↓x_at2, ↓x_a0, ↓x_as, ↓x_atup2, ↓x_atup3, ↓x_atup4, ↓x_alst4, ↓x_mod_i, ↓x_bnd, ↓x_str_i, ↓x_str_b, ↓x_upper, ↓x_all, ↓x_any, ↓x_sum, ↓x_add_i, ↓x_sub_i, ↓x_mul_i, ↓x_div_i, ↓x_pow_i, ↓x_add_s, ↓x_add_t, ↓x_add_l, ↓x_mul_s, ↓x_mul_t, ↓x_mul_l, ↓x_lt_i, ↓x_le_i, ↓x_gt_i, ↓x_ge_i, ↓x_lt_s, ↓x_le_s, ↓x_eq_i, ↓x_ne_i, ↓x_eq_s, ↓x_ne_s, ↓x_eq_nil, ↓x_ne_nil, ↓x_in_s, ↓x_nin_s, ↓x_len_l, ↓x_len_t, ↓x_len_s, ↓x_tuple_l, ↓x_tuple_t, ↓x_list_t, ↓x_list_l, ↓x_list_s, ↓x_int_i, ↓x_int_b, ↓x_abs, ↓x_str_s, ↓x_slc_t, ↓x_slc_l, ↓x_slc_s, ↓x_idx_t, ↓x_idx_l, ↓x_isi_nb, ↓x_isi_ni, ↓x_isi_ns, ↓x_isi_nt, ↓x_isi_nl, ↓x_isi_nd, ↓x_isi_bb, ↓x_isi_bi, ↓x_isi_bs, ↓x_isi_bt, ↓x_isi_bl, ↓x_isi_bd, ↓x_isi_ib, ↓x_isi_ii, ↓x_isi_is, ↓x_isi_it, ↓x_isi_il, ↓x_isi_id, ↓x_isi_sb, ↓x_isi_si, ↓x_isi_ss, ↓x_isi_st, ↓x_isi_sl, ↓x_isi_sd, ↓x_isi_tb, ↓x_isi_ti, ↓x_isi_ts, ↓x_isi_tt, ↓x_isi_tl, ↓x_isi_td, ↓x_isi_lb, ↓x_isi_li, ↓x_isi_ls, ↓x_isi_lt, ↓x_isi_ll, ↓x_isi_ld, ↓x_isi_db, ↓x_isi_di, ↓x_isi_ds, ↓x_isi_dt, ↓x_isi_dl, ↓x_isi_dd, Bool.not_true, Bool.not_false, emp_flt, List.length_cons, List.length_nil, on_join, on_split, on_upper, on_count, on_rstrip, on_sindex, on_part, on_tindex, true_and, and_true, eq_self, Nat.reduceAdd, Nat.reduceLeDiff, Nat.zero_add, ↓l_pop, ↓l_popi, ↓l_ext, ↓l_fld, ↓l_mth, ↓l_new, ↓l_sfld, ↓l_aug, ↓l_augf, ↓x_aug_i, ↓x_aug_d, ↓x_aug_s, ↓x_at3, ↓x_at4, ↓x_at5, ↓x_at6, ↓x_at7, ↓x_at8, ↓x_ne_b, ↓x_eq_b, ↓nb_fld, ↓l_fst, ↓l_fst0, ↓l_fst1, ↓x_sd_s, ↓x_int_s, ↓x_in_names, ↓x_nin_names, isI_n, isI_b, isI_i, isI_s, isI_t, isI_l, isI_d, isI_c, isI_r, isB_n, isB_b, isB_i, isB_s, isB_t, isB_l, isB_d, isB_c, isB_r, isS_n, isS_b, isS_i, isS_s, isS_t, isS_l, isS_d, isS_c, isS_r, isT_n, isT_b, isT_i, isT_s, isT_t, isT_l, isT_d, isT_c, isT_r, ↓WB_isI, ↓WB_isB, ↓WB_isS, ↓WB_isT, ↓SB_isI, ↓SB_isB, ↓SB_isS, ↓SB_isT, ↓exf_1000, e33, ↓q1]
  exact ⟨by decide, by decide, true, rfl, hV _⟩
end Law
end Cip

set_option maxHeartbeats 4000000
namespace Cip
open PySem
local macro_rules | `(tactic| walk_at "cip") => `(tactic| simp only [s_cons, s_nil, s_asg, s_ret, s_ite, s_exp, s_pass, w_non, w_bl, w_int, w_str, w_var, w_con, w_bin, w_neg, w_cmp, w_isn, w_notn, w_and, w_or, w_not, w_ite, w_tup, w_lst, w_idx, w_call, s_ssubD, s_forD, s_whlD, w_mutD, w_appD, mut_lst, asg_tup2, asg_tup3, int_i, len_l, len_t, len_s, idx_l, idx_t, tuple_l, w_bi, w_isi, w_evs, w_evs0, w_and0, w_and1, w_or0, w_or1, asg_nm, ex_some, ex_var, ex_int, ex_bl, startE, List.length_cons, List.length_nil, List.map_cons, List.map_nil, List.getElem?_cons_zero, List.getElem?_cons_succ, List.set_cons_zero, List.set_cons_succ, List.cons_append, List.nil_append, List.replicate, ex_ite, b_add_i, b_sub_i, b_mul_i, b_mod_i, b_div_i, b_pow_i, b_add_s, b_add_t, b_add_l, b_mul_s, b_mul_t, b_mul_l, c_lt_i, c_le_i, c_gt_i, c_ge_i, c_lt_s, c_le_s, c_eq_i, c_ne_i, c_eq_s, c_ne_s, WP_ok, WS_nx, WS_rt, true_and, and_true])
local macro_rules | `(tactic| walk_at "cip2") => `(tactic| simp only [s_cons, s_nil, s_asg, s_ret, s_ite, s_exp, s_pass, w_non, w_bl, w_int, w_str, w_var, w_con, w_bin, w_neg, w_cmp, w_isn, w_notn, w_and, w_or, w_not, w_ite, w_tup, w_lst, w_idx, w_call, s_ssubD, s_forD, s_whlD, w_mutD, w_appD, mut_lst, asg_tup2, asg_tup3, int_i, len_l, len_t, len_s, idx_l, idx_t, tuple_l, w_bi, w_isi, w_evs, w_evs0, w_and0, w_and1, w_or0, w_or1, asg_nm, ex_some, ex_var, ex_int, ex_bl, startE, List.length_cons, List.length_nil, List.map_cons, List.map_nil, List.getElem?_cons_zero, List.getElem?_cons_succ, List.set_cons_zero, List.set_cons_succ, List.cons_append, List.nil_append, List.replicate, ex_ite, b_add_i, b_sub_i, b_mul_i, b_mod_i, b_div_i, b_pow_i, b_add_s, b_add_t, b_add_l, b_mul_s, b_mul_t, b_mul_l, c_lt_i, c_le_i, c_gt_i, c_ge_i, c_lt_s, c_le_s, c_eq_i, c_ne_i, c_eq_s, c_ne_s, WP_ok, WS_nx, WS_rt, true_and, and_true, w_slc, E.nulB, eq_self, if_true, if_false, Bool.false_eq_true, WP_bind, WP_of, bnd_int, Bool.not_true, Bool.not_false])
local macro_rules | `(tactic| walk_at "cip3") => `(tactic| simp only [s_cons, s_nil, s_asg, s_ret, s_ite, s_exp, s_pass, w_non, w_bl, w_int, w_str, w_var, w_con, w_bin, w_neg, w_cmp, w_isn, w_notn, w_and, w_or, w_not, w_ite, w_tup, w_lst, w_idx, w_call, s_ssubD, s_forD, s_whlD, w_mutD, w_appD, mut_lst, asg_tup2, asg_tup3, int_i, len_l, len_t, len_s, idx_l, idx_t, tuple_l, w_bi, w_isi, w_evs, w_evs0, w_and0, w_and1, w_or0, w_or1, asg_nm, ex_some, ex_var, ex_int, ex_bl, startE, List.length_cons, List.length_nil, List.map_cons, List.map_nil, List.getElem?_cons_zero, List.getElem?_cons_succ, List.set_cons_zero, List.set_cons_succ, List.cons_append, List.nil_append, List.replicate, ex_ite, b_add_i, b_sub_i, b_mul_i, b_mod_i, b_div_i, b_pow_i, b_add_s, b_add_t, b_add_l, b_mul_s, b_mul_t, b_mul_l, c_lt_i, c_le_i, c_gt_i, c_ge_i, c_lt_s, c_le_s, c_eq_i, c_ne_i, c_eq_s, c_ne_s, WP_ok, WS_nx, WS_rt, true_and, and_true, w_slc, E.nulB, eq_self, if_true, if_false, Bool.false_eq_true, WP_bind, WP_of, bnd_int, Bool.not_true, Bool.not_false, w_chn])
local macro_rules | `(tactic| walk_at "z0") => `(tactic| simp only [startE, List.map_cons, List.map_nil, List.length_cons, List.length_nil, Nat.reduceAdd, Nat.reduceSub, List.replicate, List.cons_append, List.nil_append])

namespace Law
/-! V07: the law, whole. -/
theorem hx_all {x0 x1 : MO} {a b c d : Int} {x f g : Str} {cl : List D} : ∀ y ∈ enumL 0 RS, ∃ (i k : Nat) (fs : List (Nat × D)), i < 22 ∧ y = .tup [.int (i : Nat), .ref k] ∧ (stF x0 x1 a b c d x cl f g)[k]? = some (.exc (1001 + i) fs) := by
  intro y hy
  simp only [enumL, RS, List.mem_cons, List.not_mem_nil, or_false] at hy
  rcases hy with rfl | rfl | rfl | rfl | rfl | rfl | rfl | rfl | rfl | rfl | rfl | rfl | rfl | rfl | rfl | rfl | rfl | rfl | rfl | rfl | rfl | rfl
  · exact ⟨0, 2, _, by decide, rfl, rfl⟩
  · exact ⟨1, 3, _, by decide, rfl, rfl⟩
  · exact ⟨2, 4, _, by decide, rfl, rfl⟩
  · exact ⟨3, 5, _, by decide, rfl, rfl⟩
  · exact ⟨4, 6, _, by decide, rfl, rfl⟩
  · exact ⟨5, 8, _, by decide, rfl, rfl⟩
  · exact ⟨6, 9, _, by decide, rfl, rfl⟩
  · exact ⟨7, 10, _, by decide, rfl, rfl⟩
  · exact ⟨8, 11, _, by decide, rfl, rfl⟩
  · exact ⟨9, 12, _, by decide, rfl, rfl⟩
  · exact ⟨10, 13, _, by decide, rfl, rfl⟩
  · exact ⟨11, 15, _, by decide, rfl, rfl⟩
  · exact ⟨12, 16, _, by decide, rfl, rfl⟩
  · exact ⟨13, 17, _, by decide, rfl, rfl⟩
  · exact ⟨14, 18, _, by decide, rfl, rfl⟩
  · exact ⟨15, 19, _, by decide, rfl, rfl⟩
  · exact ⟨16, 21, _, by decide, rfl, rfl⟩
  · exact ⟨17, 22, _, by decide, rfl, rfl⟩
  · exact ⟨18, 23, _, by decide, rfl, rfl⟩
  · exact ⟨19, 24, _, by decide, rfl, rfl⟩
  · exact ⟨20, 25, _, by decide, rfl, rfl⟩
  · exact ⟨21, 27, _, by decide, rfl, rfl⟩
theorem first {n : Nat} {ns : List Int} {N : Env → Store → Prop} {V : D → Store → Prop} (hl : ns.length ≤ 63) (hN : ∀ st, Urn st 1 → st.length = 2 → N (lEnv (.scr (ns.map .int)) (some (.ref 1)) none none none none none none none none none none none none none) st) :
    WSE xF (run (txOf cons clss) (cf (n + 1)) (.asg (.nm 1) (.call 1 [(.var 0)])) (lEnv (.scr (ns.map .int)) none none none none none none none none none none none none none none) []) N V := by
  simp only [↓s_cons, ↓s_nil, ↓l_asg, ↓s_ret, ↓l_site, ↓s_exp, ↓s_pass, ↓w_non, ↓w_bl, ↓w_int, ↓w_str, ↓l_var, ↓l_con, ↓l_bin, ↓l_neg, ↓l_cmp, ↓l_chn, ↓w_isn, ↓w_notn, ↓w_and, ↓w_or, ↓l_not, ↓l_ite, ↓l_tup, ↓l_lst, ↓w_dct, ↓w_mutD, ↓mut_lst, ↓mut_dct, ↓l_idx, ↓l_slc, ↓nb_nul, ↓nb_int, ↓nb_var, ↓nb_con, ↓nb_bin, ↓nb_neg, ↓nb_idx, ↓nb_call, ↓nb_bi, ↓w_call, ↓l_bi, ↓l_bm, ↓l_isi, ↓l_xnew, ↓l_xfld, ↓l_raise, ↓l_tri, ↓l_rev, ↓x_rev_t, ↓x_rev_l, ↓w_evs, ↓w_evs0, ↓w_and0, ↓l_and1, ↓w_or0, ↓l_or1, ↓l_ssub, ↓s_whlD, ↓l_app, ↓WP_ok, ↓WS_nx, ↓WS_rt, ↓WP_bind, ↓WP_ofE, ↓WB_t, ↓WB_f, ↓WB_n, ↓WB_dec, ↓WB_all, ↓WB_any, ↓WB_lt, ↓WB_sub, ↓WB_emp, ↓WB_eqv, ↓WB_and, ↓WB_or, ↓SB_t, ↓SB_f, ↓SB_n, ↓SB_dec, ↓SB_all, ↓SB_any, ↓SB_lt, ↓SB_sub, ↓SB_emp, ↓SB_eqv, ↓SB_and, ↓SB_or, ↓EX_some, ↓EX_none, ↓EX_map, ↓EB_bl, ↓EI_int, ↓x_g0, ↓x_gs, ↓x_at0, ↓x_at1, ↓x_at2, ↓x_a0, ↓x_as, ↓x_atup2, ↓x_atup3, ↓x_atup4, ↓x_alst4, ↓x_mod_i, ↓x_bnd, ↓x_str_i, ↓x_str_b, ↓x_upper, ↓x_all, ↓x_any, ↓x_sum, ↓x_add_i, ↓x_sub_i, ↓x_mul_i, ↓x_div_i, ↓x_pow_i, ↓x_add_s, ↓x_add_t, ↓x_add_l, ↓x_mul_s, ↓x_mul_t, ↓x_mul_l, ↓x_lt_i, ↓x_le_i, ↓x_gt_i, ↓x_ge_i, ↓x_lt_s, ↓x_le_s, ↓x_eq_i, ↓x_ne_i, ↓x_eq_s, ↓x_ne_s, ↓x_eq_nil, ↓x_ne_nil, ↓x_in_s, ↓x_nin_s, ↓x_len_l, ↓x_len_t, ↓x_len_s, ↓x_tuple_l, ↓x_tuple_t, ↓x_list_t, ↓x_list_l, ↓x_list_s, ↓x_int_i, ↓x_int_b, ↓x_abs, ↓x_str_s, ↓x_slc_t, ↓x_slc_l, ↓x_slc_s, ↓x_idx_t, ↓x_idx_l, ↓x_isi_nb, ↓x_isi_ni, ↓x_isi_ns, ↓x_isi_nt, ↓x_isi_nl, ↓x_isi_nd, ↓x_isi_bb, ↓x_isi_bi, ↓x_isi_bs, ↓x_isi_bt, ↓x_isi_bl, ↓x_isi_bd, ↓x_isi_ib, ↓x_isi_ii, ↓x_isi_is, ↓x_isi_it, ↓x_isi_il, ↓x_isi_id, ↓x_isi_sb, ↓x_isi_si, ↓x_isi_ss, ↓x_isi_st, ↓x_isi_sl, ↓x_isi_sd, ↓x_isi_tb, ↓x_isi_ti, ↓x_isi_ts, ↓x_isi_tt, ↓x_isi_tl, ↓x_isi_td, ↓x_isi_lb, ↓x_isi_li, ↓x_isi_ls, ↓x_isi_lt, ↓x_isi_ll, ↓x_isi_ld, ↓x_isi_db, ↓x_isi_di, ↓x_isi_ds, ↓x_isi_dt, ↓x_isi_dl, ↓x_isi_dd, Bool.not_true, Bool.not_false, emp_flt, List.length_cons, List.length_nil, on_join, on_split, on_upper, on_count, on_rstrip, on_sindex, on_part, on_tindex, true_and, and_true, eq_self, Nat.reduceAdd, Nat.reduceLeDiff, Nat.zero_add, ↓l_pop, ↓l_popi, ↓l_ext, ↓l_fld, ↓l_mth, ↓l_new, ↓l_sfld, ↓l_aug, ↓l_augf, ↓x_aug_i, ↓x_aug_d, ↓x_aug_s, ↓x_at3, ↓x_at4, ↓x_at5, ↓x_at6, ↓x_at7, ↓x_at8, ↓x_ne_b, ↓x_eq_b, ↓nb_fld, ↓l_fst, ↓l_fst0, ↓l_fst1, ↓x_sd_s, ↓x_int_s, ↓x_in_names, ↓x_nin_names, isI_n, isI_b, isI_i, isI_s, isI_t, isI_l, isI_d, isI_c, isI_r, isB_n, isB_b, isB_i, isB_s, isB_t, isB_l, isB_d, isB_c, isB_r, isS_n, isS_b, isS_i, isS_s, isS_t, isS_l, isS_d, isS_c, isS_r, isT_n, isT_b, isT_i, isT_s, isT_t, isT_l, isT_d, isT_c, isT_r, ↓WB_isI, ↓WB_isB, ↓WB_isS, ↓WB_isT, ↓SB_isI, ↓SB_isB, ↓SB_isS, ↓SB_isT]
  refine urn_of (by omega) fun st1 h1 h2 h3 => ?_
  exact hN st1 ⟨0, h3⟩ h1
theorem seq {Γ : Cip.Tx} {cf : CF} {s : S} {ss : List S} {env : Env} {st : Store} {N : Env → Store → Prop} {V : D → Store → Prop} (P : Env → Store → Prop) (h1 : ∀ N' : Env → Store → Prop, (∀ e s, P e s → N' e s) → WSE xF (run Γ cf s env st) N' V) (h2 : ∀ e s, P e s → WSE xF (runs Γ cf ss e s) N V) :
    WSE xF (runs Γ cf (s :: ss) env st) N V := by
  rw [s_cons]
  exact h1 _ h2
set_option maxHeartbeats 1000000
theorem step1 {n : Nat} {ns : List Int} {x0 x1 : MO} {a b c d : Int} {x f g : Str} {cl : List D} {ss : List S} {N : Env → Store → Prop} {V : D → Store → Prop} (ha : 0 ≤ a ∧ a < 1000000) (hb : 0 ≤ b ∧ b < 1000000) (hc : 0 ≤ c ∧ c < 1000000) (hf : f.length ≤ 1000) (hg : g.length ≤ 1000) (h2 : WSE xF (runs (txOf cons clss) (cf (n + 9)) ss (lEnv (.scr (ns.map .int)) (some (.ref 1)) (some (.int a)) (some (.int b)) (some (.int c)) (some (.int d)) (some (.str x)) (some (.tup cl)) (some (.str f)) (some (.str g)) (some (.ref 7)) none none none none) (st5 x0 x1 a b c d x cl f g)) N V) : WSE xF (runs (txOf cons clss) (cf (n + 9)) (.asg (.nm 10) (.mut (.lst [(.xnew 1001 [(.var 2), (.var 3)]), (.xnew 1002 [(.var 8)]), (.xnew 1003 [(.var 9), (.var 7)]), (.xnew 1004 [(.var 7)]), (.xnew 1005 [(.var 4)])])) :: ss) (lEnv (.scr (ns.map .int)) (some (.ref 1)) (some (.int a)) (some (.int b)) (some (.int c)) (some (.int d)) (some (.str x)) (some (.tup cl)) (some (.str f)) (some (.str g)) none none none none none) [x0, x1]) N V := by
  refine seq (fun e s => e = lEnv (.scr (ns.map .int)) (some (.ref 1)) (some (.int a)) (some (.int b)) (some (.int c)) (some (.int d)) (some (.str x)) (some (.tup cl)) (some (.str f)) (some (.str g)) (some (.ref 7)) none none none none ∧ s = (st5 x0 x1 a b c d x cl f g)) (fun N' h => make1 (n := n + 9) (s0 := .scr (ns.map .int)) (x0 := x0) (x1 := x1) (a := a) (b := b) (c := c) (d := d) (x := x) (f := f) (g := g) (cl := cl) ha hb hc hf hg (h _ _ ⟨rfl, rfl⟩)) ?_
  rintro _ _ ⟨rfl, rfl⟩
  exact h2
theorem step2 {n : Nat} {ns : List Int} {x0 x1 : MO} {a b c d : Int} {x f g : Str} {cl : List D} {ss : List S} {N : Env → Store → Prop} {V : D → Store → Prop} (h2 : WSE xF (runs (txOf cons clss) (cf (n + 9)) ss (lEnv (.scr (ns.map .int)) (some (.ref 1)) (some (.int a)) (some (.int b)) (some (.int c)) (some (.int d)) (some (.str x)) (some (.tup cl)) (some (.str f)) (some (.str g)) (some (.ref 14)) none none none none) (st6 x0 x1 a b c d x cl f g)) N V) : WSE xF (runs (txOf cons clss) (cf (n + 9)) (.asg (.nm 10) (.mut (.bin .add (.var 10) (.lst [(.xnew 1006 [(.var 6)]), (.xnew 1007 [(.var 6)]), (.xnew 1008 [(.var 6)]), (.xnew 1009 [(.var 6)]), (.xnew 1010 [(.var 6)]), (.xnew 1011 [(.var 6)])]))) :: ss) (lEnv (.scr (ns.map .int)) (some (.ref 1)) (some (.int a)) (some (.int b)) (some (.int c)) (some (.int d)) (some (.str x)) (some (.tup cl)) (some (.str f)) (some (.str g)) (some (.ref 7)) none none none none) (st5 x0 x1 a b c d x cl f g)) N V := by
  refine seq (fun e s => e = lEnv (.scr (ns.map .int)) (some (.ref 1)) (some (.int a)) (some (.int b)) (some (.int c)) (some (.int d)) (some (.str x)) (some (.tup cl)) (some (.str f)) (some (.str g)) (some (.ref 14)) none none none none ∧ s = (st6 x0 x1 a b c d x cl f g)) (fun N' h => make2 (n := n + 9) (s0 := .scr (ns.map .int)) (x0 := x0) (x1 := x1) (a := a) (b := b) (c := c) (d := d) (x := x) (f := f) (g := g) (cl := cl) (h _ _ ⟨rfl, rfl⟩)) ?_
  rintro _ _ ⟨rfl, rfl⟩
  exact h2
theorem step3 {n : Nat} {ns : List Int} {x0 x1 : MO} {a b c d : Int} {x f g : Str} {cl : List D} {ss : List S} {N : Env → Store → Prop} {V : D → Store → Prop} (h2 : WSE xF (runs (txOf cons clss) (cf (n + 9)) ss (lEnv (.scr (ns.map .int)) (some (.ref 1)) (some (.int a)) (some (.int b)) (some (.int c)) (some (.int d)) (some (.str x)) (some (.tup cl)) (some (.str f)) (some (.str g)) (some (.ref 20)) none none none none) (st7 x0 x1 a b c d x cl f g)) N V) : WSE xF (runs (txOf cons clss) (cf (n + 9)) (.asg (.nm 10) (.mut (.bin .add (.var 10) (.lst [(.xnew 1012 [(.var 6)]), (.xnew 1013 [(.var 6)]), (.xnew 1014 [(.var 6)]), (.xnew 1015 [(.var 6)]), (.xnew 1016 [(.var 6)])]))) :: ss) (lEnv (.scr (ns.map .int)) (some (.ref 1)) (some (.int a)) (some (.int b)) (some (.int c)) (some (.int d)) (some (.str x)) (some (.tup cl)) (some (.str f)) (some (.str g)) (some (.ref 14)) none none none none) (st6 x0 x1 a b c d x cl f g)) N V := by
  refine seq (fun e s => e = lEnv (.scr (ns.map .int)) (some (.ref 1)) (some (.int a)) (some (.int b)) (some (.int c)) (some (.int d)) (some (.str x)) (some (.tup cl)) (some (.str f)) (some (.str g)) (some (.ref 20)) none none none none ∧ s = (st7 x0 x1 a b c d x cl f g)) (fun N' h => make3 (n := n + 9) (s0 := .scr (ns.map .int)) (x0 := x0) (x1 := x1) (a := a) (b := b) (c := c) (d := d) (x := x) (f := f) (g := g) (cl := cl) (h _ _ ⟨rfl, rfl⟩)) ?_
  rintro _ _ ⟨rfl, rfl⟩
  exact h2
theorem step4 {n : Nat} {ns : List Int} {x0 x1 : MO} {a b c d : Int} {x f g : Str} {cl : List D} {ss : List S} {N : Env → Store → Prop} {V : D → Store → Prop} (h2 : WSE xF (runs (txOf cons clss) (cf (n + 9)) ss (lEnv (.scr (ns.map .int)) (some (.ref 1)) (some (.int a)) (some (.int b)) (some (.int c)) (some (.int d)) (some (.str x)) (some (.tup cl)) (some (.str f)) (some (.str g)) (some (.ref 26)) none none none none) (st8 x0 x1 a b c d x cl f g)) N V) : WSE xF (runs (txOf cons clss) (cf (n + 9)) (.asg (.nm 10) (.mut (.bin .add (.var 10) (.lst [(.xnew 1017 [(.var 6)]), (.xnew 1018 [(.var 6)]), (.xnew 1019 [(.var 6)]), (.xnew 1020 [(.var 6)]), (.xnew 1021 [(.var 6)])]))) :: ss) (lEnv (.scr (ns.map .int)) (some (.ref 1)) (some (.int a)) (some (.int b)) (some (.int c)) (some (.int d)) (some (.str x)) (some (.tup cl)) (some (.str f)) (some (.str g)) (some (.ref 20)) none none none none) (st7 x0 x1 a b c d x cl f g)) N V := by
  refine seq (fun e s => e = lEnv (.scr (ns.map .int)) (some (.ref 1)) (some (.int a)) (some (.int b)) (some (.int c)) (some (.int d)) (some (.str x)) (some (.tup cl)) (some (.str f)) (some (.str g)) (some (.ref 26)) none none none none ∧ s = (st8 x0 x1 a b c d x cl f g)) (fun N' h => make4 (n := n + 9) (s0 := .scr (ns.map .int)) (x0 := x0) (x1 := x1) (a := a) (b := b) (c := c) (d := d) (x := x) (f := f) (g := g) (cl := cl) (h _ _ ⟨rfl, rfl⟩)) ?_
  rintro _ _ ⟨rfl, rfl⟩
  exact h2
theorem step5 {n : Nat} {ns : List Int} {x0 x1 : MO} {a b c d : Int} {x f g : Str} {cl : List D} {ss : List S} {N : Env → Store → Prop} {V : D → Store → Prop} (h2 : WSE xF (runs (txOf cons clss) (cf (n + 9)) ss (lEnv (.scr (ns.map .int)) (some (.ref 1)) (some (.int a)) (some (.int b)) (some (.int c)) (some (.int d)) (some (.str x)) (some (.tup cl)) (some (.str f)) (some (.str g)) (some (.ref 26)) none none none none) (st9 x0 x1 a b c d x cl f g)) N V) : WSE xF (runs (txOf cons clss) (cf (n + 9)) (.exp (.app (.var 10) (.xnew 1022 [(.var 6)])) :: ss) (lEnv (.scr (ns.map .int)) (some (.ref 1)) (some (.int a)) (some (.int b)) (some (.int c)) (some (.int d)) (some (.str x)) (some (.tup cl)) (some (.str f)) (some (.str g)) (some (.ref 26)) none none none none) (st8 x0 x1 a b c d x cl f g)) N V := by
  refine seq (fun e s => e = lEnv (.scr (ns.map .int)) (some (.ref 1)) (some (.int a)) (some (.int b)) (some (.int c)) (some (.int d)) (some (.str x)) (some (.tup cl)) (some (.str f)) (some (.str g)) (some (.ref 26)) none none none none ∧ s = (st9 x0 x1 a b c d x cl f g)) (fun N' h => make5 (n := n + 9) (s0 := .scr (ns.map .int)) (x0 := x0) (x1 := x1) (a := a) (b := b) (c := c) (d := d) (x := x) (f := f) (g := g) (cl := cl) (h _ _ ⟨rfl, rfl⟩)) ?_
  rintro _ _ ⟨rfl, rfl⟩
  exact h2
theorem step6 {n : Nat} {ns : List Int} {x0 x1 : MO} {a b c d : Int} {x f g : Str} {cl : List D} {ss : List S} {N : Env → Store → Prop} {V : D → Store → Prop} (hc : 0 ≤ c ∧ c < 1000000) (hd : 0 ≤ d ∧ d < 1000000) (h2 : WSE xF (runs (txOf cons clss) (cf (n + 9)) ss (lEnv (.scr (ns.map .int)) (some (.ref 1)) (some (.int a)) (some (.int b)) (some (.int c)) (some (.int d)) (some (.str x)) (some (.tup cl)) (some (.str f)) (some (.str g)) (some (.ref 26)) (some (.lst [.ref 28, .ref 29, .ref 30, .ref 31, .ref 32])) none none none) (stF x0 x1 a b c d x cl f g)) N V) : WSE xF (runs (txOf cons clss) (cf (n + 9)) (.asg (.nm 11) (.lst [(.xnew 1001 [(.var 5), (.var 4)]), (.xnew 1002 [(.str "bold")]), (.xnew 1003 [(.str "x"), (.tup [])]), (.xnew 1004 [(.tup [(.str "z")])]), (.xnew 1005 [(.var 5)])]) :: ss) (lEnv (.scr (ns.map .int)) (some (.ref 1)) (some (.int a)) (some (.int b)) (some (.int c)) (some (.int d)) (some (.str x)) (some (.tup cl)) (some (.str f)) (some (.str g)) (some (.ref 26)) none none none none) (st9 x0 x1 a b c d x cl f g)) N V := by
  refine seq (fun e s => e = lEnv (.scr (ns.map .int)) (some (.ref 1)) (some (.int a)) (some (.int b)) (some (.int c)) (some (.int d)) (some (.str x)) (some (.tup cl)) (some (.str f)) (some (.str g)) (some (.ref 26)) (some (.lst [.ref 28, .ref 29, .ref 30, .ref 31, .ref 32])) none none none ∧ s = (stF x0 x1 a b c d x cl f g)) (fun N' h => make6 (n := n + 9) (s0 := .scr (ns.map .int)) (x0 := x0) (x1 := x1) (a := a) (b := b) (c := c) (d := d) (x := x) (f := f) (g := g) (cl := cl) hc hd (h _ _ ⟨rfl, rfl⟩)) ?_
  rintro _ _ ⟨rfl, rfl⟩
  exact h2
theorem step7 {n : Nat} {ns : List Int} {x0 x1 : MO} {a b c d : Int} {x f g : Str} {cl : List D} {ss : List S} {N : Env → Store → Prop} {V : D → Store → Prop} (h2 : ∀ y12 y13, WSE xF (runs (txOf cons clss) (cf (n + 9)) ss (lEnv (.scr (ns.map .int)) (some (.ref 1)) (some (.int a)) (some (.int b)) (some (.int c)) (some (.int d)) (some (.str x)) (some (.tup cl)) (some (.str f)) (some (.str g)) (some (.ref 26)) (some (.lst [.ref 28, .ref 29, .ref 30, .ref 31, .ref 32])) y12 y13 none) (stF x0 x1 a b c d x cl f g)) N V) : WSE xF (runs (txOf cons clss) (cf (n + 9)) (.for (.tup [(.nm 12), (.nm 13)]) .enum [(.var 10)] [.ite (.cmp .ne (.call 5 [(.var 13)]) (.bin .add (.lc [16] (.nm 16) .rng1 [(.int 22)] .nul (.cmp .eq (.var 16) (.var 12))) (.lst [(.bl true), (.bl true)]))) [.ret (.bl false)] []] :: ss) (lEnv (.scr (ns.map .int)) (some (.ref 1)) (some (.int a)) (some (.int b)) (some (.int c)) (some (.int d)) (some (.str x)) (some (.tup cl)) (some (.str f)) (some (.str g)) (some (.ref 26)) (some (.lst [.ref 28, .ref 29, .ref 30, .ref 31, .ref 32])) none none none) (stF x0 x1 a b c d x cl f g)) N V := by
  refine seq (fun e s => ∃ y12 y13, e = lEnv (.scr (ns.map .int)) (some (.ref 1)) (some (.int a)) (some (.int b)) (some (.int c)) (some (.int d)) (some (.str x)) (some (.tup cl)) (some (.str f)) (some (.str g)) (some (.ref 26)) (some (.lst [.ref 28, .ref 29, .ref 30, .ref 31, .ref 32])) y12 y13 none ∧ s = stF x0 x1 a b c d x cl f g) (fun N' h => loop (n := n + 8) (S := stF x0 x1 a b c d x cl f g) rfl hx_all fun y12 y13 => h _ _ ⟨y12, y13, rfl, rfl⟩) ?_
  rintro _ _ ⟨y12, y13, rfl, rfl⟩
  exact h2 y12 y13
theorem step8 {n : Nat} {ns : List Int} {x0 x1 : MO} {a b c d : Int} {x f g : Str} {cl : List D} {y12 y13 : Option D} {ss : List S} {N : Env → Store → Prop} {V : D → Store → Prop} (h2 : WSE xF (runs (txOf cons clss) (cf (n + 9)) ss (lEnv (.scr (ns.map .int)) (some (.ref 1)) (some (.int a)) (some (.int b)) (some (.int c)) (some (.int d)) (some (.str x)) (some (.tup cl)) (some (.str f)) (some (.str g)) (some (.ref 26)) (some (.lst [.ref 28, .ref 29, .ref 30, .ref 31, .ref 32])) y12 y13 (some (.lst [.int a, .int b, .str f, .str g, .tup cl, .tup cl]))) (stF x0 x1 a b c d x cl f g)) N V) : WSE xF (runs (txOf cons clss) (cf (n + 9)) (.asg (.nm 14) (.lst [(.xfld (.idx (.var 10) (.int 0)) 0), (.xfld (.idx (.var 10) (.int 0)) 1), (.xfld (.idx (.var 10) (.int 1)) 2), (.xfld (.idx (.var 10) (.int 2)) 3), (.xfld (.idx (.var 10) (.int 2)) 4), (.xfld (.idx (.var 10) (.int 3)) 4)]) :: ss) (lEnv (.scr (ns.map .int)) (some (.ref 1)) (some (.int a)) (some (.int b)) (some (.int c)) (some (.int d)) (some (.str x)) (some (.tup cl)) (some (.str f)) (some (.str g)) (some (.ref 26)) (some (.lst [.ref 28, .ref 29, .ref 30, .ref 31, .ref 32])) y12 y13 none) (stF x0 x1 a b c d x cl f g)) N V := by
  refine seq (fun e s => e = lEnv (.scr (ns.map .int)) (some (.ref 1)) (some (.int a)) (some (.int b)) (some (.int c)) (some (.int d)) (some (.str x)) (some (.tup cl)) (some (.str f)) (some (.str g)) (some (.ref 26)) (some (.lst [.ref 28, .ref 29, .ref 30, .ref 31, .ref 32])) y12 y13 (some (.lst [.int a, .int b, .str f, .str g, .tup cl, .tup cl])) ∧ s = stF x0 x1 a b c d x cl f g) (fun N' h => found1 (n := n + 9) (s0 := .scr (ns.map .int)) (x0 := x0) (x1 := x1) (a := a) (b := b) (c := c) (d := d) (x := x) (f := f) (g := g) (cl := cl) (y12 := y12) (y13 := y13) (h _ _ ⟨rfl, rfl⟩)) ?_
  rintro _ _ ⟨rfl, rfl⟩
  exact h2
theorem step9 {n : Nat} {ns : List Int} {x0 x1 : MO} {a b c d : Int} {x f g : Str} {cl : List D} {y12 y13 : Option D} {ss : List S} {N : Env → Store → Prop} {V : D → Store → Prop} (hcl : ClO cl) (h2 : WSE xF (runs (txOf cons clss) (cf (n + 9)) ss (lEnv (.scr (ns.map .int)) (some (.ref 1)) (some (.int a)) (some (.int b)) (some (.int c)) (some (.int d)) (some (.str x)) (some (.tup cl)) (some (.str f)) (some (.str g)) (some (.ref 26)) (some (.lst [.ref 28, .ref 29, .ref 30, .ref 31, .ref 32])) y12 y13 (some (.lst [.int a, .int b, .str f, .str g, .tup cl, .tup cl]))) (stF x0 x1 a b c d x cl f g)) N V) : WSE xF (runs (txOf cons clss) (cf (n + 9)) (.ite (.cmp .ne (.bin .add (.var 14) (.lst [(.xfld (.idx (.var 10) (.int 4)) 5)])) (.lst [(.var 2), (.var 3), (.var 8), (.var 9), (.var 7), (.var 7), (.var 4)])) [.ret (.bl false)] [] :: ss) (lEnv (.scr (ns.map .int)) (some (.ref 1)) (some (.int a)) (some (.int b)) (some (.int c)) (some (.int d)) (some (.str x)) (some (.tup cl)) (some (.str f)) (some (.str g)) (some (.ref 26)) (some (.lst [.ref 28, .ref 29, .ref 30, .ref 31, .ref 32])) y12 y13 (some (.lst [.int a, .int b, .str f, .str g, .tup cl, .tup cl]))) (stF x0 x1 a b c d x cl f g)) N V := by
  refine seq (fun e s => e = lEnv (.scr (ns.map .int)) (some (.ref 1)) (some (.int a)) (some (.int b)) (some (.int c)) (some (.int d)) (some (.str x)) (some (.tup cl)) (some (.str f)) (some (.str g)) (some (.ref 26)) (some (.lst [.ref 28, .ref 29, .ref 30, .ref 31, .ref 32])) y12 y13 (some (.lst [.int a, .int b, .str f, .str g, .tup cl, .tup cl])) ∧ s = stF x0 x1 a b c d x cl f g) (fun N' h => test1 (n := n + 9) (s0 := .scr (ns.map .int)) (x0 := x0) (x1 := x1) (a := a) (b := b) (c := c) (d := d) (x := x) (f := f) (g := g) (cl := cl) (y12 := y12) (y13 := y13) hcl (h _ _ ⟨rfl, rfl⟩)) ?_
  rintro _ _ ⟨rfl, rfl⟩
  exact h2
theorem step10 {n : Nat} {ns : List Int} {x0 x1 : MO} {a b c d : Int} {x f g : Str} {cl : List D} {y12 y13 : Option D} {ss : List S} {N : Env → Store → Prop} {V : D → Store → Prop} (h2 : WSE xF (runs (txOf cons clss) (cf (n + 9)) ss (lEnv (.scr (ns.map .int)) (some (.ref 1)) (some (.int a)) (some (.int b)) (some (.int c)) (some (.int d)) (some (.str x)) (some (.tup cl)) (some (.str f)) (some (.str g)) (some (.ref 26)) (some (.lst [.ref 28, .ref 29, .ref 30, .ref 31, .ref 32])) y12 y13 (some (.lst [.int d, .int c, .str "bold", .str "x", .tup [], .tup [.str "z"]]))) (stF x0 x1 a b c d x cl f g)) N V) : WSE xF (runs (txOf cons clss) (cf (n + 9)) (.asg (.nm 14) (.lst [(.xfld (.idx (.var 11) (.int 0)) 0), (.xfld (.idx (.var 11) (.int 0)) 1), (.xfld (.idx (.var 11) (.int 1)) 2), (.xfld (.idx (.var 11) (.int 2)) 3), (.xfld (.idx (.var 11) (.int 2)) 4), (.xfld (.idx (.var 11) (.int 3)) 4)]) :: ss) (lEnv (.scr (ns.map .int)) (some (.ref 1)) (some (.int a)) (some (.int b)) (some (.int c)) (some (.int d)) (some (.str x)) (some (.tup cl)) (some (.str f)) (some (.str g)) (some (.ref 26)) (some (.lst [.ref 28, .ref 29, .ref 30, .ref 31, .ref 32])) y12 y13 (some (.lst [.int a, .int b, .str f, .str g, .tup cl, .tup cl]))) (stF x0 x1 a b c d x cl f g)) N V := by
  refine seq (fun e s => e = lEnv (.scr (ns.map .int)) (some (.ref 1)) (some (.int a)) (some (.int b)) (some (.int c)) (some (.int d)) (some (.str x)) (some (.tup cl)) (some (.str f)) (some (.str g)) (some (.ref 26)) (some (.lst [.ref 28, .ref 29, .ref 30, .ref 31, .ref 32])) y12 y13 (some (.lst [.int d, .int c, .str "bold", .str "x", .tup [], .tup [.str "z"]])) ∧ s = stF x0 x1 a b c d x cl f g) (fun N' h => found2 (n := n + 9) (s0 := .scr (ns.map .int)) (x0 := x0) (x1 := x1) (a := a) (b := b) (c := c) (d := d) (x := x) (f := f) (g := g) (cl := cl) (y12 := y12) (y13 := y13) (h _ _ ⟨rfl, rfl⟩)) ?_
  rintro _ _ ⟨rfl, rfl⟩
  exact h2
theorem step11 {n : Nat} {ns : List Int} {x0 x1 : MO} {a b c d : Int} {x f g : Str} {cl : List D} {y12 y13 : Option D} {ss : List S} {N : Env → Store → Prop} {V : D → Store → Prop} (h2 : WSE xF (runs (txOf cons clss) (cf (n + 9)) ss (lEnv (.scr (ns.map .int)) (some (.ref 1)) (some (.int a)) (some (.int b)) (some (.int c)) (some (.int d)) (some (.str x)) (some (.tup cl)) (some (.str f)) (some (.str g)) (some (.ref 26)) (some (.lst [.ref 28, .ref 29, .ref 30, .ref 31, .ref 32])) y12 y13 (some (.lst [.int d, .int c, .str "bold", .str "x", .tup [], .tup [.str "z"]]))) (stF x0 x1 a b c d x cl f g)) N V) : WSE xF (runs (txOf cons clss) (cf (n + 9)) (.ite (.cmp .ne (.bin .add (.var 14) (.lst [(.xfld (.idx (.var 11) (.int 4)) 5)])) (.lst [(.var 5), (.var 4), (.str "bold"), (.str "x"), (.tup []), (.tup [(.str "z")]), (.var 5)])) [.ret (.bl false)] [] :: ss) (lEnv (.scr (ns.map .int)) (some (.ref 1)) (some (.int a)) (some (.int b)) (some (.int c)) (some (.int d)) (some (.str x)) (some (.tup cl)) (some (.str f)) (some (.str g)) (some (.ref 26)) (some (.lst [.ref 28, .ref 29, .ref 30, .ref 31, .ref 32])) y12 y13 (some (.lst [.int d, .int c, .str "bold", .str "x", .tup [], .tup [.str "z"]]))) (stF x0 x1 a b c d x cl f g)) N V := by
  refine seq (fun e s => e = lEnv (.scr (ns.map .int)) (some (.ref 1)) (some (.int a)) (some (.int b)) (some (.int c)) (some (.int d)) (some (.str x)) (some (.tup cl)) (some (.str f)) (some (.str g)) (some (.ref 26)) (some (.lst [.ref 28, .ref 29, .ref 30, .ref 31, .ref 32])) y12 y13 (some (.lst [.int d, .int c, .str "bold", .str "x", .tup [], .tup [.str "z"]])) ∧ s = stF x0 x1 a b c d x cl f g) (fun N' h => test2 (n := n + 9) (s0 := .scr (ns.map .int)) (x0 := x0) (x1 := x1) (a := a) (b := b) (c := c) (d := d) (x := x) (f := f) (g := g) (cl := cl) (y12 := y12) (y13 := y13) (h _ _ ⟨rfl, rfl⟩)) ?_
  rintro _ _ ⟨rfl, rfl⟩
  exact h2
theorem step12 {n : Nat} {ns : List Int} {x0 x1 : MO} {a b c d : Int} {x f g : Str} {cl : List D} {y12 y13 : Option D} {ss : List S} {N : Env → Store → Prop} {V : D → Store → Prop} (hV : ∀ s, V (.bl true) s) : WSE xF (runs (txOf cons clss) (cf (n + 9)) (.ret (.cmp .eq (.call 5 [(.xnew 1000 [(.var 6)])]) (.bin .add (.bin .mul (.lst [(.bl false)]) (.int 22)) (.lst [(.bl true), (.bl true)]))) :: ss) (lEnv (.scr (ns.map .int)) (some (.ref 1)) (some (.int a)) (some (.int b)) (some (.int c)) (some (.int d)) (some (.str x)) (some (.tup cl)) (some (.str f)) (some (.str g)) (some (.ref 26)) (some (.lst [.ref 28, .ref 29, .ref 30, .ref 31, .ref 32])) y12 y13 (some (.lst [.int d, .int c, .str "bold", .str "x", .tup [], .tup [.str "z"]]))) (stF x0 x1 a b c d x cl f g)) N V := by
  refine seq (fun _ _ => False) (fun N' h => last (n := n + 8) (s0 := .scr (ns.map .int)) (x0 := x0) (x1 := x1) (a := a) (b := b) (c := c) (d := d) (x := x) (f := f) (g := g) (cl := cl) (y12 := y12) (y13 := y13) hV) fun _ _ h => h.elim
/-- sealed: nothing looks into it -/
structure Wr (n : Nat) (ss : List S) (env : Env) (st : Store) (N : Env → Store → Prop) (V : D → Store → Prop) : Prop where
  h : WSE xF (runs (txOf cons clss) (cf (n + 9)) ss env st) N V
theorem step1' {n : Nat} {ns : List Int} {x0 x1 : MO} {a b c d : Int} {x f g : Str} {cl : List D} {ss : List S} {N : Env → Store → Prop} {V : D → Store → Prop} (ha : 0 ≤ a ∧ a < 1000000) (hb : 0 ≤ b ∧ b < 1000000) (hc : 0 ≤ c ∧ c < 1000000) (hf : f.length ≤ 1000) (hg : g.length ≤ 1000) (h2 : Wr n ss (lEnv (.scr (ns.map .int)) (some (.ref 1)) (some (.int a)) (some (.int b)) (some (.int c)) (some (.int d)) (some (.str x)) (some (.tup cl)) (some (.str f)) (some (.str g)) (some (.ref 7)) none none none none) (st5 x0 x1 a b c d x cl f g) N V) : Wr n (.asg (.nm 10) (.mut (.lst [(.xnew 1001 [(.var 2), (.var 3)]), (.xnew 1002 [(.var 8)]), (.xnew 1003 [(.var 9), (.var 7)]), (.xnew 1004 [(.var 7)]), (.xnew 1005 [(.var 4)])])) :: ss) (lEnv (.scr (ns.map .int)) (some (.ref 1)) (some (.int a)) (some (.int b)) (some (.int c)) (some (.int d)) (some (.str x)) (some (.tup cl)) (some (.str f)) (some (.str g)) none none none none none) [x0, x1] N V := ⟨step1 ha hb hc hf hg h2.h⟩
theorem step2' {n : Nat} {ns : List Int} {x0 x1 : MO} {a b c d : Int} {x f g : Str} {cl : List D} {ss : List S} {N : Env → Store → Prop} {V : D → Store → Prop} (h2 : Wr n ss (lEnv (.scr (ns.map .int)) (some (.ref 1)) (some (.int a)) (some (.int b)) (some (.int c)) (some (.int d)) (some (.str x)) (some (.tup cl)) (some (.str f)) (some (.str g)) (some (.ref 14)) none none none none) (st6 x0 x1 a b c d x cl f g) N V) : Wr n (.asg (.nm 10) (.mut (.bin .add (.var 10) (.lst [(.xnew 1006 [(.var 6)]), (.xnew 1007 [(.var 6)]), (.xnew 1008 [(.var 6)]), (.xnew 1009 [(.var 6)]), (.xnew 1010 [(.var 6)]), (.xnew 1011 [(.var 6)])]))) :: ss) (lEnv (.scr (ns.map .int)) (some (.ref 1)) (some (.int a)) (some (.int b)) (some (.int c)) (some (.int d)) (some (.str x)) (some (.tup cl)) (some (.str f)) (some (.str g)) (some (.ref 7)) none none none none) (st5 x0 x1 a b c d x cl f g) N V := ⟨step2 h2.h⟩
theorem step3' {n : Nat} {ns : List Int} {x0 x1 : MO} {a b c d : Int} {x f g : Str} {cl : List D} {ss : List S} {N : Env → Store → Prop} {V : D → Store → Prop} (h2 : Wr n ss (lEnv (.scr (ns.map .int)) (some (.ref 1)) (some (.int a)) (some (.int b)) (some (.int c)) (some (.int d)) (some (.str x)) (some (.tup cl)) (some (.str f)) (some (.str g)) (some (.ref 20)) none none none none) (st7 x0 x1 a b c d x cl f g) N V) : Wr n (.asg (.nm 10) (.mut (.bin .add (.var 10) (.lst [(.xnew 1012 [(.var 6)]), (.xnew 1013 [(.var 6)]), (.xnew 1014 [(.var 6)]), (.xnew 1015 [(.var 6)]), (.xnew 1016 [(.var 6)])]))) :: ss) (lEnv (.scr (ns.map .int)) (some (.ref 1)) (some (.int a)) (some (.int b)) (some (.int c)) (some (.int d)) (some (.str x)) (some (.tup cl)) (some (.str f)) (some (.str g)) (some (.ref 14)) none none none none) (st6 x0 x1 a b c d x cl f g) N V := ⟨step3 h2.h⟩
theorem step4' {n : Nat} {ns : List Int} {x0 x1 : MO} {a b c d : Int} {x f g : Str} {cl : List D} {ss : List S} {N : Env → Store → Prop} {V : D → Store → Prop} (h2 : Wr n ss (lEnv (.scr (ns.map .int)) (some (.ref 1)) (some (.int a)) (some (.int b)) (some (.int c)) (some (.int d)) (some (.str x)) (some (.tup cl)) (some (.str f)) (some (.str g)) (some (.ref 26)) none none none none) (st8 x0 x1 a b c d x cl f g) N V) : Wr n (.asg (.nm 10) (.mut (.bin .add (.var 10) (.lst [(.xnew 1017 [(.var 6)]), (.xnew 1018 [(.var 6)]), (.xnew 1019 [(.var 6)]), (.xnew 1020 [(.var 6)]), (.xnew 1021 [(.var 6)])]))) :: ss) (lEnv (.scr (ns.map .int)) (some (.ref 1)) (some (.int a)) (some (.int b)) (some (.int c)) (some (.int d)) (some (.str x)) (some (.tup cl)) (some (.str f)) (some (.str g)) (some (.ref 20)) none none none none) (st7 x0 x1 a b c d x cl f g) N V := ⟨step4 h2.h⟩
theorem step5' {n : Nat} {ns : List Int} {x0 x1 : MO} {a b c d : Int} {x f g : Str} {cl : List D} {ss : List S} {N : Env → Store → Prop} {V : D → Store → Prop} (h2 : Wr n ss (lEnv (.scr (ns.map .int)) (some (.ref 1)) (some (.int a)) (some (.int b)) (some (.int c)) (some (.int d)) (some (.str x)) (some (.tup cl)) (some (.str f)) (some (.str g)) (some (.ref 26)) none none none none) (st9 x0 x1 a b c d x cl f g) N V) : Wr n (.exp (.app (.var 10) (.xnew 1022 [(.var 6)])) :: ss) (lEnv (.scr (ns.map .int)) (some (.ref 1)) (some (.int a)) (some (.int b)) (some (.int c)) (some (.int d)) (some (.str x)) (some (.tup cl)) (some (.str f)) (some (.str g)) (some (.ref 26)) none none none none) (st8 x0 x1 a b c d x cl f g) N V := ⟨step5 h2.h⟩
theorem step6' {n : Nat} {ns : List Int} {x0 x1 : MO} {a b c d : Int} {x f g : Str} {cl : List D} {ss : List S} {N : Env → Store → Prop} {V : D → Store → Prop} (hc : 0 ≤ c ∧ c < 1000000) (hd : 0 ≤ d ∧ d < 1000000) (h2 : Wr n ss (lEnv (.scr (ns.map .int)) (some (.ref 1)) (some (.int a)) (some (.int b)) (some (.int c)) (some (.int d)) (some (.str x)) (some (.tup cl)) (some (.str f)) (some (.str g)) (some (.ref 26)) (some (.lst [.ref 28, .ref 29, .ref 30, .ref 31, .ref 32])) none none none) (stF x0 x1 a b c d x cl f g) N V) : Wr n (.asg (.nm 11) (.lst [(.xnew 1001 [(.var 5), (.var 4)]), (.xnew 1002 [(.str "bold")]), (.xnew 1003 [(.str "x"), (.tup [])]), (.xnew 1004 [(.tup [(.str "z")])]), (.xnew 1005 [(.var 5)])]) :: ss) (lEnv (.scr (ns.map .int)) (some (.ref 1)) (some (.int a)) (some (.int b)) (some (.int c)) (some (.int d)) (some (.str x)) (some (.tup cl)) (some (.str f)) (some (.str g)) (some (.ref 26)) none none none none) (st9 x0 x1 a b c d x cl f g) N V := ⟨step6 hc hd h2.h⟩
theorem step7' {n : Nat} {ns : List Int} {x0 x1 : MO} {a b c d : Int} {x f g : Str} {cl : List D} {ss : List S} {N : Env → Store → Prop} {V : D → Store → Prop} (h2 : ∀ y12 y13, Wr n ss (lEnv (.scr (ns.map .int)) (some (.ref 1)) (some (.int a)) (some (.int b)) (some (.int c)) (some (.int d)) (some (.str x)) (some (.tup cl)) (some (.str f)) (some (.str g)) (some (.ref 26)) (some (.lst [.ref 28, .ref 29, .ref 30, .ref 31, .ref 32])) y12 y13 none) (stF x0 x1 a b c d x cl f g) N V) : Wr n (.for (.tup [(.nm 12), (.nm 13)]) .enum [(.var 10)] [.ite (.cmp .ne (.call 5 [(.var 13)]) (.bin .add (.lc [16] (.nm 16) .rng1 [(.int 22)] .nul (.cmp .eq (.var 16) (.var 12))) (.lst [(.bl true), (.bl true)]))) [.ret (.bl false)] []] :: ss) (lEnv (.scr (ns.map .int)) (some (.ref 1)) (some (.int a)) (some (.int b)) (some (.int c)) (some (.int d)) (some (.str x)) (some (.tup cl)) (some (.str f)) (some (.str g)) (some (.ref 26)) (some (.lst [.ref 28, .ref 29, .ref 30, .ref 31, .ref 32])) none none none) (stF x0 x1 a b c d x cl f g) N V := ⟨step7 (fun y12 y13 => (h2 y12 y13).h)⟩
theorem step8' {n : Nat} {ns : List Int} {x0 x1 : MO} {a b c d : Int} {x f g : Str} {cl : List D} {y12 y13 : Option D} {ss : List S} {N : Env → Store → Prop} {V : D → Store → Prop} (h2 : Wr n ss (lEnv (.scr (ns.map .int)) (some (.ref 1)) (some (.int a)) (some (.int b)) (some (.int c)) (some (.int d)) (some (.str x)) (some (.tup cl)) (some (.str f)) (some (.str g)) (some (.ref 26)) (some (.lst [.ref 28, .ref 29, .ref 30, .ref 31, .ref 32])) y12 y13 (some (.lst [.int a, .int b, .str f, .str g, .tup cl, .tup cl]))) (stF x0 x1 a b c d x cl f g) N V) : Wr n (.asg (.nm 14) (.lst [(.xfld (.idx (.var 10) (.int 0)) 0), (.xfld (.idx (.var 10) (.int 0)) 1), (.xfld (.idx (.var 10) (.int 1)) 2), (.xfld (.idx (.var 10) (.int 2)) 3), (.xfld (.idx (.var 10) (.int 2)) 4), (.xfld (.idx (.var 10) (.int 3)) 4)]) :: ss) (lEnv (.scr (ns.map .int)) (some (.ref 1)) (some (.int a)) (some (.int b)) (some (.int c)) (some (.int d)) (some (.str x)) (some (.tup cl)) (some (.str f)) (some (.str g)) (some (.ref 26)) (some (.lst [.ref 28, .ref 29, .ref 30, .ref 31, .ref 32])) y12 y13 none) (stF x0 x1 a b c d x cl f g) N V := ⟨step8 h2.h⟩
theorem step9' {n : Nat} {ns : List Int} {x0 x1 : MO} {a b c d : Int} {x f g : Str} {cl : List D} {y12 y13 : Option D} {ss : List S} {N : Env → Store → Prop} {V : D → Store → Prop} (hcl : ClO cl) (h2 : Wr n ss (lEnv (.scr (ns.map .int)) (some (.ref 1)) (some (.int a)) (some (.int b)) (some (.int c)) (some (.int d)) (some (.str x)) (some (.tup cl)) (some (.str f)) (some (.str g)) (some (.ref 26)) (some (.lst [.ref 28, .ref 29, .ref 30, .ref 31, .ref 32])) y12 y13 (some (.lst [.int a, .int b, .str f, .str g, .tup cl, .tup cl]))) (stF x0 x1 a b c d x cl f g) N V) : Wr n (.ite (.cmp .ne (.bin .add (.var 14) (.lst [(.xfld (.idx (.var 10) (.int 4)) 5)])) (.lst [(.var 2), (.var 3), (.var 8), (.var 9), (.var 7), (.var 7), (.var 4)])) [.ret (.bl false)] [] :: ss) (lEnv (.scr (ns.map .int)) (some (.ref 1)) (some (.int a)) (some (.int b)) (some (.int c)) (some (.int d)) (some (.str x)) (some (.tup cl)) (some (.str f)) (some (.str g)) (some (.ref 26)) (some (.lst [.ref 28, .ref 29, .ref 30, .ref 31, .ref 32])) y12 y13 (some (.lst [.int a, .int b, .str f, .str g, .tup cl, .tup cl]))) (stF x0 x1 a b c d x cl f g) N V := ⟨step9 hcl h2.h⟩
theorem step10' {n : Nat} {ns : List Int} {x0 x1 : MO} {a b c d : Int} {x f g : Str} {cl : List D} {y12 y13 : Option D} {ss : List S} {N : Env → Store → Prop} {V : D → Store → Prop} (h2 : Wr n ss (lEnv (.scr (ns.map .int)) (some (.ref 1)) (some (.int a)) (some (.int b)) (some (.int c)) (some (.int d)) (some (.str x)) (some (.tup cl)) (some (.str f)) (some (.str g)) (some (.ref 26)) (some (.lst [.ref 28, .ref 29, .ref 30, .ref 31, .ref 32])) y12 y13 (some (.lst [.int d, .int c, .str "bold", .str "x", .tup [], .tup [.str "z"]]))) (stF x0 x1 a b c d x cl f g) N V) : Wr n (.asg (.nm 14) (.lst [(.xfld (.idx (.var 11) (.int 0)) 0), (.xfld (.idx (.var 11) (.int 0)) 1), (.xfld (.idx (.var 11) (.int 1)) 2), (.xfld (.idx (.var 11) (.int 2)) 3), (.xfld (.idx (.var 11) (.int 2)) 4), (.xfld (.idx (.var 11) (.int 3)) 4)]) :: ss) (lEnv (.scr (ns.map .int)) (some (.ref 1)) (some (.int a)) (some (.int b)) (some (.int c)) (some (.int d)) (some (.str x)) (some (.tup cl)) (some (.str f)) (some (.str g)) (some (.ref 26)) (some (.lst [.ref 28, .ref 29, .ref 30, .ref 31, .ref 32])) y12 y13 (some (.lst [.int a, .int b, .str f, .str g, .tup cl, .tup cl]))) (stF x0 x1 a b c d x cl f g) N V := ⟨step10 h2.h⟩
theorem step11' {n : Nat} {ns : List Int} {x0 x1 : MO} {a b c d : Int} {x f g : Str} {cl : List D} {y12 y13 : Option D} {ss : List S} {N : Env → Store → Prop} {V : D → Store → Prop} (h2 : Wr n ss (lEnv (.scr (ns.map .int)) (some (.ref 1)) (some (.int a)) (some (.int b)) (some (.int c)) (some (.int d)) (some (.str x)) (some (.tup cl)) (some (.str f)) (some (.str g)) (some (.ref 26)) (some (.lst [.ref 28, .ref 29, .ref 30, .ref 31, .ref 32])) y12 y13 (some (.lst [.int d, .int c, .str "bold", .str "x", .tup [], .tup [.str "z"]]))) (stF x0 x1 a b c d x cl f g) N V) : Wr n (.ite (.cmp .ne (.bin .add (.var 14) (.lst [(.xfld (.idx (.var 11) (.int 4)) 5)])) (.lst [(.var 5), (.var 4), (.str "bold"), (.str "x"), (.tup []), (.tup [(.str "z")]), (.var 5)])) [.ret (.bl false)] [] :: ss) (lEnv (.scr (ns.map .int)) (some (.ref 1)) (some (.int a)) (some (.int b)) (some (.int c)) (some (.int d)) (some (.str x)) (some (.tup cl)) (some (.str f)) (some (.str g)) (some (.ref 26)) (some (.lst [.ref 28, .ref 29, .ref 30, .ref 31, .ref 32])) y12 y13 (some (.lst [.int d, .int c, .str "bold", .str "x", .tup [], .tup [.str "z"]]))) (stF x0 x1 a b c d x cl f g) N V := ⟨step11 h2.h⟩
theorem step12' {n : Nat} {ns : List Int} {x0 x1 : MO} {a b c d : Int} {x f g : Str} {cl : List D} {y12 y13 : Option D} {ss : List S} {N : Env → Store → Prop} {V : D → Store → Prop} (hV : ∀ s, V (.bl true) s) : Wr n (.ret (.cmp .eq (.call 5 [(.xnew 1000 [(.var 6)])]) (.bin .add (.bin .mul (.lst [(.bl false)]) (.int 22)) (.lst [(.bl true), (.bl true)]))) :: ss) (lEnv (.scr (ns.map .int)) (some (.ref 1)) (some (.int a)) (some (.int b)) (some (.int c)) (some (.int d)) (some (.str x)) (some (.tup cl)) (some (.str f)) (some (.str g)) (some (.ref 26)) (some (.lst [.ref 28, .ref 29, .ref 30, .ref 31, .ref 32])) y12 y13 (some (.lst [.int d, .int c, .str "bold", .str "x", .tup [], .tup [.str "z"]]))) (stF x0 x1 a b c d x cl f g) N V := ⟨step12 hV⟩
theorem rest {n : Nat} {ns : List Int} {x0 x1 : MO} {a b c d : Int} {x f g : Str} {cl : List D} {N : Env → Store → Prop} {V : D → Store → Prop} (ha : 0 ≤ a ∧ a < 1000000) (hb : 0 ≤ b ∧ b < 1000000) (hc : 0 ≤ c ∧ c < 1000000) (hd : 0 ≤ d ∧ d < 1000000) (hf : f.length ≤ 1000) (hg : g.length ≤ 1000) (hcl : ClO cl) (hV : ∀ s, V (.bl true) s) :
    Wr n [.asg (.nm 10) (.mut (.lst [(.xnew 1001 [(.var 2), (.var 3)]), (.xnew 1002 [(.var 8)]), (.xnew 1003 [(.var 9), (.var 7)]), (.xnew 1004 [(.var 7)]), (.xnew 1005 [(.var 4)])])),
      .asg (.nm 10) (.mut (.bin .add (.var 10) (.lst [(.xnew 1006 [(.var 6)]), (.xnew 1007 [(.var 6)]), (.xnew 1008 [(.var 6)]), (.xnew 1009 [(.var 6)]), (.xnew 1010 [(.var 6)]), (.xnew 1011 [(.var 6)])]))),
      .asg (.nm 10) (.mut (.bin .add (.var 10) (.lst [(.xnew 1012 [(.var 6)]), (.xnew 1013 [(.var 6)]), (.xnew 1014 [(.var 6)]), (.xnew 1015 [(.var 6)]), (.xnew 1016 [(.var 6)])]))),
      .asg (.nm 10) (.mut (.bin .add (.var 10) (.lst [(.xnew 1017 [(.var 6)]), (.xnew 1018 [(.var 6)]), (.xnew 1019 [(.var 6)]), (.xnew 1020 [(.var 6)]), (.xnew 1021 [(.var 6)])]))),
      .exp (.app (.var 10) (.xnew 1022 [(.var 6)])),
      .asg (.nm 11) (.lst [(.xnew 1001 [(.var 5), (.var 4)]), (.xnew 1002 [(.str "bold")]), (.xnew 1003 [(.str "x"), (.tup [])]), (.xnew 1004 [(.tup [(.str "z")])]), (.xnew 1005 [(.var 5)])]),
      .for (.tup [(.nm 12), (.nm 13)]) .enum [(.var 10)] [.ite (.cmp .ne (.call 5 [(.var 13)]) (.bin .add (.lc [16] (.nm 16) .rng1 [(.int 22)] .nul (.cmp .eq (.var 16) (.var 12))) (.lst [(.bl true), (.bl true)]))) [.ret (.bl false)] []],
      .asg (.nm 14) (.lst [(.xfld (.idx (.var 10) (.int 0)) 0), (.xfld (.idx (.var 10) (.int 0)) 1), (.xfld (.idx (.var 10) (.int 1)) 2), (.xfld (.idx (.var 10) (.int 2)) 3), (.xfld (.idx (.var 10) (.int 2)) 4), (.xfld (.idx (.var 10) (.int 3)) 4)]),
      .ite (.cmp .ne (.bin .add (.var 14) (.lst [(.xfld (.idx (.var 10) (.int 4)) 5)])) (.lst [(.var 2), (.var 3), (.var 8), (.var 9), (.var 7), (.var 7), (.var 4)])) [.ret (.bl false)] [],
      .asg (.nm 14) (.lst [(.xfld (.idx (.var 11) (.int 0)) 0), (.xfld (.idx (.var 11) (.int 0)) 1), (.xfld (.idx (.var 11) (.int 1)) 2), (.xfld (.idx (.var 11) (.int 2)) 3), (.xfld (.idx (.var 11) (.int 2)) 4), (.xfld (.idx (.var 11) (.int 3)) 4)]),
      .ite (.cmp .ne (.bin .add (.var 14) (.lst [(.xfld (.idx (.var 11) (.int 4)) 5)])) (.lst [(.var 5), (.var 4), (.str "bold"), (.str "x"), (.tup []), (.tup [(.str "z")]), (.var 5)])) [.ret (.bl false)] [],
      .ret (.cmp .eq (.call 5 [(.xnew 1000 [(.var 6)])]) (.bin .add (.bin .mul (.lst [(.bl false)]) (.int 22)) (.lst [(.bl true), (.bl true)])))] (lEnv (.scr (ns.map .int)) (some (.ref 1)) (some (.int a)) (some (.int b)) (some (.int c)) (some (.int d)) (some (.str x)) (some (.tup cl)) (some (.str f)) (some (.str g)) none none none none none) [x0, x1] N V :=
  step1' ha hb hc hf hg (step2' (step3' (step4' (step5' (step6' hc hd (step7' fun y12 y13 => step8' (step9' hcl (step10' (step11' (step12' hV)))))))))) 
theorem run_law {n : Nat} {ns : List Int} (hl : ns.length ≤ 63) : WPE xF (cf (n + 10) 6 [.scr (ns.map .int)] []) fun d _ => d = .bl true := by
  refine call_wp (ft := f6) rfl rfl ?_
  unfold f6
  walk_at "z0"
  rw [s_cons]
  refine first (n := n + 8) hl fun st1 hU h1 => ?_
  rw [s_cons]
  refine four (n := n + 7) hU fun a b c d s hd ha hb hc hd' => ?_
  rw [s_cons]
  refine texts (n := n + 6) hd.urn fun x cl s2 hd2 hx hcl => ?_
  rw [s_cons]
  refine names (n := n + 6) hd2.urn fun f g s3 hd3 hf hg => ?_
  have hlen : s3.length = 2 := by
    have e1 := hd.1
    have e2 := hd2.1
    have e3 := hd3.1
    omega
  match s3, hlen with
  | [x0, x1], _ => exact (rest ha hb hc hd' hf hg hcl fun s => rfl).h
theorem math (ns : List Int) (h : ns.length ≤ 63) : ∃ st, callN (txOf cons clss) (fnOfTab tab) 100 6 [.scr (ns.map .int)] [] = .ok (.bl true) st := by
  obtain ⟨a, st, e, rfl⟩ := WP_get (run_law (n := 90) h)
  exact ⟨st, e⟩
end Law
end Cip

set_option maxHeartbeats 0
namespace Cip
open PySem PySem.Spec PyProof.Rows L2
namespace Law
theorem tab_ok : tabOk (pnOf tab cons clss) tab sts = true := by kernel_rfl
abbrev Rw : PySem.W.OpenRow := PySem.W.OpenLaw.row PySem.Challenge.rw_clipforms_k06_errors
abbrev hk : PySem.W.Hook := hookC 7 cons (faOf tab clss) (fnOf tab sts clss) clss
def ob (s : PySem.W.SharedT) : AlC := obsCG 7 cons (faOf tab clss) (fnOf tab sts clss) (HandSHeadRun.getT s) clss
theorem ob_eq (s : PySem.W.SharedT) : ob s = hk.obs s.abs := obsCG_eq (HandSHeadRun.getT_eq s)
def loose : List PySem.Str := ([Str.ofString "ClipError", Str.ofString "SyntaxProblem", Str.ofString "NotCarried", Str.ofString "NotMakable", Str.ofString "Gone", Str.ofString "TooMany", Str.ofString "NoContent", Str.ofString "NoForm", Str.ofString "NoMaker", Str.ofString "NoProgram", Str.ofString "NoDocument", Str.ofString "NoEntry", Str.ofString "NoPlace", Str.ofString "NoMark", Str.ofString "NotOffered", Str.ofString "NameTaken", Str.ofString "TooLarge", Str.ofString "NothingToUndo", Str.ofString "EditedSince", Str.ofString "HistoryFull", Str.ofString "InvalidCommand", Str.ofString "NoDesk", Str.ofString "NoLink", Str.ofString "_law_churned", Str.ofString "_law_urn_of", Str.ofString "_law_upto", Str.ofString "_law_choice", Str.ofString "_law_equal", Str.ofString "_law_kinds_of"] : List PySem.Str)
theorem hrun (w : World) : HandSHeadRun.RunEq Rw (PySem.W.view Rw.prog [31]) hk ob 6000 loose w := by
  intro os
  kernel_rfl
end Law
end Cip
open PySem PySem.W PySem.Calls PyProof.Rows
theorem PySem.Challenge.cw_clipforms_k06_errors_holds : PySem.Challenge.rw_clipforms_k06_errors.Holds := by
  w_on; o_law
  refine HandSHeadRun.head_any (r := OpenLaw.row PySem.Challenge.rw_clipforms_k06_errors) (q := view (OpenLaw.row PySem.Challenge.rw_clipforms_k06_errors).prog [31]) (H := Cip.Law.hk) (ob := Cip.Law.ob) (M := 6000) (loose := Cip.Law.loose) (d := HandSHeadRun.topDef (OpenLaw.row PySem.Challenge.rw_clipforms_k06_errors).prog 31) (kwd := []) Cip.Law.ob_eq
    (by kernel_rfl) (fun s => by kernel_rfl) Cip.Law.hrun (by kernel_rfl) (by kernel_rfl) (by kernel_rfl) (by rfl) (by first | assumption | decide +kernel) (by decide +kernel) ⟨rfl, rfl, rfl, rfl, rfl, by decide +kernel⟩ ?hw ?hc
  case hw => w_witness2
  case hc => exact Cip.law_walk (l := PySem.Challenge.rw_clipforms_k06_errors) (n := 63) (k := 100) (i := 6) (x := "script") (C := Cip.Law.clss) rfl (by decide) (by kernel_rfl) ⟨rfl, by decide, by decide⟩ (by decide) (by first | exact .inl rfl | exact .inr ⟨by kernel_rfl, by kernel_rfl⟩) Cip.Law.tab_ok rfl rfl (by kernel_rfl) (by kernel_rfl) Cip.Law.math

